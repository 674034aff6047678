import Derived.Test.YtfmbgiahleepfadGreatDoorV2
set_option maxRecDepth 100000
set_option maxHeartbeats 2000000
set_option linter.unusedVariables false
set_option linter.unusedSimpArgs false
namespace Go.Proofs
open Go Go.Ab
open AOps Cert AWp Keeps KeepsT
variable {lou:Lou}
def Z146 (a0:TRef) (a1:TRef):Option Bool:=guardO (((a0.FName==a1.FName))) (Z134 a0.FWraps a1.FWraps) false fun x3=>some (((a0.FName==a1.FName))&&x3)
theorem Z146_walk {a0 a1:TRef}{r:Bool}(hE:Z146 a0 a1=some r) (H:Heap) :ACalls Tryz.prog 124 [.agg (TRef.c a0),.agg (TRef.c a1)] H fun v h'=>v=.a (.d (.bool r))/\h'=H:=by
 unfold Z146 at hE;refine ACalls.oW 17 [.tmp 4] Tryz.call124 Tryz.func124 ?_;refine seqR (S BX (S BX (S As (nil ?_))));refine seqR (S Fv (S Ld (S Fv (S Ld (S BS (S Mv (G0 Fv ?_)))))));refine G1 11 rfl Ld ?_;refine G0 Fv ?_;refine G1 13 rfl Ld ?_;obtain⟨x3,gx3,hE⟩:=gO hE;refine Gc2 12 14 rfl rfl rfl rfl rfl rfl (fun hC=>Z134_walk (gx3 hC)) ?_;refine S PA (S As (nil ?_));exact rt hE
def Z17_j10 (s22_5:Nat) (k_next_4:Nat->Z0->Option Z0) (y11_c0:Z0):Option Z0:=k_next_4 (s22_5+1) y11_c0
def Z17_j36 (s94_31:Nat) (k_next_30:Nat->Z0->Option Z0) (y37_c0:Z0):Option Z0:=k_next_30 (s94_31+1) y37_c0
def Z17_l30 (s22_5:Nat) (x13:Z5) (x16:Bs) (x18:(Z5×Bool)) (k_next_4:Nat->Z0->Option Z0):Nat->Nat->Z0->Option Z0
 | 0,_,_=>none
 | n30+1,s94_31,y32_c0=>bif (decide (((s94_31:Nat):Int)<((x18.1.FArgs.l.length:Nat):Int))) then((x18.1.FArgs.l[s94_31]?).bind fun x39=>(Z115 x13.FArgs x39.FName).bind fun x41=>guardO ((!x41.2)) (Z144 x39.FType) false fun x43=>bif (((!x41.2)&&x43)&&(!x39.FHas)) then((catC x16 ([40]:Bs)).bind fun x45=>(catC x45 x39.FName).bind fun x46=>(catC x46 ([41]:Bs)).bind fun x47=>(Z16 y32_c0 (22:Int) x47).bind fun x48=>Z17_j36 s94_31 ((Z17_l30 s22_5 x13 x16 x18 k_next_4 n30)) x48) else(Z17_j36 s94_31 ((Z17_l30 s22_5 x13 x16 x18 k_next_4 n30)) y32_c0)) else(Z17_j10 s22_5 k_next_4 y32_c0)
def Z17_j26 (s22_5:Nat) (x13:Z5) (x16:Bs) (x18:(Z5×Bool)) (k_next_4:Nat->Z0->Option Z0) (y27_c0:Z0):Option Z0:=Z17_l30 s22_5 x13 x16 x18 k_next_4 (x18.1.FArgs.l.length+1) 0 y27_c0
def Z17_j57 (s60_52:Nat) (k_next_51:Nat->Z0->Option Z0) (y58_c0:Z0):Option Z0:=k_next_51 (s60_52+1) y58_c0
def Z17_l51 (s22_5:Nat) (x13:Z5) (x16:Bs) (x18:(Z5×Bool)) (k_next_4:Nat->Z0->Option Z0):Nat->Nat->Z0->Option Z0
 | 0,_,_=>none
 | n51+1,s60_52,y53_c0=>bif (decide (((s60_52:Nat):Int)<((x13.FArgs.l.length:Nat):Int))) then((x13.FArgs.l[s60_52]?).bind fun x60=>(Z115 x18.1.FArgs x60.FName).bind fun x62=>guardO (!(!x62.2)) (Z146 x60.FType x62.1.FType) false fun x64=>bif ((!x62.2)||(!x64)) then((catC x16 ([40]:Bs)).bind fun x66=>(catC x66 x60.FName).bind fun x67=>(catC x67 ([41]:Bs)).bind fun x68=>(Z16 y53_c0 (22:Int) x68).bind fun x69=>Z17_j57 s60_52 ((Z17_l51 s22_5 x13 x16 x18 k_next_4 n51)) x69) else(Z17_j57 s60_52 ((Z17_l51 s22_5 x13 x16 x18 k_next_4 n51)) y53_c0)) else(Z17_j26 s22_5 x13 x16 x18 k_next_4 y53_c0)
def Z17_j24 (s22_5:Nat) (x13:Z5) (x16:Bs) (x18:(Z5×Bool)) (k_next_4:Nat->Z0->Option Z0) (y25_c0:Z0):Option Z0:=Z17_l51 s22_5 x13 x16 x18 k_next_4 (x13.FArgs.l.length+1) 0 y25_c0
def Z17_l4 (a1:TDef) (a2:TDef) :Nat->Nat->Z0->Option Z0
 | 0,_,_=>none
 | n4+1,s22_5,y6_c0=>bif (decide (((s22_5:Nat):Int)<((a2.FFields.l.length:Nat):Int))) then((a2.FFields.l[s22_5]?).bind fun x13=>(catC a1.FName ([46]:Bs)).bind fun x15=>(catC x15 x13.FName).bind fun x16=>(Z113 a1 x13.FName).bind fun x18=>bif (!x18.2) then((Z16 y6_c0 (20:Int) x16).bind fun x23=>Z17_j10 s22_5 ((Z17_l4 a1 a2 n4)) x23) else((Z15 y6_c0.Fd x18.1.FType x13.FType).bind fun x71=>bif (!x71) then((Z16 y6_c0 (10:Int) x16).bind fun x73=>Z17_j24 s22_5 x13 x16 x18 ((Z17_l4 a1 a2 n4)) x73) else(Z17_j24 s22_5 x13 x16 x18 ((Z17_l4 a1 a2 n4)) y6_c0))) else(some y6_c0)
def Z17 (a0:Z0) (a1:TDef) (a2:TDef):Option Z0:=Z17_l4 a1 a2 (a2.FFields.l.length+1) 0 a0
theorem Z17_walk {a0:Z0}{a1 a2:TDef}{c0 c0_1:Nat}{r:Z0}(hE:Z17 a0 a1 a2=some r) (H:Heap) (hc0:H c0=some (.cells (Z0.cg (some c0_1) a0))) (ht0_1:H c0_1=some (.tok 2 a0.Fout.l.length)):ACalls Tryz.prog 77 [.d (.ptr c0 0),.agg (TDef.c a1),.agg (TDef.c a2)] H fun v h'=>v=.tup []/\h'=((H.set c0_1 (some (.tok 2 r.Fout.l.length))).set c0 (some (.cells (Z0.cg (some c0_1) r)))):=by
 unfold Z17 at hE;refine ACalls.oW 128 [] Tryz.call77 Tryz.func77 ?_;have ne_c0_c0_1:c0≠c0_1:=fun e_=>by subst e_; simp_all
 refine AWp.heqA (h':=((H.set c0_1 (some (.tok 2 a0.Fout.l.length))).set c0 (some (.cells (Z0.cg (some c0_1) a0))))) (by funext n_; simp only [Heap.set]; (repeat' split)<;>simp_all) ?_;refine seqR (S BX (S BX (nil ?_)));refine seqR (S Fv (S Ld ?_));refine sLen (f:=Z5.c) (s:=a2.FFields) (TK rfl) rfl rfl rfl rfl fun hL3=>?_;refine S Mv (nil ?_);refine block ?_;refine loopH (TA 0 (TA 4 (TA 20 (TA 21 KeepsT.nil)))) (fun(z:Nat×Nat×Z0)=>[(22,.a (.d (.int .i64 ((z.2.1:Nat):Int))))]) (fun z=>((H.set c0_1 (some (.tok 2 z.2.2.Fout.l.length))).set c0 (some (.cells (Z0.cg (some c0_1) z.2.2))))) (fun z=>z.1) (fun z=>Z17_l4 a1 a2 z.1 z.2.1 z.2.2=some r) ((a2.FFields.l.length+1),0,a0) hE Weak.toA ?_
 rintro ⟨n4,s22_5,y6_c0⟩ hE K4 hK4;try dsimp only at hE
 cases n4 with
 | zero=>cases hE
 | succ n4 =>
   rw [Z17_l4] at hE;refine seqR (S BI (nil ?_));refine seqK fun K8 hK8=>?_;refine cE hE (fun hc9 hE=>?_) (fun hc9 hE=>?_)
   ·try dsimp only at hc9
    have hf9:=of_decide_eq_true hc9;refine sk hK8 ?_;clear hK8 K8;refine seqJH (TA 0 (TA 4 (TA 20 (TA 21 (TA 22 KeepsT.nil))))) (fun(z:Z0)=>[]) (fun z=>((H.set c0_1 (some (.tok 2 z.Fout.l.length))).set c0 (some (.cells (Z0.cg (some c0_1) z))))) (fun z=>Z17_j10 s22_5 ((Z17_l4 a1 a2 n4)) z=some r) ?_ ?_
    ·intro K10 hK10;refine block ?_;refine seqR ?_;obtain⟨x13,gx13,hE⟩:=bO hE;refine S (ix Z5.c s22_5 gx13) (S Ld ?_);refine Sl ?_;refine Sf ?_;refine nil ?_;refine freezeA 7 _ rfl (KA 0 (KA 4 (KA 20 (KA 21 (KA 22 Keeps.nil))))) ?_;refine seqR (S Fv (S Ld ?_));obtain⟨x15,gx15,hE⟩:=bO hE;refine s0 (catM rfl rfl gx15) rfl ?_;refine S Fv (S Ld ?_);obtain⟨x16,gx16,hE⟩:=bO hE;refine s0 (catM rfl rfl gx16) rfl ?_
     refine S As (nil ?_);refine seqR (S Ld (S Fv (S Ld ?_)));obtain⟨x18,gx18,hE⟩:=bO hE;refine Sc rfl rfl (Z113_walk gx18) ?_;refine S Mv (S EX (S EX ?_));refine Sl ?_;refine Sf ?_;refine S As (nil ?_);refine freezeA 9 _ rfl (KA 0 (KA 4 (KA 7 (KA 8 (KA 10 (KA 20 (KA 21 (KA 22 Keeps.nil)))))))) ?_;refine seqK fun K19 hK19=>?_;refine seqR (S Mv (S NB (nil ?_)));refine cE hE (fun hc21 hE=>?_) (fun hc21 hE=>?_)
     ·refine seqR (S Mv (S Mv ?_));obtain⟨x23,gx23,hE⟩:=bO hE;refine sH (callH rfl rfl (Z16_walk gx23 _ hpG hpG)) rfl ?_;refine hq ((H.set c0_1 (some (.tok 2 x23.Fout.l.length))).set c0 (some (.cells (Z0.cg (some c0_1) x23)))) ?_;refine nil ?_;refine AWp.exit ?_;exact hK10 _ x23 Weak.toA hE
     refine sk hK19 ?_;clear hK19 K19;refine seqJH (TA 0 (TA 4 (TA 7 (TA 8 (TA 9 (TA 20 (TA 21 (TA 22 KeepsT.nil)))))))) (fun(z:Z0)=>[]) (fun z=>((H.set c0_1 (some (.tok 2 z.Fout.l.length))).set c0 (some (.cells (Z0.cg (some c0_1) z))))) (fun z=>Z17_j24 s22_5 x13 x16 x18 ((Z17_l4 a1 a2 n4)) z=some r) ?_ ?_
     ·intro K24 hK24;refine AWp.seqD (Sd Mv (Sd NP ?_));refine DOps.s0 (fieldP (TK rfl) rfl rfl (TK rfl) rfl rfl) rfl ?_;refine DOps.s0 (loadP (TK rfl) rfl rfl hpG rfl) rfl ?_;refine Sd Fv (Sd Ld (Sd Fv (Sd Ld ?_)));obtain⟨x71,gx71,hE⟩:=bO hE;refine Scd rfl rfl (Z15_walk gx71) ?_;refine Sd NB ?_;refine DOps.nil (by decide +kernel) ?_;refine cE hE (fun hc72 hE=>?_) (fun hc72 hE=>?_)
      ·refine region ?_;refine S Mv (S Mv ?_);obtain⟨x73,gx73,hE⟩:=bO hE;refine sH (callH rfl rfl (Z16_walk gx73 _ hpG hpG)) rfl ?_;refine hq ((H.set c0_1 (some (.tok 2 x73.Fout.l.length))).set c0 (some (.cells (Z0.cg (some c0_1) x73)))) ?_;refine nil ?_;exact hK24 _ x73 Weak.toA hE
      refine AWp.skip ?_;exact hK24 _ y6_c0 Weak.toA hE
     rintro y25_c0 hE;try dsimp only at hE
     unfold Z17_j24 at hE;refine seqJH (TA 0 (TA 4 (TA 7 (TA 8 (TA 9 (TA 20 (TA 21 (TA 22 KeepsT.nil)))))))) (fun(z:Z0)=>[]) (fun z=>((H.set c0_1 (some (.tok 2 z.Fout.l.length))).set c0 (some (.cells (Z0.cg (some c0_1) z))))) (fun z=>Z17_j26 s22_5 x13 x16 x18 ((Z17_l4 a1 a2 n4)) z=some r) ?_ ?_
     ·intro K26 hK26;refine seqR (S Fv (S Ld ?_));refine sLen (f:=Z7.c) (s:=x13.FArgs) (TK rfl) rfl rfl rfl rfl fun hL50=>?_;refine S Mv (nil ?_);refine block ?_;refine loopH (TA 0 (TA 4 (TA 7 (TA 8 (TA 9 (TA 20 (TA 21 (TA 22 (TA 58 (TA 59 KeepsT.nil)))))))))) (fun(z:Nat×Nat×Z0)=>[(60,.a (.d (.int .i64 ((z.2.1:Nat):Int))))]) (fun z=>((H.set c0_1 (some (.tok 2 z.2.2.Fout.l.length))).set c0 (some (.cells (Z0.cg (some c0_1) z.2.2))))) (fun z=>z.1) (fun z=>Z17_l51 s22_5 x13 x16 x18 ((Z17_l4 a1 a2 n4)) z.1 z.2.1 z.2.2=some r) ((x13.FArgs.l.length+1),0,y25_c0) hE Weak.toA ?_
      rintro ⟨n51,s60_52,y53_c0⟩ hE K51 hK51;try dsimp only at hE
      cases n51 with
      | zero=>cases hE
      | succ n51 =>
        rw [Z17_l51] at hE;refine seqR (S BI (nil ?_));refine seqK fun K55 hK55=>?_;refine cE hE (fun hc56 hE=>?_) (fun hc56 hE=>?_)
        ·try dsimp only at hc56
         have hf56:=of_decide_eq_true hc56;refine sk hK55 ?_;clear hK55 K55;refine seqJH (TA 0 (TA 4 (TA 7 (TA 8 (TA 9 (TA 20 (TA 21 (TA 22 (TA 58 (TA 59 (TA 60 KeepsT.nil))))))))))) (fun(z:Z0)=>[]) (fun z=>((H.set c0_1 (some (.tok 2 z.Fout.l.length))).set c0 (some (.cells (Z0.cg (some c0_1) z))))) (fun z=>Z17_j57 s60_52 ((Z17_l51 s22_5 x13 x16 x18 ((Z17_l4 a1 a2 n4)) n51)) z=some r) ?_ ?_
         ·intro K57 hK57;refine block ?_;refine seqR ?_;obtain⟨x60,gx60,hE⟩:=bO hE;refine S (ix Z7.c s60_52 gx60) (S Ld ?_);refine Sl ?_;refine Sf ?_;refine nil ?_;refine freezeA 12 _ rfl (KA 0 (KA 4 (KA 7 (KA 8 (KA 9 (KA 20 (KA 21 (KA 22 (KA 58 (KA 59 (KA 60 Keeps.nil))))))))))) ?_;refine seqR (S Fv (S Ld (S Fv (S Ld ?_))));obtain⟨x62,gx62,hE⟩:=bO hE;refine Sc rfl rfl (Z115_walk gx62) ?_;refine S Mv (S EX (S EX ?_))
          refine Sl ?_;refine Sf ?_;refine S As (nil ?_);refine freezeA 13 _ rfl (KA 0 (KA 4 (KA 7 (KA 8 (KA 9 (KA 12 (KA 14 (KA 20 (KA 21 (KA 22 (KA 58 (KA 59 (KA 60 Keeps.nil))))))))))))) ?_;refine seqR (S Mv (S NB (S Mv (G0 Fv ?_))));refine G1 75 rfl Ld ?_;refine G0 Fv ?_;refine G1 77 rfl Ld ?_;obtain⟨x64,gx64,hE⟩:=gO hE;refine Gc2 76 78 rfl rfl rfl rfl rfl rfl (fun hC=>Z146_walk (gx64 hC)) ?_;refine G1 79 rfl NB ?_
          refine S PO (nil ?_);refine cE hE (fun hc65 hE=>?_) (fun hc65 hE=>?_)
          ·refine region ?_;refine S Mv (S Mv ?_);obtain⟨x66,gx66,hE⟩:=bO hE;refine s0 (catM rfl rfl gx66) rfl ?_;refine S Fv (S Ld ?_);obtain⟨x67,gx67,hE⟩:=bO hE;refine s0 (catM rfl rfl gx67) rfl ?_;obtain⟨x68,gx68,hE⟩:=bO hE;refine s0 (catM rfl rfl gx68) rfl ?_;obtain⟨x69,gx69,hE⟩:=bO hE;refine sH (callH rfl rfl (Z16_walk gx69 _ hpG hpG)) rfl ?_;refine hq ((H.set c0_1 (some (.tok 2 x69.Fout.l.length))).set c0 (some (.cells (Z0.cg (some c0_1) x69)))) ?_
           refine nil ?_;exact hK57 _ x69 Weak.toA hE
          refine AWp.skip ?_;exact hK57 _ y53_c0 Weak.toA hE
         rintro y58_c0 hE;try dsimp only at hE
         unfold Z17_j57 at hE;refine region ?_;refine SI ?_;refine S Mv (nil ?_);exact hK51 _ (n51,(s60_52+1),y58_c0) Weak.toA hE (Nat.lt_succ_self _)
        refine AWp.exit ?_;exact hK26 _ y53_c0 Weak.toA hE
     rintro y27_c0 hE;try dsimp only at hE
     unfold Z17_j26 at hE;refine seqR (S Fv (S Ld ?_));refine sLen (f:=Z7.c) (s:=x18.1.FArgs) (TK rfl) rfl rfl rfl rfl fun hL29=>?_;refine S Mv (nil ?_);refine block ?_;refine loopH (TA 0 (TA 4 (TA 7 (TA 8 (TA 20 (TA 21 (TA 22 (TA 92 (TA 93 KeepsT.nil))))))))) (fun(z:Nat×Nat×Z0)=>[(94,.a (.d (.int .i64 ((z.2.1:Nat):Int))))]) (fun z=>((H.set c0_1 (some (.tok 2 z.2.2.Fout.l.length))).set c0 (some (.cells (Z0.cg (some c0_1) z.2.2))))) (fun z=>z.1) (fun z=>Z17_l30 s22_5 x13 x16 x18 ((Z17_l4 a1 a2 n4)) z.1 z.2.1 z.2.2=some r) ((x18.1.FArgs.l.length+1),0,y27_c0) hE Weak.toA ?_
     rintro ⟨n30,s94_31,y32_c0⟩ hE K30 hK30;try dsimp only at hE
     cases n30 with
     | zero=>cases hE
     | succ n30 =>
       rw [Z17_l30] at hE;refine seqR (S BI (nil ?_));refine seqK fun K34 hK34=>?_;refine cE hE (fun hc35 hE=>?_) (fun hc35 hE=>?_)
       ·try dsimp only at hc35
        have hf35:=of_decide_eq_true hc35;refine sk hK34 ?_;clear hK34 K34;refine seqJH (TA 0 (TA 4 (TA 7 (TA 8 (TA 20 (TA 21 (TA 22 (TA 92 (TA 93 (TA 94 KeepsT.nil)))))))))) (fun(z:Z0)=>[]) (fun z=>((H.set c0_1 (some (.tok 2 z.Fout.l.length))).set c0 (some (.cells (Z0.cg (some c0_1) z))))) (fun z=>Z17_j36 s94_31 ((Z17_l30 s22_5 x13 x16 x18 ((Z17_l4 a1 a2 n4)) n30)) z=some r) ?_ ?_
        ·intro K36 hK36;refine block ?_;refine seqR ?_;obtain⟨x39,gx39,hE⟩:=bO hE;refine S (ix Z7.c s94_31 gx39) (S Ld ?_);refine Sl ?_;refine Sf ?_;refine nil ?_;refine freezeA 16 _ rfl (KA 0 (KA 4 (KA 7 (KA 8 (KA 20 (KA 21 (KA 22 (KA 92 (KA 93 (KA 94 Keeps.nil)))))))))) ?_;refine seqR (S Fv (S Ld (S Fv (S Ld ?_))));obtain⟨x41,gx41,hE⟩:=bO hE;refine Sc rfl rfl (Z115_walk gx41) ?_;refine S Mv (S EX (S EX ?_))
         refine Sl ?_;refine Sf ?_;refine S As (nil ?_);refine freezeA 17 _ rfl (KA 0 (KA 4 (KA 7 (KA 8 (KA 16 (KA 18 (KA 20 (KA 21 (KA 22 (KA 92 (KA 93 (KA 94 Keeps.nil)))))))))))) ?_;refine seqR (S Mv (S NB (S Mv (G0 Fv ?_))));refine G1 109 rfl Ld ?_;obtain⟨x43,gx43,hE⟩:=gO hE;refine Gc1 110 rfl rfl rfl rfl rfl (fun hC=>Z144_walk (gx43 hC)) ?_;refine S PA (S Mv (G0 Fv ?_));refine G1 114 rfl Ld ?_
         refine G1 115 rfl NB ?_;refine S PA (nil ?_);refine cE hE (fun hc44 hE=>?_) (fun hc44 hE=>?_)
         ·refine region ?_;refine S Mv (S Mv ?_);obtain⟨x45,gx45,hE⟩:=bO hE;refine s0 (catM rfl rfl gx45) rfl ?_;refine S Fv (S Ld ?_);obtain⟨x46,gx46,hE⟩:=bO hE;refine s0 (catM rfl rfl gx46) rfl ?_;obtain⟨x47,gx47,hE⟩:=bO hE;refine s0 (catM rfl rfl gx47) rfl ?_;obtain⟨x48,gx48,hE⟩:=bO hE;refine sH (callH rfl rfl (Z16_walk gx48 _ hpG hpG)) rfl ?_;refine hq ((H.set c0_1 (some (.tok 2 x48.Fout.l.length))).set c0 (some (.cells (Z0.cg (some c0_1) x48)))) ?_
          refine nil ?_;exact hK36 _ x48 Weak.toA hE
         refine AWp.skip ?_;exact hK36 _ y32_c0 Weak.toA hE
        rintro y37_c0 hE;try dsimp only at hE
        unfold Z17_j36 at hE;refine region ?_;refine SI ?_;refine S Mv (nil ?_);exact hK30 _ (n30,(s94_31+1),y37_c0) Weak.toA hE (Nat.lt_succ_self _)
       refine AWp.exit ?_;exact hK10 _ y32_c0 Weak.toA hE
    rintro y11_c0 hE;try dsimp only at hE
    unfold Z17_j10 at hE;refine region ?_;refine SI ?_;refine S Mv (nil ?_);exact hK4 _ (n4,(s22_5+1),y11_c0) Weak.toA hE (Nat.lt_succ_self _)
   refine AWp.exit ?_;repeat (first|refine xBlock_normal ?_|refine xThen_exit ?_|refine xBlock_exit ?_)
   obtain rfl:=Option.some.inj hE;refine retQ.normalF ((H.set c0_1 (some (.tok 2 y6_c0.Fout.l.length))).set c0 (some (.cells (Z0.cg (some c0_1) y6_c0)))) (xs:=[]) rfl ⟨rfl,rfl⟩ ?_;exact(fun _ _ h=>h)
def Z19_j10 (s12_5:Nat) (k_next_4:Nat->Z0->Option Z0) (y11_c0:Z0):Option Z0:=k_next_4 (s12_5+1) y11_c0
def Z19_j16 (a1:TDef) (s12_5:Nat) (y6_c0:Z0) (x13:Bs) (k_next_4:Nat->Z0->Option Z0) (s6_17:Int):Option Z0:=bif (!decide (s6_17=(0:Int))) then((Z16 y6_c0 s6_17 a1.FName).bind fun x22=>Z19_j10 s12_5 k_next_4 x22) else((Z114 y6_c0.Fd x13).bind fun x24=>(Z17 y6_c0 a1 x24.1).bind fun x25=>Z19_j10 s12_5 k_next_4 x25)
def Z19_l4 (a1:TDef) :Nat->Nat->Z0->Option Z0
 | 0,_,_=>none
 | n4+1,s12_5,y6_c0=>bif (decide (((s12_5:Nat):Int)<((a1.FImplements.l.length:Nat):Int))) then((a1.FImplements.l[s12_5]?).bind fun x13=>(Z18 y6_c0 x13 (2:Int)).bind fun x15=>guardO ((decide (x15=(0:Int)))) (partC a1.FImplements none (some ((s12_5:Nat):Int))) (Sl.nil:Sl Bs) fun x27=>guardO ((decide (x15=(0:Int)))) (Z133 x27 x13) false fun x28=>bif ((decide (x15=(0:Int)))&&x28) then(Z19_j16 a1 s12_5 y6_c0 x13 ((Z19_l4 a1 n4)) (7:Int)) else(Z19_j16 a1 s12_5 y6_c0 x13 ((Z19_l4 a1 n4)) x15)) else(some y6_c0)
def Z19 (a0:Z0) (a1:TDef):Option Z0:=Z19_l4 a1 (a1.FImplements.l.length+1) 0 a0
theorem Z19_walk {a0:Z0}{a1:TDef}{c0 c0_1:Nat}{r:Z0}(hE:Z19 a0 a1=some r) (H:Heap) (hc0:H c0=some (.cells (Z0.cg (some c0_1) a0))) (ht0_1:H c0_1=some (.tok 2 a0.Fout.l.length)):ACalls Tryz.prog 31 [.d (.ptr c0 0),.agg (TDef.c a1)] H fun v h'=>v=.tup []/\h'=((H.set c0_1 (some (.tok 2 r.Fout.l.length))).set c0 (some (.cells (Z0.cg (some c0_1) r)))):=by
 unfold Z19 at hE;refine ACalls.oW 51 [] Tryz.call31 Tryz.func31 ?_;have ne_c0_c0_1:c0≠c0_1:=fun e_=>by subst e_; simp_all
 refine AWp.heqA (h':=((H.set c0_1 (some (.tok 2 a0.Fout.l.length))).set c0 (some (.cells (Z0.cg (some c0_1) a0))))) (by funext n_; simp only [Heap.set]; (repeat' split)<;>simp_all) ?_;refine seqR (S BX (nil ?_));refine seqR (S Fv (S Ld ?_));refine sLen (f:=strE) (s:=a1.FImplements) (TK rfl) rfl rfl rfl rfl fun hL3=>?_;refine S Mv (nil ?_);refine block ?_;refine loopH (TA 0 (TA 3 (TA 10 (TA 11 KeepsT.nil)))) (fun(z:Nat×Nat×Z0)=>[(12,.a (.d (.int .i64 ((z.2.1:Nat):Int))))]) (fun z=>((H.set c0_1 (some (.tok 2 z.2.2.Fout.l.length))).set c0 (some (.cells (Z0.cg (some c0_1) z.2.2))))) (fun z=>z.1) (fun z=>Z19_l4 a1 z.1 z.2.1 z.2.2=some r) ((a1.FImplements.l.length+1),0,a0) hE Weak.toA ?_
 rintro ⟨n4,s12_5,y6_c0⟩ hE K4 hK4;try dsimp only at hE
 cases n4 with
 | zero=>cases hE
 | succ n4 =>
   rw [Z19_l4] at hE;refine seqR (S BI (nil ?_));refine seqK fun K8 hK8=>?_;refine cE hE (fun hc9 hE=>?_) (fun hc9 hE=>?_)
   ·try dsimp only at hc9
    have hf9:=of_decide_eq_true hc9;refine sk hK8 ?_;clear hK8 K8;refine seqJH (TA 0 (TA 3 (TA 10 (TA 11 (TA 12 KeepsT.nil))))) (fun(z:Z0)=>[]) (fun z=>((H.set c0_1 (some (.tok 2 z.Fout.l.length))).set c0 (some (.cells (Z0.cg (some c0_1) z))))) (fun z=>Z19_j10 s12_5 ((Z19_l4 a1 n4)) z=some r) ?_ ?_
    ·intro K10 hK10;refine block ?_;refine seqR (S Mv ?_);obtain⟨x13,gx13,hE⟩:=bO hE;refine S (ix strE s12_5 gx13) (S Ld (S As (S As (nil ?_))));refine seqR (S Mv (S Mv ?_));obtain⟨x15,gx15,hE⟩:=bO hE;refine s0 (callR rfl rfl (Z18_walk gx15 _ hpG)) rfl ?_;refine S As (nil ?_);refine seqJH (TA 0 (TA 3 (TA 5 (TA 10 (TA 11 (TA 12 KeepsT.nil)))))) (fun(z:Int)=>[(6,.a (.d (.int .i64 z)))]) (fun z=>((H.set c0_1 (some (.tok 2 y6_c0.Fout.l.length))).set c0 (some (.cells (Z0.cg (some c0_1) y6_c0))))) (fun z=>Z19_j16 a1 s12_5 y6_c0 x13 ((Z19_l4 a1 n4)) z=some r) ?_ ?_
     ·intro K16 hK16;refine seqR (S Mv (S BI (S Mv (G0 Fv ?_))));refine G1 23 rfl Ld ?_;refine G0 Mv ?_;obtain⟨x27,gx27,hE⟩:=gO hE;refine gC rfl rfl (fun hC=>ungdA (k:=24) rfl (ungdA (k:=25) rfl (partM (f:=strE) (l:=none) (r:=(some ((s12_5:Nat):Int))) (TK rfl) rfl (TK rfl) rfl rfl trivial rfl (gx27 hC)))) rfl ?_;refine G0 Mv ?_;obtain⟨x28,gx28,hE⟩:=gO hE;refine Gc2 26 27 rfl rfl rfl rfl rfl rfl (fun hC=>Z133_walk (gx28 hC)) ?_
      refine S PA (nil ?_);refine cE hE (fun hc29 hE=>?_) (fun hc29 hE=>?_)
      ·refine region ?_;refine S As (nil ?_);exact hK16 _ (7:Int) Weak.toA hE
      refine AWp.skip ?_;exact hK16 _ x15 Weak.toA hE
     rintro s6_17 hE;try dsimp only at hE
     unfold Z19_j16 at hE;refine seqK fun K18 hK18=>?_;refine seqR (S Mv (S BI (nil ?_)));refine cE hE (fun hc20 hE=>?_) (fun hc20 hE=>?_)
     ·refine seqR (S Mv (S Mv (S Fv (S Ld ?_))));obtain⟨x22,gx22,hE⟩:=bO hE;refine sH (callH rfl rfl (Z16_walk gx22 _ hpG hpG)) rfl ?_;refine hq ((H.set c0_1 (some (.tok 2 x22.Fout.l.length))).set c0 (some (.cells (Z0.cg (some c0_1) x22)))) ?_;refine nil ?_;refine AWp.exit ?_;exact hK10 _ x22 Weak.toA hE
     refine sk hK18 ?_;clear hK18 K18;refine seqR (S Mv (S NP ?_));refine s0 (fieldP (TK rfl) rfl rfl (TK rfl) rfl rfl) rfl ?_;refine s0 (loadP (TK rfl) rfl rfl hpG rfl) rfl ?_;refine S Mv ?_;obtain⟨x24,gx24,hE⟩:=bO hE;refine Sc rfl rfl (Z114_walk gx24) ?_;refine S Mv (S EX (S EX ?_));refine Sl ?_;refine Sf ?_;refine S As (nil ?_);refine freezeA 7 _ rfl (KA 0 (KA 3 (KA 10 (KA 11 (KA 12 Keeps.nil))))) ?_
     refine region ?_;refine S Mv (S Ld (S Ld ?_));obtain⟨x25,gx25,hE⟩:=bO hE;refine sH (callH rfl rfl (Z17_walk gx25 _ hpG hpG)) rfl ?_;refine hq ((H.set c0_1 (some (.tok 2 x25.Fout.l.length))).set c0 (some (.cells (Z0.cg (some c0_1) x25)))) ?_;refine nil ?_;exact hK10 _ x25 Weak.toA hE
    rintro y11_c0 hE;try dsimp only at hE
    unfold Z19_j10 at hE;refine region ?_;refine SI ?_;refine S Mv (nil ?_);exact hK4 _ (n4,(s12_5+1),y11_c0) Weak.toA hE (Nat.lt_succ_self _)
   refine AWp.exit ?_;repeat (first|refine xBlock_normal ?_|refine xThen_exit ?_|refine xBlock_exit ?_)
   obtain rfl:=Option.some.inj hE;refine retQ.normalF ((H.set c0_1 (some (.tok 2 y6_c0.Fout.l.length))).set c0 (some (.cells (Z0.cg (some c0_1) y6_c0)))) (xs:=[]) rfl ⟨rfl,rfl⟩ ?_;exact(fun _ _ h=>h)
def Z135_j2  :Option Int:=some (-1:Int)
def Z135_l6 (a0:(Sl Z8)) (a1:(Z8->Option Bool)) :Nat->Nat->Option Int
 | 0,_=>none
 | n6+1,s8_7=>bif (decide (((s8_7:Nat):Int)<((a0.l.length:Nat):Int))) then((a0.l[s8_7]?).bind fun x14=>(a1 x14).bind fun x15=>bif x15 then(some ((s8_7:Nat):Int)) else((Z135_l6 a0 a1 n6) (s8_7+1))) else(Z135_j2   )
def Z135 (a0:(Sl Z8)) (a1:(Z8->Option Bool)):Option Int:=Z135_l6 a0 a1 (a0.l.length+1) 0
theorem Z135_walk {a0:Sl Z8}{a1:Z8->Option Bool}{w0:Option Nat}{cl1:List D}{k1:Nat}{r:Int}(hE:Z135 a0 a1=some r) (H:Heap) (hf1:∀x0 r,a1 x0=some r->∀H,ACalls Tryz.prog k1 ([.agg (Z8.c x0)]++cl1.map A.d) H fun v h'=>v=.a (.d (.bool r))/\h'=H):ACalls Tryz.prog 78 [.d (Sl.d 2 Z8.c w0 a0),.d (.func k1 cl1)] H fun v h'=>v=.a (.d (.int .i64 r))/\h'=H:=by
 unfold Z135 at hE;refine ACalls.oW 19 [.tmp 4] Tryz.call78 Tryz.func78 ?_;refine seqR (S As (nil ?_));refine seqJH KeepsT.nil (fun(z:Unit)=>[]) (fun z=>H) (fun z=>Z135_j2 =some r) ?_ ?_
 ·intro K2 hK2;refine seqR (S Mv ?_);refine sLen (f:=Z8.c) (s:=a0) (TK rfl) rfl rfl rfl rfl fun hL5=>?_;refine S Mv (nil ?_);refine block ?_;refine loopH (TA 0 (TA 1 (TA 7 KeepsT.nil))) (fun(z:Nat×Nat)=>[(8,.a (.d (.int .i64 ((z.2:Nat):Int))))]) (fun z=>H) (fun z=>z.1) (fun z=>Z135_l6 a0 a1 z.1 z.2=some r) ((a0.l.length+1),0) hE Weak.toA ?_;rintro ⟨n6,s8_7⟩ hE K6 hK6;try dsimp only at hE
  cases n6 with
  | zero=>cases hE
  | succ n6 =>
    rw [Z135_l6] at hE;refine seqR (S BI (nil ?_));refine seqK fun K9 hK9=>?_;refine cE hE (fun hc10 hE=>?_) (fun hc10 hE=>?_)
    ·try dsimp only at hc10
     have hf10:=of_decide_eq_true hc10;refine sk hK9 ?_;clear hK9 K9;refine seqK fun K11 hK11=>?_;refine block ?_;refine seqR (S Mv (S As (nil ?_)));refine seqR (S Mv (S Mv (S Mv ?_)));obtain⟨x14,gx14,hE⟩:=bO hE;refine S (ix Z8.c s8_7 gx14) (S Ld ?_);obtain⟨x15,gx15,hE⟩:=bO hE;refine s0 (callP rfl rfl (hf1 _ _ gx15)) rfl ?_;refine nil ?_;refine cE hE (fun hc16 hE=>?_) (fun hc16 hE=>?_)
     ·refine seqR (S Mv (S As (nil ?_)));exact rt hE
     refine sk hK11 ?_;clear hK11 K11;refine region ?_;refine SI ?_;refine S Mv (nil ?_);exact hK6 _ (n6,(s8_7+1)) Weak.toA hE (Nat.lt_succ_self _)
    refine AWp.exit ?_;exact hK2 _ () Weak.toA hE
 rintro _ hE;try dsimp only at hE
 unfold Z135_j2 at hE;refine seqR (S As (nil ?_));exact rt hE
def Z132 (a0:(Sl Z8)) (a1:(Z8->Option Bool)):Option Bool:=(Z135 a0 a1).bind fun x3=>some (decide ((0:Int)<=x3))
theorem Z132_walk {a0:Sl Z8}{a1:Z8->Option Bool}{w0:Option Nat}{cl1:List D}{k1:Nat}{r:Bool}(hE:Z132 a0 a1=some r) (H:Heap) (hf1:∀x0 r,a1 x0=some r->∀H,ACalls Tryz.prog k1 ([.agg (Z8.c x0)]++cl1.map A.d) H fun v h'=>v=.a (.d (.bool r))/\h'=H):ACalls Tryz.prog 33 [.d (Sl.d 2 Z8.c w0 a0),.d (.func k1 cl1)] H fun v h'=>v=.a (.d (.bool r))/\h'=H:=by
 unfold Z132 at hE;refine ACalls.oW 9 [.tmp 4] Tryz.call33 Tryz.func33 ?_;refine seqR (S As (nil ?_));refine seqR (S Mv (S Mv ?_));obtain⟨x3,gx3,hE⟩:=bO hE;refine s0 (callP rfl rfl (fun H=>Z135_walk gx3 H hf1)) rfl ?_;refine S BI (S As (nil ?_));exact rt hE
def Z12 (a0:Z8) (a1:Z8):Option Bool:=some ((a0.FName==a1.FName))
theorem Z12_walk {a0 a1:Z8}{r:Bool}(hE:Z12 a0 a1=some r) (H:Heap) :ACalls Tryz.prog 34 [.agg (Z8.c a0),.d (.view (Z8.c a1))] H fun v h'=>v=.a (.d (.bool r))/\h'=H:=by
 unfold Z12 at hE;refine ACalls.oW 9 [.tmp 3] Tryz.call34 Tryz.func34 ?_;refine seqR (S BX (S As (nil ?_)));refine seqR (S Fv (S Ld (S Fv (S Ld (S BS (S As (nil ?_)))))));exact rt hE
end Go.Proofs

namespace Go.Proofs
open Go Go.Ab
open AOps Cert AWp Keeps KeepsT
variable {lou:Lou}
def Z11_j5  (y6_id11_3:Z0):Option (Sl Z4):=some y6_id11_3.Fout
def Z11_j16 (s15_11:Nat) (k_next_10:Nat->Z0->Option (Sl Z4)) (y17_id11_3:Z0):Option (Sl Z4):=k_next_10 (s15_11+1) y17_id11_3
def Z11_j34 (s31_29:Nat) (k_next_28:Nat->Z0->Option (Sl Z4)) (y35_id11_3:Z0):Option (Sl Z4):=k_next_28 (s31_29+1) y35_id11_3
def Z11_j40 (x19:TDef) (s31_29:Nat) (y30_id11_3:Z0) (x37:Z8) (k_next_28:Nat->Z0->Option (Sl Z4)) (s8_41:Int):Option (Sl Z4):=bif (!decide (s8_41=(0:Int))) then((catC x19.FName ([46]:Bs)).bind fun x44=>(catC x44 x37.FName).bind fun x45=>(Z16 y30_id11_3 s8_41 x45).bind fun x46=>Z11_j34 s31_29 k_next_28 x46) else(Z11_j34 s31_29 k_next_28 y30_id11_3)
def Z11_l28 (s15_11:Nat) (x19:TDef) (k_next_10:Nat->Z0->Option (Sl Z4)):Nat->Nat->Z0->Option (Sl Z4)
 | 0,_,_=>none
 | n28+1,s31_29,y30_id11_3=>bif (decide (((s31_29:Nat):Int)<((x19.FMembers.l.length:Nat):Int))) then((x19.FMembers.l[s31_29]?).bind fun x37=>(Z18 y30_id11_3 x37.FName (1:Int)).bind fun x39=>guardO ((decide (x39=(0:Int)))) (partC x19.FMembers none (some ((s31_29:Nat):Int))) (Sl.nil:Sl Z8) fun x48=>guardO ((decide (x39=(0:Int)))) (Z132 x48 (fun y0=>Z12 y0 x37)) false fun x49=>bif ((decide (x39=(0:Int)))&&x49) then(Z11_j40 x19 s31_29 y30_id11_3 x37 ((Z11_l28 s15_11 x19 k_next_10 n28)) (7:Int)) else(Z11_j40 x19 s31_29 y30_id11_3 x37 ((Z11_l28 s15_11 x19 k_next_10 n28)) x39)) else(Z11_j16 s15_11 k_next_10 y30_id11_3)
def Z11_l10 (a0:TDoc) :Nat->Nat->Z0->Option (Sl Z4)
 | 0,_,_=>none
 | n10+1,s15_11,y12_id11_3=>bif (decide (((s15_11:Nat):Int)<((a0.FDefs.l.length:Nat):Int))) then((a0.FDefs.l[s15_11]?).bind fun x19=>bif (decide (x19.FKind=(1:Int))) then((Z19 y12_id11_3 x19).bind fun x23=>Z11_j16 s15_11 ((Z11_l10 a0 n10)) x23) else(bif (decide (x19.FKind=(3:Int))) then(Z11_l28 s15_11 x19 ((Z11_l10 a0 n10)) (x19.FMembers.l.length+1) 0 y12_id11_3) else(Z11_j16 s15_11 ((Z11_l10 a0 n10)) y12_id11_3))) else(Z11_j5   y12_id11_3)
def Z11 (a0:TDoc):Option (Sl Z4):=Z11_l10 a0 (a0.FDefs.l.length+1) 0 (Z0.mk a0 (Sl.nil:Sl Z4))
theorem Z11_tok {a0:TDoc}{r:Sl Z4}(hE:Z11 a0=some r) (H:Heap){tk0:Nat}(htk0:H tk0=some (.tok 2 0)):ACalls Tryz.prog 13 [.agg (TDoc.c a0)] H fun v h'=>v=.a (.d (Sl.d 2 Z4.c (some tk0) r))/\h'=H.set tk0 (some (.tok 2 r.l.length)):=by
 unfold Z11 at hE;refine ACalls.oW 67 [.tmp 2] Tryz.call13 Tryz.func13 ?_;refine AWp.heqA (h':=(H.set tk0 (some (.tok 2 0)))) (by funext n_; simp only [Heap.set]; (repeat' split)<;>simp_all) ?_;refine seqR (S BX (S As (nil ?_)));refine seqR (S Ld (S BU ?_));refine sE (StepE.boxO rfl) rfl (fun _ _ _ ⟨id11_3,hid11_3,e1,e2,e3⟩=>?_); subst e1 e2 e3;obtain⟨ne_id11_3_tk0,hid11_3⟩:=Heap.set_fresh hid11_3
 refine AOps.recell id11_3 _ hpG (fun j w cs hh hx=>tok_cell 1 2 2 hh (t:=tk0) hpG hx rfl) ?_;refine hq ((H.set tk0 (some (.tok 2 0))).set id11_3 (some (.cells (Z0.cg (some tk0) (Z0.mk a0 (Sl.nil:Sl Z4)))))) ?_;refine S As (nil ?_);refine seqJH (TA 3 KeepsT.nil) (fun(z:Z0)=>[]) (fun z=>((H.set tk0 (some (.tok 2 z.Fout.l.length))).set id11_3 (some (.cells (Z0.cg (some tk0) z))))) (fun z=>Z11_j5 z=some r) ?_ ?_
 ·intro K5 hK5;refine seqR (S Fv (S Ld ?_));refine sLen (f:=TDef.c) (s:=a0.FDefs) (TK rfl) rfl rfl rfl rfl fun hL9=>?_;refine S Mv (nil ?_);refine block ?_;refine loopH (TA 3 (TA 13 (TA 14 KeepsT.nil))) (fun(z:Nat×Nat×Z0)=>[(15,.a (.d (.int .i64 ((z.2.1:Nat):Int))))]) (fun z=>((H.set tk0 (some (.tok 2 z.2.2.Fout.l.length))).set id11_3 (some (.cells (Z0.cg (some tk0) z.2.2))))) (fun z=>z.1) (fun z=>Z11_l10 a0 z.1 z.2.1 z.2.2=some r) ((a0.FDefs.l.length+1),0,(Z0.mk a0 (Sl.nil:Sl Z4))) hE Weak.toA ?_
  rintro ⟨n10,s15_11,y12_id11_3⟩ hE K10 hK10;try dsimp only at hE
  cases n10 with
  | zero=>cases hE
  | succ n10 =>
    rw [Z11_l10] at hE;refine seqR (S BI (nil ?_));refine seqK fun K14 hK14=>?_;refine cE hE (fun hc15 hE=>?_) (fun hc15 hE=>?_)
    ·try dsimp only at hc15
     have hf15:=of_decide_eq_true hc15;refine sk hK14 ?_;clear hK14 K14;refine seqJH (TA 3 (TA 13 (TA 14 (TA 15 KeepsT.nil)))) (fun(z:Z0)=>[]) (fun z=>((H.set tk0 (some (.tok 2 z.Fout.l.length))).set id11_3 (some (.cells (Z0.cg (some tk0) z))))) (fun z=>Z11_j16 s15_11 ((Z11_l10 a0 n10)) z=some r) ?_ ?_
     ·intro K16 hK16;refine block ?_;refine seqR ?_;obtain⟨x19,gx19,hE⟩:=bO hE;refine S (ix TDef.c s15_11 gx19) (S Ld ?_);refine Sl ?_;refine Sf ?_;refine nil ?_;refine freezeA 5 _ rfl (KA 3 (KA 13 (KA 14 (KA 15 Keeps.nil)))) ?_;refine seqR (S Fv (S Ld (nil ?_)));refine block ?_;refine seqR (S BI (S As (nil ?_)));refine cE hE (fun hc22 hE=>?_) (fun hc22 hE=>?_)
      ·refine region ?_;refine S Mv (S Ld ?_);obtain⟨x23,gx23,hE⟩:=bO hE;refine sH (callH rfl rfl (Z19_walk gx23 _ hpG hpG)) rfl ?_;refine hq ((H.set tk0 (some (.tok 2 x23.Fout.l.length))).set id11_3 (some (.cells (Z0.cg (some tk0) x23)))) ?_;refine nil ?_;exact hK16 _ x23 Weak.toA hE
      refine seqR (S BI (S As (nil ?_)));refine cE hE (fun hc25 hE=>?_) (fun hc25 hE=>?_)
      ·refine seqR (S Fv (S Ld ?_));refine sLen (f:=Z8.c) (s:=x19.FMembers) (TK rfl) rfl rfl rfl rfl fun hL27=>?_;refine S Mv (nil ?_);refine block ?_;refine loopH (TA 3 (TA 5 (TA 13 (TA 14 (TA 15 (TA 29 (TA 30 KeepsT.nil))))))) (fun(z:Nat×Nat×Z0)=>[(31,.a (.d (.int .i64 ((z.2.1:Nat):Int))))]) (fun z=>((H.set tk0 (some (.tok 2 z.2.2.Fout.l.length))).set id11_3 (some (.cells (Z0.cg (some tk0) z.2.2))))) (fun z=>z.1) (fun z=>Z11_l28 s15_11 x19 ((Z11_l10 a0 n10)) z.1 z.2.1 z.2.2=some r) ((x19.FMembers.l.length+1),0,y12_id11_3) hE Weak.toA ?_
       rintro ⟨n28,s31_29,y30_id11_3⟩ hE K28 hK28;try dsimp only at hE
       cases n28 with
       | zero=>cases hE
       | succ n28 =>
         rw [Z11_l28] at hE;refine seqR (S BI (nil ?_));refine seqK fun K32 hK32=>?_;refine cE hE (fun hc33 hE=>?_) (fun hc33 hE=>?_)
         ·try dsimp only at hc33
          have hf33:=of_decide_eq_true hc33;refine sk hK32 ?_;clear hK32 K32;refine seqJH (TA 3 (TA 5 (TA 13 (TA 14 (TA 15 (TA 29 (TA 30 (TA 31 KeepsT.nil)))))))) (fun(z:Z0)=>[]) (fun z=>((H.set tk0 (some (.tok 2 z.Fout.l.length))).set id11_3 (some (.cells (Z0.cg (some tk0) z))))) (fun z=>Z11_j34 s31_29 ((Z11_l28 s15_11 x19 ((Z11_l10 a0 n10)) n28)) z=some r) ?_ ?_
          ·intro K34 hK34;refine block ?_;refine seqR (S Mv ?_);obtain⟨x37,gx37,hE⟩:=bO hE;refine S (ix Z8.c s31_29 gx37) (S Ld ?_);refine Sl ?_;refine S As ?_;refine Sf ?_;refine nil ?_;refine freezeA 7 _ rfl (KA 3 (KA 5 (KA 6 (KA 13 (KA 14 (KA 15 (KA 29 (KA 30 (KA 31 Keeps.nil))))))))) ?_;refine seqR (S Mv (S Fv (S Ld ?_)));obtain⟨x39,gx39,hE⟩:=bO hE;refine s0 (callR rfl rfl (Z18_walk gx39 _ hpG)) rfl ?_
           refine S As (nil ?_);refine seqJH (TA 3 (TA 5 (TA 7 (TA 13 (TA 14 (TA 15 (TA 29 (TA 30 (TA 31 KeepsT.nil))))))))) (fun(z:Int)=>[(8,.a (.d (.int .i64 z)))]) (fun z=>((H.set tk0 (some (.tok 2 y30_id11_3.Fout.l.length))).set id11_3 (some (.cells (Z0.cg (some tk0) y30_id11_3))))) (fun z=>Z11_j40 x19 s31_29 y30_id11_3 x37 ((Z11_l28 s15_11 x19 ((Z11_l10 a0 n10)) n28)) z=some r) ?_ ?_
           ·intro K40 hK40;refine seqR (S Mv (S BI (S Mv (G0 Fv ?_))));refine G1 43 rfl Ld ?_;refine G0 Mv ?_;obtain⟨x48,gx48,hE⟩:=gO hE;refine gC rfl rfl (fun hC=>ungdA (k:=44) rfl (ungdA (k:=45) rfl (partM (f:=Z8.c) (l:=none) (r:=(some ((s31_29:Nat):Int))) (TK rfl) rfl (TK rfl) rfl rfl trivial rfl (gx48 hC)))) rfl ?_;refine gC rfl rfl (fun hC=>makeFunc rfl) rfl ?_;obtain⟨x49,gx49,hE⟩:=gO hE;refine gC rfl rfl (fun hC=>ungdA (k:=46) rfl (ungdA (k:=47) rfl (callP rfl rfl (fun H=>Z132_walk (gx49 hC) H (fun _ _ hx=>Z12_walk hx))))) rfl ?_
            refine S PA (nil ?_);refine cE hE (fun hc50 hE=>?_) (fun hc50 hE=>?_)
            ·refine region ?_;refine S As (nil ?_);exact hK40 _ (7:Int) Weak.toA hE
            refine AWp.skip ?_;exact hK40 _ x39 Weak.toA hE
           rintro s8_41 hE;try dsimp only at hE
           unfold Z11_j40 at hE;refine seqR (S Mv (S BI (nil ?_)));refine cE hE (fun hc43 hE=>?_) (fun hc43 hE=>?_)
           ·refine region ?_;refine S Mv (S Mv (S Fv (S Ld ?_)));obtain⟨x44,gx44,hE⟩:=bO hE;refine s0 (catM rfl rfl gx44) rfl ?_;refine S Fv (S Ld ?_);obtain⟨x45,gx45,hE⟩:=bO hE;refine s0 (catM rfl rfl gx45) rfl ?_;obtain⟨x46,gx46,hE⟩:=bO hE;refine sH (callH rfl rfl (Z16_walk gx46 _ hpG hpG)) rfl ?_;refine hq ((H.set tk0 (some (.tok 2 x46.Fout.l.length))).set id11_3 (some (.cells (Z0.cg (some tk0) x46)))) ?_
            refine nil ?_;exact hK34 _ x46 Weak.toA hE
           refine AWp.skip ?_;exact hK34 _ y30_id11_3 Weak.toA hE
          rintro y35_id11_3 hE;try dsimp only at hE
          unfold Z11_j34 at hE;refine region ?_;refine SI ?_;refine S Mv (nil ?_);exact hK28 _ (n28,(s31_29+1),y35_id11_3) Weak.toA hE (Nat.lt_succ_self _)
         refine AWp.exit ?_;exact hK16 _ y30_id11_3 Weak.toA hE
      refine AWp.skip ?_;exact hK16 _ y12_id11_3 Weak.toA hE
     rintro y17_id11_3 hE;try dsimp only at hE
     unfold Z11_j16 at hE;refine region ?_;refine SI ?_;refine S Mv (nil ?_);exact hK10 _ (n10,(s15_11+1),y17_id11_3) Weak.toA hE (Nat.lt_succ_self _)
    refine AWp.exit ?_;exact hK5 _ y12_id11_3 Weak.toA hE
 rintro y6_id11_3 hE;try dsimp only at hE
 unfold Z11_j5 at hE;refine seqR (S Mv (S NP ?_));refine s0 (fieldP (TK rfl) rfl rfl (TK rfl) rfl rfl) rfl ?_;refine s0 (loadP (TK rfl) rfl rfl hpG rfl) rfl ?_;refine S As (nil ?_);refine AWp.ret ?_;repeat (first|refine xBlock_ret ?_|refine xThen_ret ?_)
 obtain rfl:=Option.some.inj hE;refine retQ.retF (H.set tk0 (some (.tok 2 y6_id11_3.Fout.l.length))) rfl ⟨rfl,rfl⟩ ?_;intro id_ o_ he_;have e_id11_3:id_≠id11_3:=fun e_=>by subst e_; simp_all [Heap.set]
 rw [<- he_];simp only [Heap.set] at he_ ⊢
 (repeat' split)<;>simp_all
def Z131 (a0:(Sl Bs)):Option (Sl Bs):=bif a0.nl then(some (Sl.nil:Sl Bs)) else((appC 16 (⟨false,[]⟩:Sl Bs) a0).bind fun x7=>some x7)
theorem Z131_walk {a0:Sl Bs}{w0:Option Nat}{r:Sl Bs}(hE:Z131 a0=some r) (H:Heap) :ACalls Tryz.prog 166 [.d (Sl.d 1 strE w0 a0)] H fun v h'=>v=.a (.d (Sl.d 1 strE none r))/\h'=H:=by
 unfold Z131 at hE;refine ACalls.oW 8 [.tmp 2] Tryz.call166 Tryz.func166 ?_;refine seqR ?_;refine s0 (assignNil (k':=1) rfl) rfl ?_;refine nil ?_;refine seqK fun K2 hK2=>?_;refine seqR (S Mv ?_);refine s0 (eqNil (TK rfl) rfl rfl) rfl ?_;refine nil ?_;refine cE hE (fun hc4 hE=>?_) (fun hc4 hE=>?_)
 ·refine seqR ?_;refine s0 (assignNil (k':=1) rfl) rfl ?_;refine nil ?_;exact rt hE
 refine sk hK2 ?_;clear hK2 K2;refine seqR ?_;refine s0 (buildSliceF (TK rfl) rfl (TK rfl) rfl rfl rfl rfl rfl rfl) rfl ?_;refine S Mv ?_;obtain⟨x7,gx7,hE⟩:=bO hE;refine s0 (appFM (f:=strE) (TK rfl) rfl (TK rfl) (TK rfl) ⟨_,rfl⟩ rfl rfl (by decide) rfl rfl rfl (by intro q h; cases h<;>decide) rfl rfl gx7) rfl ?_;refine S As (nil ?_);exact rt hE
def Z155_j3  (s3_4:(Sl Z10)):Option (Sl Z10):=some s3_4
def Z155_l8 (a0:(Sl Z10)) (k_rec_128:Z10->Option Z10):Nat->(Sl Z10)->Nat->Option (Sl Z10)
 | 0,_,_=>none
 | n8+1,s3_9,s8_10=>bif (decide (((s8_10:Nat):Int)<((a0.l.length:Nat):Int))) then((a0.l[s8_10]?).bind fun x16=>(k_rec_128 x16).bind fun x17=>(appC 80 s3_9 (⟨false,[x17]⟩:Sl Z10)).bind fun x18=>(Z155_l8 a0 k_rec_128 n8) x18 (s8_10+1)) else(Z155_j3   s3_9)
mutual
def value_Copy_n:Nat->Z10->Option Z10
 | 0,_=>none
 | n+1,a0=>((Z155_n n) a0.FItems).bind fun x3=>(Z131 a0.FKeys).bind fun x5=>some (Z10.mk a0.FKind a0.FInt a0.FText x3.nl x3.l x5)
def Z155_n:Nat->(Sl Z10)->Option (Sl Z10)
 | 0,_=>none
 | n+1,a0=>Z155_l8 a0 (value_Copy_n n) (a0.l.length+1) (Sl.nil:Sl Z10) 0
end
theorem value_Copy_step (n:Nat) (ih_128:∀{a0 r:Z10},value_Copy_n n a0=some r->∀(H:Heap),ACalls Tryz.prog 128 [.agg (Z10.c a0)] H fun v h'=>v=.a (.agg (Z10.c r))/\h'=H) (ih_165:∀{a0:Sl Z10}{w0:Option Nat}{r:Sl Z10},Z155_n n a0=some r->∀(H:Heap),ACalls Tryz.prog 165 [.d (Sl.d 5 Z10.c w0 a0)] H fun v h'=>v=.a (.d (Sl.d 5 Z10.c none r))/\h'=H):∀{a0 r:Z10},value_Copy_n (n+1) a0=some r->∀(H:Heap),ACalls Tryz.prog 128 [.agg (Z10.c a0)] H fun v h'=>v=.a (.agg (Z10.c r))/\h'=H:=by
 intro a0   r hE H ;rw [value_Copy_n] at hE;refine ACalls.oW 12 [.cell 2 86] Tryz.call128 Tryz.func128 ?_;refine seqR ?_;refine sL (boxL rfl (by repeat (first|exact Snoc.nil|apply Snoc.cons))) rfl ?_;refine Sl ?_;refine nil ?_;refine seqR (S FL ?_);refine AOps.relocal 0 (Z10.cu a0) rfl (fun j w cs hh hx=>by rw [<- Z10.cu_eq]; exact hx) ?_;refine S LL ?_;obtain⟨x3,gx3,hE⟩:=bO hE;refine Sc rfl rfl (ih_165 gx3) ?_
 refine S FL ?_;refine Sf ?_;refine AOps.relocal 0 (Z10.c (Z10.mk a0.FKind a0.FInt a0.FText x3.nl x3.l a0.FKeys)) rfl (fun j w cs hh hx=>by rw [Z10.cu_eq]; exact hx) ?_;refine nil ?_;refine seqR (S FL (S LL ?_));obtain⟨x5,gx5,hE⟩:=bO hE;refine Sc rfl rfl (Z131_walk gx5) ?_;refine S FL ?_;refine AOps.relocal 0 (Z10.cu (Z10.mk a0.FKind a0.FInt a0.FText x3.nl x3.l a0.FKeys)) rfl (fun j w cs hh hx=>by rw [<- Z10.cu_eq]; exact hx) ?_
 refine Sf ?_;refine AOps.relocal 0 (Z10.c (Z10.mk a0.FKind a0.FInt a0.FText x3.nl x3.l x5)) rfl (fun j w cs hh hx=>by rw [Z10.cu_eq]; exact hx) ?_;refine nil ?_;refine seqR (S LL ?_);refine Sf ?_;refine nil ?_;exact rt hE
theorem Z155_step (n:Nat) (ih_128:∀{a0 r:Z10},value_Copy_n n a0=some r->∀(H:Heap),ACalls Tryz.prog 128 [.agg (Z10.c a0)] H fun v h'=>v=.a (.agg (Z10.c r))/\h'=H) (ih_165:∀{a0:Sl Z10}{w0:Option Nat}{r:Sl Z10},Z155_n n a0=some r->∀(H:Heap),ACalls Tryz.prog 165 [.d (Sl.d 5 Z10.c w0 a0)] H fun v h'=>v=.a (.d (Sl.d 5 Z10.c none r))/\h'=H):∀{a0:Sl Z10}{w0:Option Nat}{r:Sl Z10},Z155_n (n+1) a0=some r->∀(H:Heap),ACalls Tryz.prog 165 [.d (Sl.d 5 Z10.c w0 a0)] H fun v h'=>v=.a (.d (Sl.d 5 Z10.c none r))/\h'=H:=by
 intro a0 w0  r hE H ;rw [Z155_n] at hE;refine ACalls.oW 19 [.tmp 2] Tryz.call165 Tryz.func165 ?_;refine AWp.tok 5 fun tk1 htk1=>?_;refine seqR ?_;refine s0 (assignNil (k':=5) rfl) rfl ?_;refine nil ?_;refine seqR (S As (nil ?_));refine AWp.nilTok 3 5 tk1 rfl hpG ?_;refine seqJH KeepsT.nil (fun(z:(Sl Z10))=>[(3,.a (.d (Sl.d 5 Z10.c (some tk1) z)))]) (fun z=>(H.set tk1 (some (.tok 5 z.l.length)))) (fun z=>Z155_j3 z=some r) ?_ ?_
 ·intro K3 hK3;refine seqR (S Mv ?_);refine sLen (f:=Z10.c) (s:=a0) (TK rfl) rfl rfl rfl rfl fun hL7=>?_;refine S Mv (nil ?_);refine block ?_;refine loopH (TA 6 (TA 7 KeepsT.nil)) (fun(z:Nat×(Sl Z10)×Nat)=>[(3,.a (.d (Sl.d 5 Z10.c (some tk1) z.2.1))),(8,.a (.d (.int .i64 ((z.2.2:Nat):Int))))]) (fun z=>(H.set tk1 (some (.tok 5 z.2.1.l.length)))) (fun z=>z.1) (fun z=>Z155_l8 a0 (value_Copy_n n) z.1 z.2.1 z.2.2=some r) ((a0.l.length+1),(Sl.nil:Sl Z10),0) hE Weak.toA ?_
  rintro ⟨n8,s3_9,s8_10⟩ hE K8 hK8;try dsimp only at hE
  cases n8 with
  | zero=>cases hE
  | succ n8 =>
    rw [Z155_l8] at hE;refine seqR (S BI (nil ?_));refine seqK fun K12 hK12=>?_;refine cE hE (fun hc13 hE=>?_) (fun hc13 hE=>?_)
    ·try dsimp only at hc13
     have hf13:=of_decide_eq_true hc13;refine sk hK12 ?_;clear hK12 K12;refine seqK fun K14 hK14=>?_;refine block ?_;refine seqR ?_;obtain⟨x16,gx16,hE⟩:=bO hE;refine S (ix Z10.c s8_10 gx16) (S Ld ?_);refine Sl ?_;refine Sf ?_;refine nil ?_;refine freezeA 5 _ rfl (KA 3 (KA 6 (KA 7 (KA 8 Keeps.nil)))) ?_;refine region ?_;refine S Mv (S Ld ?_);obtain⟨x17,gx17,hE⟩:=bO hE;refine Sc rfl rfl (ih_128 gx17) ?_
     refine S BV ?_;obtain⟨x18,gx18,hE⟩:=bO hE;refine SH (am Z10.c (TK rfl) rfl (TK rfl) (TK rfl) gx18) ?_;refine hq (H.set tk1 (some (.tok 5 x18.l.length))) ?_;refine S As (nil ?_);refine hK14 _ ?_;clear hK14 K14;refine region ?_;refine SI ?_;refine S Mv (nil ?_);exact hK8 _ (n8,x18,(s8_10+1)) Weak.toA hE (Nat.lt_succ_self _)
    refine AWp.exit ?_;exact hK3 _ s3_9 Weak.toA hE
 rintro s3_4 hE;try dsimp only at hE
 unfold Z155_j3 at hE;refine seqR (S Mv (S As (nil ?_)));refine AWp.dropTok 2 rfl ?_;refine AWp.ret ?_;repeat (first|refine xBlock_ret ?_|refine xThen_ret ?_)
 obtain rfl:=Option.some.inj hE;refine retQ.retF H rfl ⟨rfl,rfl⟩ ?_
 first|exact Heap.sub_set htk1|(simp only [Heap.set_set]; exact Heap.sub_set htk1)
theorem value_Copy_all:∀(n:Nat),(∀{a0 r:Z10},value_Copy_n n a0=some r->∀(H:Heap),ACalls Tryz.prog 128 [.agg (Z10.c a0)] H fun v h'=>v=.a (.agg (Z10.c r))/\h'=H)/\(∀{a0:Sl Z10}{w0:Option Nat}{r:Sl Z10},Z155_n n a0=some r->∀(H:Heap),ACalls Tryz.prog 165 [.d (Sl.d 5 Z10.c w0 a0)] H fun v h'=>v=.a (.d (Sl.d 5 Z10.c none r))/\h'=H)
 | 0=>⟨fun hE=>by first|cases hE|(rw [value_Copy_n] at hE; cases hE),fun hE=>by first|cases hE|(rw [Z155_n] at hE; cases hE)⟩
 | n+1=>⟨value_Copy_step n (value_Copy_all n).1 (value_Copy_all n).2,Z155_step n (value_Copy_all n).1 (value_Copy_all n).2⟩
def value_Copy (a0:Z10):Option Z10:=value_Copy_n F0 a0
theorem value_Copy_walk {a0 r:Z10}(hE:value_Copy a0=some r) (H:Heap) :ACalls Tryz.prog 128 [.agg (Z10.c a0)] H fun v h'=>v=.a (.agg (Z10.c r))/\h'=H:=(value_Copy_all F0).1 hE H 
def Z153 (a0:Z10) (a1:Bs):Option (Z10×Bool):=(Z136 a0.FKeys a1).bind fun x3=>bif (((!decide (a0.FKind=(6:Int)))||(decide (x3<(0:Int))))||(decide (((a0.FItems.l.length:Nat):Int)<=x3))) then(some ((Z10.mk (0:Int) (0:Int) ([]:Bs) true ([]) (Sl.nil:Sl Bs)),false)) else((idxC a0.FItems.l x3).bind fun x9=>(value_Copy x9).bind fun x10=>some (x10,true))
theorem Z153_walk {a0:Z10}{a1:Bs}{r:Z10×Bool}(hE:Z153 a0 a1=some r) (H:Heap) :ACalls Tryz.prog 126 [.agg (Z10.c a0),.d (.str a1)] H fun v h'=>v=.tup [.agg (Z10.c r.1),.d (.bool r.2)]/\h'=H:=by
 unfold Z153 at hE;refine ACalls.oW 32 [.cell 4 86,.tmp 5] Tryz.call126 Tryz.func126 ?_;refine seqR (S BX ?_);refine Sl ?_;refine S As (nil ?_);refine seqR (S Fv (S Ld (S Mv ?_)));obtain⟨x3,gx3,hE⟩:=bO hE;refine Sc rfl rfl (Z136_walk gx3) ?_;refine S As (nil ?_);refine seqK fun K4 hK4=>?_;refine seqR (S Fv (S Ld (S BI (S Mv (G0 Mv ?_)))));refine G1 15 rfl BI ?_;refine S PO (S Mv (G0 Mv (G0 Fv ?_)))
 refine gC rfl rfl (fun hC=>ungdA (k:=20) rfl (loadV (TK rfl) rfl rfl (congrArg (fun x=>some (A.d x)) (Z10.FItemsD_eq _)))) rfl ?_;refine gC rfl rfl (fun hC=>ungdA (k:=21) rfl (lenM' (f:=Z10.c) (s:=a0.FItems) (TK rfl) rfl rfl rfl)) rfl ?_;refine G2 19 22 rfl rfl BI ?_;refine S PO (nil ?_);refine cE hE (fun hc6 hE=>?_) (fun hc6 hE=>?_)
 ·refine seqR (S BU ?_);refine Sf ?_;refine S As (nil ?_);exact rt hE
 refine sk hK4 ?_;clear hK4 K4;refine seqR (S Fv ?_);refine s0 (loadV (TK rfl) rfl rfl (congrArg (fun x=>some (A.d x)) (Z10.FItemsD_eq _))) rfl ?_;refine S Mv ?_;obtain⟨x9,gx9,hE⟩:=bO hE;refine s0 (idxM (f:=Z10.c) (TK rfl) rfl (TK rfl) rfl rfl rfl gx9) rfl ?_;refine S Ld ?_;obtain⟨x10,gx10,hE⟩:=bO hE;refine Sc rfl rfl (value_Copy_walk gx10) ?_;refine Sf ?_;refine S As (nil ?_);exact rt hE
def Z27 (a0:Z1) (a1:Z10):Option Bool:=bif ((!decide (a1.FKind=(7:Int)))||(!a0.Fliteral)) then(some false) else((Z153 a0.Fvars a1.FText).bind fun x7=>some (!x7.2))
theorem Z27_walk {a0:Z1}{a1:Z10}{c0:Nat}{r:Bool}(hE:Z27 a0 a1=some r) (H:Heap) (hc0:H c0=some (.cells (Z1.c a0))):ACalls Tryz.prog 79 [.d (.ptr c0 0),.agg (Z10.c a1)] H fun v h'=>v=.a (.d (.bool r))/\h'=H:=by
 unfold Z27 at hE;refine ACalls.oW 29 [.tmp 4] Tryz.call79 Tryz.func79 ?_;refine seqR (S BX (S As (nil ?_)));refine seqK fun K2 hK2=>?_;refine seqR (S Fv (S Ld (S BI (S Mv (G0 Mv ?_)))));refine G1 11 rfl NP ?_;refine gC rfl rfl (fun hC=>ungdA (k:=12) rfl (fieldP (TK rfl) rfl rfl (TK rfl) rfl rfl)) rfl ?_;refine gC rfl rfl (fun hC=>ungdA (k:=13) rfl (loadP (TK rfl) rfl rfl hpG rfl)) rfl ?_;refine G1 14 rfl NB ?_
 refine S PO (nil ?_);refine cE hE (fun hc4 hE=>?_) (fun hc4 hE=>?_)
 ·refine seqR (S As (nil ?_));exact rt hE
 refine sk hK2 ?_;clear hK2 K2;refine AWp.seqD (Sd Mv (Sd NP ?_));refine DOps.s0 (fieldP (TK rfl) rfl rfl (TK rfl) rfl rfl) rfl ?_;refine DOps.s0 (loadP (TK rfl) rfl rfl hpG rfl) rfl ?_;refine Sd Fv (Sd Ld ?_);obtain⟨x7,gx7,hE⟩:=bO hE;refine Scd rfl rfl (Z153_walk gx7) ?_;refine Sd Mv (Sd EX (Sd EX ?_));refine DOps.sB (TK rfl) rfl rfl ?_ (by repeat (first|exact Snoc.nil|apply Snoc.cons));refine DOps.sLn (storeLFA (TK rfl) rfl rfl rfl rfl rfl) ?_
 refine Sd As ?_;refine DOps.nil (by decide +kernel) ?_;refine freezeA 5 _ rfl (KA 6 Keeps.nil) ?_;refine seqR (S Mv (S NB (S As (nil ?_))));exact rt hE
end Go.Proofs

namespace Go.Proofs
open Go Go.Ab
open AOps Cert AWp Keeps KeepsT
variable {lou:Lou}
def Z31 (a0:Z10) (a1:Int):Option (Z10×Int):=bif (!decide (a1=(0:Int))) then(some ((Z10.mk (0:Int) (0:Int) ([]:Bs) true ([]) (Sl.nil:Sl Bs)),a1)) else((value_Copy a0).bind fun x7=>some (x7,(0:Int)))
theorem Z31_walk {a0:Z10}{a1:Int}{r:Z10×Int}(hE:Z31 a0 a1=some r) (H:Heap) :ACalls Tryz.prog 81 [.agg (Z10.c a0),.d (.int .i64 a1)] H fun v h'=>v=.tup [.agg (Z10.c r.1),.d (.int .i64 r.2)]/\h'=H:=by
 unfold Z31 at hE;refine ACalls.oW 12 [.cell 4 86,.tmp 5] Tryz.call81 Tryz.func81 ?_;refine seqR (S BX ?_);refine Sl ?_;refine S As (nil ?_);refine seqK fun K2 hK2=>?_;refine seqR (S Mv (S BI (nil ?_)));refine cE hE (fun hc4 hE=>?_) (fun hc4 hE=>?_)
 ·refine seqR (S BU (S Mv ?_));refine Sf ?_;refine S As (nil ?_);exact rt hE
 refine sk hK2 ?_;clear hK2 K2;refine seqR (S Ld ?_);obtain⟨x7,gx7,hE⟩:=bO hE;refine Sc rfl rfl (value_Copy_walk gx7) ?_;refine Sf ?_;refine S As (nil ?_);exact rt hE
def Z24 (a0:Z1) (a1:Int):Option (Int×Z1):=bif (decide ((24:Int)<a1)) then(some ((5:Int),a0)) else((addC a0.Fnodes (1:Int)).bind fun x7=>bif (decide ((4096:Int)<x7)) then(some ((4:Int),(Z1.mk a0.Fd a0.Fvars a0.Fliteral x7))) else(some ((0:Int),(Z1.mk a0.Fd a0.Fvars a0.Fliteral x7))))
theorem Z24_walk {a0:Z1}{a1:Int}{c0:Nat}{r:Int×Z1}(hE:Z24 a0 a1=some r) (H:Heap) (hc0:H c0=some (.cells (Z1.c a0))):ACalls Tryz.prog 130 [.d (.ptr c0 0),.d (.int .i64 a1)] H fun v h'=>v=.a (.d (.int .i64 r.1))/\h'=(H.set c0 (some (.cells (Z1.c r.2)))):=by
 unfold Z24 at hE;refine ACalls.oW 19 [.tmp 4] Tryz.call130 Tryz.func130 ?_;refine AWp.heqA (h':=(H.set c0 (some (.cells (Z1.c a0))))) (by funext n_; simp only [Heap.set]; (repeat' split)<;>simp_all) ?_;refine seqR (S As (nil ?_));refine seqK fun K2 hK2=>?_;refine seqR (S Mv (S BI (nil ?_)));refine cE hE (fun hc4 hE=>?_) (fun hc4 hE=>?_)
 ·refine seqR (S As (nil ?_));exact rt hE
 refine sk hK2 ?_;clear hK2 K2;refine seqR (S Mv (S NP ?_));refine s0 (fieldP (TK rfl) rfl rfl (TK rfl) rfl rfl) rfl ?_;refine s0 (loadP (TK rfl) rfl rfl hpG rfl) rfl ?_;obtain⟨x7,gx7,hE⟩:=bO hE;refine s0 (addM rfl rfl gx7) rfl ?_;refine S NP ?_;refine s0 (fieldP (TK rfl) rfl rfl (TK rfl) rfl rfl) rfl ?_;refine sHn (storeP1 (TK rfl) rfl rfl hpG rfl (by repeat (first|exact SetAt.zero|apply SetAt.succ))) rfl rfl ?_
 refine hq (H.set c0 (some (.cells (Z1.c (Z1.mk a0.Fd a0.Fvars a0.Fliteral x7))))) ?_;refine nil ?_;refine seqK fun K8 hK8=>?_;refine seqR (S Mv (S NP ?_));refine s0 (fieldP (TK rfl) rfl rfl (TK rfl) rfl rfl) rfl ?_;refine s0 (loadP (TK rfl) rfl rfl hpG rfl) rfl ?_;refine S BI (nil ?_);refine cE hE (fun hc10 hE=>?_) (fun hc10 hE=>?_)
 ·refine seqR (S As (nil ?_));exact rt hE
 refine sk hK8 ?_;clear hK8 K8;refine seqR (S As (nil ?_));exact rt hE
def Z30_j8  (y9_c0:Z1):Option (Int×Z1):=some ((0:Int),y9_c0)
def Z30_l13 (a1:Z10) (a2:Int) (k_rec_129:Z1->Z10->Int->Option (Int×Z1)):Nat->Nat->Z1->Option (Int×Z1)
 | 0,_,_=>none
 | n13+1,s20_14,y15_c0=>bif (decide (((s20_14:Nat):Int)<((a1.FItems.l.length:Nat):Int))) then((a1.FItems.l[s20_14]?).bind fun x21=>(addC a2 (1:Int)).bind fun x23=>(k_rec_129 y15_c0 x21 x23).bind fun x24=>bif (!decide (x24.1=(0:Int))) then(some (x24.1,x24.2)) else((Z30_l13 a1 a2 k_rec_129 n13) (s20_14+1) x24.2)) else(Z30_j8   y15_c0)
def Z30_n:Nat->Z1->Z10->Int->Option (Int×Z1)
 | 0,_,_,_=>none
 | n+1,a0,a1,a2=>(Z24 a0 a2).bind fun x4=>bif (!decide (x4.1=(0:Int))) then(some (x4.1,x4.2)) else(Z30_l13 a1 a2 (Z30_n n) (a1.FItems.l.length+1) 0 x4.2)
theorem Z30_step (n:Nat) (ih_129:∀{a0:Z1}{a1:Z10}{a2:Int}{c0:Nat}{r:Int×Z1},Z30_n n a0 a1 a2=some r->∀(H:Heap) (hc0:H c0=some (.cells (Z1.c a0))),ACalls Tryz.prog 129 [.d (.ptr c0 0),.agg (Z10.c a1),.d (.int .i64 a2)] H fun v h'=>v=.a (.d (.int .i64 r.1))/\h'=(H.set c0 (some (.cells (Z1.c r.2))))):∀{a0:Z1}{a1:Z10}{a2:Int}{c0:Nat}{r:Int×Z1},Z30_n (n+1) a0 a1 a2=some r->∀(H:Heap) (hc0:H c0=some (.cells (Z1.c a0))),ACalls Tryz.prog 129 [.d (.ptr c0 0),.agg (Z10.c a1),.d (.int .i64 a2)] H fun v h'=>v=.a (.d (.int .i64 r.1))/\h'=(H.set c0 (some (.cells (Z1.c r.2)))):=by
 intro a0 a1 a2  c0 r hE H hc0;rw [Z30_n] at hE;refine ACalls.oW 33 [.tmp 6] Tryz.call129 Tryz.func129 ?_;refine AWp.heqA (h':=(H.set c0 (some (.cells (Z1.c a0))))) (by funext n_; simp only [Heap.set]; (repeat' split)<;>simp_all) ?_;refine seqR (S BX (S As (nil ?_)));refine seqK fun K2 hK2=>?_;refine seqR (S Mv (S Mv ?_));obtain⟨x4,gx4,hE⟩:=bO hE;refine sH (callH rfl rfl (Z24_walk gx4 _ hpG)) rfl ?_
 refine hq (H.set c0 (some (.cells (Z1.c x4.2)))) ?_;refine S As (nil ?_);refine seqR (S Mv (S BI (nil ?_)));refine cE hE (fun hc6 hE=>?_) (fun hc6 hE=>?_)
 ·refine seqR (S Mv (S As (nil ?_)));exact rt hE
 refine sk hK2 ?_;clear hK2 K2;refine seqJH KeepsT.nil (fun(z:Z1)=>[]) (fun z=>(H.set c0 (some (.cells (Z1.c z))))) (fun z=>Z30_j8 z=some r) ?_ ?_
 ·intro K8 hK8;refine seqR (S Fv ?_);refine s0 (loadV (TK rfl) rfl rfl (congrArg (fun x=>some (A.d x)) (Z10.FItemsD_eq _))) rfl ?_;refine sLen (f:=Z10.c) (s:=a1.FItems) (TK rfl) rfl rfl rfl rfl fun hL12=>?_;refine S Mv (nil ?_);refine block ?_;refine loopH (TA 0 (TA 2 (TA 18 (TA 19 KeepsT.nil)))) (fun(z:Nat×Nat×Z1)=>[(20,.a (.d (.int .i64 ((z.2.1:Nat):Int))))]) (fun z=>(H.set c0 (some (.cells (Z1.c z.2.2))))) (fun z=>z.1) (fun z=>Z30_l13 a1 a2 (Z30_n n) z.1 z.2.1 z.2.2=some r) ((a1.FItems.l.length+1),0,x4.2) hE Weak.toA ?_
  rintro ⟨n13,s20_14,y15_c0⟩ hE K13 hK13;try dsimp only at hE
  cases n13 with
  | zero=>cases hE
  | succ n13 =>
    rw [Z30_l13] at hE;refine seqR (S BI (nil ?_));refine seqK fun K17 hK17=>?_;refine cE hE (fun hc18 hE=>?_) (fun hc18 hE=>?_)
    ·try dsimp only at hc18
     have hf18:=of_decide_eq_true hc18;refine sk hK17 ?_;clear hK17 K17;refine seqK fun K19 hK19=>?_;refine block ?_;refine seqR ?_;obtain⟨x21,gx21,hE⟩:=bO hE;refine S (ix Z10.c s20_14 gx21) (S Ld ?_);refine Sl ?_;refine Sf ?_;refine nil ?_;refine freezeA 9 _ rfl (KA 0 (KA 2 (KA 18 (KA 19 (KA 20 Keeps.nil))))) ?_;refine seqR (S Mv (S Ld (S Mv ?_)));obtain⟨x23,gx23,hE⟩:=bO hE;refine s0 (addM rfl rfl gx23) rfl ?_
     obtain⟨x24,gx24,hE⟩:=bO hE;refine sH (callH rfl rfl (ih_129 gx24 _ hpG)) rfl ?_;refine hq (H.set c0 (some (.cells (Z1.c x24.2)))) ?_;refine S As (nil ?_);refine seqR (S Mv (S BI (nil ?_)));refine cE hE (fun hc26 hE=>?_) (fun hc26 hE=>?_)
     ·refine seqR (S Mv (S As (nil ?_)));exact rt hE
     refine sk hK19 ?_;clear hK19 K19;refine region ?_;refine SI ?_;refine S Mv (nil ?_);exact hK13 _ (n13,(s20_14+1),x24.2) Weak.toA hE (Nat.lt_succ_self _)
    refine AWp.exit ?_;exact hK8 _ y15_c0 Weak.toA hE
 rintro y9_c0 hE;try dsimp only at hE
 unfold Z30_j8 at hE;refine seqR (S As (nil ?_));exact rt hE
theorem Z30_all:∀(n:Nat),(∀{a0:Z1}{a1:Z10}{a2:Int}{c0:Nat}{r:Int×Z1},Z30_n n a0 a1 a2=some r->∀(H:Heap) (hc0:H c0=some (.cells (Z1.c a0))),ACalls Tryz.prog 129 [.d (.ptr c0 0),.agg (Z10.c a1),.d (.int .i64 a2)] H fun v h'=>v=.a (.d (.int .i64 r.1))/\h'=(H.set c0 (some (.cells (Z1.c r.2)))))
 | 0=>fun hE=>by first|cases hE|(rw [Z30_n] at hE; cases hE)
 | n+1=>Z30_step n (Z30_all n)
def Z30 (a0:Z1) (a1:Z10) (a2:Int):Option (Int×Z1):=Z30_n F0 a0 a1 a2
theorem Z30_walk {a0:Z1}{a1:Z10}{a2:Int}{c0:Nat}{r:Int×Z1}(hE:Z30 a0 a1 a2=some r) (H:Heap) (hc0:H c0=some (.cells (Z1.c a0))):ACalls Tryz.prog 129 [.d (.ptr c0 0),.agg (Z10.c a1),.d (.int .i64 a2)] H fun v h'=>v=.a (.d (.int .i64 r.1))/\h'=(H.set c0 (some (.cells (Z1.c r.2)))):=(Z30_all F0) hE H hc0
def Z29 (a0:Z10) (a1:Bool) (a2:Z1):Option Z1:=some (Z1.mk a2.Fd a0 a1 a2.Fnodes)
theorem Z29_walk {a0:Z10}{a1:Bool}{a2:Z1}{c2:Nat}{r:Z1}(hE:Z29 a0 a1 a2=some r) (H:Heap) (hc2:H c2=some (.cells (Z1.c a2))):ACallsD Tryz.prog 191 [.d (.view (Z10.c a0)),.d (.view (boolE a1)),.d (.view [.ptr c2 0])] H fun v h'=>v=.tup []/\h'=(H.set c2 (some (.cells (Z1.c r)))):=by
 unfold Z29 at hE;refine ACallsD.of_wp (fn:=Tryz.f191) (c:=_) Tryz.tab_ok (fun _ _=>Tryz.call191 _ _) Tryz.func191 rfl (n:=11) rfl (rs:=[]) rfl rfl ?_;refine AWp.heqA (h':=(H.set c2 (some (.cells (Z1.c a2))))) (by funext n_; simp only [Heap.set]; (repeat' split)<;>simp_all) ?_;refine region ?_;refine S Ld (S Ld (S Ld (S Ld (S NP ?_))));refine s0 (fieldP (TK rfl) rfl rfl (TK rfl) rfl rfl) rfl ?_;refine sHn (storeP' (TK rfl) rfl rfl hpG rfl (Nat.le_of_ble_eq_true rfl) rfl rfl) rfl rfl ?_
 refine hq (H.set c2 (some (.cells (Z1.c (Z1.mk a2.Fd a0 a2.Fliteral a2.Fnodes))))) ?_;refine S NP ?_;refine s0 (fieldP (TK rfl) rfl rfl (TK rfl) rfl rfl) rfl ?_;refine sHn (storeP1 (TK rfl) rfl rfl hpG rfl (by repeat (first|exact SetAt.zero|apply SetAt.succ))) rfl rfl ?_;refine hq (H.set c2 (some (.cells (Z1.c (Z1.mk a2.Fd a0 a1 a2.Fnodes))))) ?_;refine nil ?_;repeat (first|refine xBlock_normal ?_|refine xThen_exit ?_|refine xBlock_exit ?_)
 obtain rfl:=Option.some.inj hE;refine retQ.normalF (H.set c2 (some (.cells (Z1.c (Z1.mk a2.Fd a0 a1 a2.Fnodes))))) (xs:=[]) rfl ⟨rfl,rfl⟩ ?_;exact(fun _ _ h=>h)
def Z154 (a0:Bs):Option Z10:=some (Z10.mk (3:Int) (0:Int) a0 true ([]) (Sl.nil:Sl Bs))
theorem Z154_walk {a0:Bs}{r:Z10}(hE:Z154 a0=some r) (H:Heap) :ACalls Tryz.prog 168 [.d (.str a0)] H fun v h'=>v=.a (.agg (Z10.c r))/\h'=H:=by
 unfold Z154 at hE;refine ACalls.oW 5 [.cell 2 86] Tryz.call168 Tryz.func168 ?_;refine seqR ?_;refine Sl ?_;refine nil ?_;refine seqR (S Mv (S BU ?_));refine Sf ?_;refine nil ?_;exact rt hE
def Tryz.lay192_ren:Go.Shelf.Ren:=⟨fun|171=>192|243=>214|246=>225|283=>232|284=>233|285=>234|286=>235|129=>239|317=>238|318=>240|319=>241|320=>242|337=>248|338=>249|n=>n,fun|3=>3|9=>9|2=>2|4=>4|171=>250|0=>0|53=>251|37=>254|5=>5|173=>255|212=>260|51=>261|20=>20|213=>262|46=>264|232=>272|233=>273|n=>n,fun|17=>0|18=>1|19=>2|n=>n⟩
theorem Tryz.lay192:Go.Proofs.LaysM.n171 Tryz.prog Tryz.lay192_ren:={
 mixed:=by kernel_rfl
 f129:=Tryz.func239.trans (congrArg some (by kernel_rfl))
 f171:=Tryz.func192.trans (congrArg some (by kernel_rfl))
 f243:=Tryz.func214.trans (congrArg some (by kernel_rfl))
 f246:=Tryz.func225.trans (congrArg some (by kernel_rfl))
 f283:=Tryz.func232.trans (congrArg some (by kernel_rfl))
 f284:=Tryz.func233.trans (congrArg some (by kernel_rfl))
 f285:=Tryz.func234.trans (congrArg some (by kernel_rfl))
 f286:=Tryz.func235.trans (congrArg some (by kernel_rfl))
 f317:=Tryz.func238.trans (congrArg some (by kernel_rfl))
 f318:=Tryz.func240.trans (congrArg some (by kernel_rfl))
 f319:=Tryz.func241.trans (congrArg some (by kernel_rfl))
 f320:=Tryz.func242.trans (congrArg some (by kernel_rfl))
 f337:=Tryz.func248.trans (congrArg some (by kernel_rfl))
 f338:=Tryz.func249.trans (congrArg some (by kernel_rfl))
 t0:=Tryz.underlying0
 a0:=Tryz.isAgg0
 z0:=Tryz.sizeOf0
 v0:=Tryz.zeroValue0
 t2:=Tryz.underlying2
 a2:=Tryz.isAgg2
 z2:=Tryz.sizeOf2
 v2:=Tryz.zeroValue2
 t3:=Tryz.underlying3
 a3:=Tryz.isAgg3
 z3:=Tryz.sizeOf3
 v3:=Tryz.zeroValue3
 t4:=Tryz.underlying4
 a4:=Tryz.isAgg4
 z4:=Tryz.sizeOf4
 v4:=Tryz.zeroValue4
 t5:=Tryz.underlying5
 a5:=Tryz.isAgg5
 z5:=Tryz.sizeOf5
 v5:=Tryz.zeroValue5
 t9:=Tryz.underlying9
 a9:=Tryz.isAgg9
 z9:=Tryz.sizeOf9
 v9:=Tryz.zeroValue9
 t20:=Tryz.underlying20
 a20:=Tryz.isAgg20
 z20:=Tryz.sizeOf20
 v20:=Tryz.zeroValue20
 t37:=Tryz.underlying254
 a37:=Tryz.isAgg254
 z37:=Tryz.sizeOf254
 v37:=Tryz.zeroValue254
 t46:=Tryz.underlying264
 a46:=Tryz.isAgg264
 z46:=Tryz.sizeOf264
 v46:=Tryz.zeroValue264
 t51:=Tryz.underlying261
 a51:=Tryz.isAgg261
 z51:=Tryz.sizeOf261
 v51:=Tryz.zeroValue261
 t53:=Tryz.underlying251
 a53:=Tryz.isAgg251
 z53:=Tryz.sizeOf251
 v53:=Tryz.zeroValue251
 t171:=Tryz.underlying250
 a171:=Tryz.isAgg250
 z171:=Tryz.sizeOf250
 v171:=Tryz.zeroValue250
 t173:=Tryz.underlying255
 a173:=Tryz.isAgg255
 z173:=Tryz.sizeOf255
 v173:=Tryz.zeroValue255
 t212:=Tryz.underlying260
 a212:=Tryz.isAgg260
 z212:=Tryz.sizeOf260
 v212:=Tryz.zeroValue260
 t213:=Tryz.underlying262
 a213:=Tryz.isAgg262
 z213:=Tryz.sizeOf262
 t232:=Tryz.underlying272
 a232:=Tryz.isAgg272
 z232:=Tryz.sizeOf272
 v232:=Tryz.zeroValue272
 t233:=Tryz.underlying273
 a233:=Tryz.isAgg273
 z233:=Tryz.sizeOf273
 v233:=Tryz.zeroValue273
 g17:=by kernel_rfl
 g18:=by kernel_rfl
 g19:=by kernel_rfl
 i0:=by kernel_rfl
 i2:=by kernel_rfl
 i3:=by kernel_rfl
 i4:=by kernel_rfl
 i5:=by kernel_rfl
 i9:=by kernel_rfl
 i20:=by kernel_rfl
 i37:=by kernel_rfl
 i46:=by kernel_rfl
 i51:=by kernel_rfl
 i53:=by kernel_rfl
 i171:=by kernel_rfl
 i173:=by kernel_rfl
 i212:=by kernel_rfl
 i232:=by kernel_rfl
 i233:=by kernel_rfl
 m17:=by kernel_rfl
 m18:=by kernel_rfl
 m19:=by kernel_rfl }
def Z137 (n:Int):Option Bs:=if -9223372036854775808<=n/\n<=9223372036854775807/\(Lib.itoa n).length<=maxS then some (Lib.itoa n) else none
def Z137_q (n:Int):Option Bs:=Z137 n
theorem Z137_eq (n:Int):Z137 n=Z137_q n:=rfl
theorem Z137_walk {a0:Int}{oT:Ab.Obj}{gT:Nat}{r:Bs}(hE:Z137 a0=some r) (H:Heap) (hgT:H gT=some oT) (hoT:IsTab Tryz.prog oT):ACalls Tryz.prog 192 [.d (.int .i64 a0)] H fun v h'=>v=.a (.d (.str r))/\h'=H:=by
 unfold Z137 at hE
 split at hE
 ·rename_i h
  obtain rfl:=Option.some.inj hE;exact itoa_calls Tryz.lay192 h.1 h.2.1 rfl hgT hoT h.2.2
 cases hE
def Z139 (a0:Int):Option Bs:=(Z137 a0).bind fun x3=>some x3
theorem Z139_walk {a0:Int}{oT:Ab.Obj}{gT:Nat}{r:Bs}(hE:Z139 a0=some r) (H:Heap) (hgT:H gT=some oT) (hoT:IsTab Tryz.prog oT):ACalls Tryz.prog 169 [.d (.int .i64 a0)] H fun v h'=>v=.a (.d (.str r))/\h'=H:=by
 unfold Z139 at hE;refine ACalls.oW 5 [.tmp 2] Tryz.call169 Tryz.func169 ?_;refine seqR (S As (nil ?_));refine seqR (S Mv ?_);obtain⟨x3,gx3,hE⟩:=bO hE;refine s0 (callR rfl rfl (Z137_walk (gT:=gT) (oT:=oT) gx3 _ hpG (by assumption))) rfl ?_;refine S As (nil ?_);exact rt hE
def Z26 (a0:Z8) (a1:Z10):Option Bool:=some ((a0.FName==a1.FText))
theorem Z26_walk {a0:Z8}{a1:Z10}{r:Bool}(hE:Z26 a0 a1=some r) (H:Heap) :ACalls Tryz.prog 170 [.agg (Z8.c a0),.d (.view (Z10.c a1))] H fun v h'=>v=.a (.d (.bool r))/\h'=H:=by
 unfold Z26 at hE;refine ACalls.oW 9 [.tmp 3] Tryz.call170 Tryz.func170 ?_;refine seqR (S BX (S As (nil ?_)));refine seqR (S Fv (S Ld (S Fv (S Ld (S BS (S As (nil ?_)))))));exact rt hE
def Z25_j3  (s8_4:Bool) (y5_l0:Z10):Option (Z10×Int):=bif (!s8_4) then(some ((Z10.mk (0:Int) (0:Int) ([]:Bs) true ([]) (Sl.nil:Sl Bs)),(23:Int))) else(some (y5_l0,(0:Int)))
def Z25_j20  (y21_l0:Z10):Option (Z10×Int):=Z25_j3   (decide (y21_l0.FKind=(3:Int))) y21_l0
def Z25_j26 (a0:Z1) (a1:Bs)  (y27_l0:Z10):Option (Z10×Int):=(Z114 a0.Fd a1).bind fun x29=>guardO ((decide (y27_l0.FKind=(4:Int)))) (Z132 x29.1.FMembers (fun y0=>Z26 y0 y27_l0)) false fun x30=>bif (!((decide (y27_l0.FKind=(4:Int)))&&x30)) then(some ((Z10.mk (0:Int) (0:Int) ([]:Bs) true ([]) (Sl.nil:Sl Bs)),(23:Int))) else(some (y27_l0,(0:Int)))
def Z25 (a0:Z1) (a1:Bs) (a2:Z10):Option (Z10×Int):=bif ((a1==([73,110,116]:Bs))) then(Z25_j3   (((decide (a2.FKind=(2:Int)))&&(decide ((-2147483648:Int)<=a2.FInt)))&&(decide (a2.FInt<(2147483648:Int)))) a2) else(bif ((a1==([83,116,114,105,110,103]:Bs))) then(Z25_j3   (decide (a2.FKind=(3:Int))) a2) else(bif ((a1==([66,111,111,108,101,97,110]:Bs))) then(Z25_j3   (decide (a2.FKind=(1:Int))) a2) else(bif ((a1==([73,68]:Bs))) then(bif (decide (a2.FKind=(2:Int))) then((Z139 a2.FInt).bind fun x24=>(Z154 x24).bind fun x25=>Z25_j20   x25) else(Z25_j20   a2)) else(bif ((decide (a2.FKind=(3:Int)))&&(!a0.Fliteral)) then(Z25_j26 a0 a1  (Z10.mk (4:Int) a2.FInt a2.FText a2.FItems.nl a2.FItems.l a2.FKeys)) else(Z25_j26 a0 a1  a2)))))
theorem Z25_walk {a0:Z1}{a1:Bs}{a2:Z10}{oT:Ab.Obj}{c0 gT:Nat}{r:Z10×Int}(hE:Z25 a0 a1 a2=some r) (H:Heap) (hc0:H c0=some (.cells (Z1.c a0))) (hgT:H gT=some oT) (hoT:IsTab Tryz.prog oT):ACalls Tryz.prog 134 [.d (.ptr c0 0),.d (.str a1),.agg (Z10.c a2)] H fun v h'=>v=.tup [.agg (Z10.c r.1),.d (.int .i64 r.2)]/\h'=H:=by
 unfold Z25 at hE;refine ACalls.oW 82 [.cell 6 86,.tmp 7] Tryz.call134 Tryz.func134 ?_;refine seqR ?_;refine sL (boxL rfl (by repeat (first|exact Snoc.nil|apply Snoc.cons))) rfl ?_;refine Sl ?_;refine S As (nil ?_);refine seqR (S As (nil ?_));refine AWp.seqJD (TA 5 (TA 6 KeepsT.nil)) (fun(z:Bool×Z10)=>[(8,.a (.d (.bool z.1)))]) (fun z=>[Z10.c z.2,Z10.c Z10.zero]) (fun z=>H) (fun z=>Z25_j3 z.1 z.2=some r) ?_ ?_
 ·intro K3 hK3 hD3;refine seqR (S Mv (nil ?_));refine block ?_;refine seqR (S BS (S As (nil ?_)));refine cE hE (fun hc13 hE=>?_) (fun hc13 hE=>?_)
  ·refine region ?_;refine S FL (S LL (S BI (S Mv (G0 FL ?_))));refine gC rfl rfl (fun hC=>ungdLA (k:=47) rfl (loadL (TK rfl) rfl rfl rfl rfl)) rfl ?_;refine G1 48 rfl BI ?_;refine S PA (S Mv (G0 FL ?_));refine gC rfl rfl (fun hC=>ungdLA (k:=52) rfl (loadL (TK rfl) rfl rfl rfl rfl)) rfl ?_;refine G1 53 rfl BI ?_;refine S PA (S As (nil ?_));exact hK3 _ ((((decide (a2.FKind=(2:Int)))&&(decide ((-2147483648:Int)<=a2.FInt)))&&(decide (a2.FInt<(2147483648:Int)))),a2) Weak.toA hE
  refine seqR (S BS (S As (nil ?_)));refine cE hE (fun hc15 hE=>?_) (fun hc15 hE=>?_)
  ·refine region ?_;refine S FL (S LL (S BI (S As (nil ?_))));exact hK3 _ ((decide (a2.FKind=(3:Int))),a2) Weak.toA hE
  refine seqR (S BS (S As (nil ?_)));refine cE hE (fun hc17 hE=>?_) (fun hc17 hE=>?_)
  ·refine region ?_;refine S FL (S LL (S BI (S As (nil ?_))));exact hK3 _ ((decide (a2.FKind=(1:Int))),a2) Weak.toA hE
  refine seqR (S BS (S As (nil ?_)));refine cE hE (fun hc19 hE=>?_) (fun hc19 hE=>?_)
  ·refine seqJ (TA 5 (TA 6 KeepsT.nil)) (fun(z:Z10)=>[]) (fun z=>[Z10.c z,Z10.c Z10.zero]) (fun z=>H) (fun z=>Z25_j20 z=some r) ?_ ?_
   ·intro K20 hK20;refine seqR (S FL (S LL (S BI (nil ?_))));refine cE hE (fun hc23 hE=>?_) (fun hc23 hE=>?_)
    ·refine region ?_;refine S FL (S LL ?_);obtain⟨x24,gx24,hE⟩:=bO hE;refine s0 (callR rfl rfl (Z139_walk (gT:=gT) (oT:=oT) gx24 _ hpG (by assumption))) rfl ?_;obtain⟨x25,gx25,hE⟩:=bO hE;refine Sc rfl rfl (Z154_walk gx25) ?_;refine Sf ?_;refine nil ?_;exact hK20 _ x25 Weak.toA hE
    refine AWp.skip ?_;exact hK20 _ a2 Weak.toA hE
   rintro y21_l0 hE;try dsimp only at hE
   unfold Z25_j20 at hE;refine region ?_;refine S FL (S LL (S BI (S As (nil ?_))));exact hK3 _ ((decide (y21_l0.FKind=(3:Int))),y21_l0) Weak.toA hE
  refine seqJ (TA 0 (TA 1 (TA 5 (TA 6 KeepsT.nil)))) (fun(z:Z10)=>[]) (fun z=>[Z10.c z,Z10.c Z10.zero]) (fun z=>H) (fun z=>Z25_j26 a0 a1 z=some r) ?_ ?_
  ·intro K26 hK26;refine seqR (S FL (S LL (S BI (S Mv (G0 Mv ?_)))));refine G1 16 rfl NP ?_;refine gC rfl rfl (fun hC=>ungdA (k:=17) rfl (fieldP (TK rfl) rfl rfl (TK rfl) rfl rfl)) rfl ?_;refine gC rfl rfl (fun hC=>ungdA (k:=18) rfl (loadP (TK rfl) rfl rfl hpG rfl)) rfl ?_;refine G1 19 rfl NB ?_;refine S PA (nil ?_);refine cE hE (fun hc37 hE=>?_) (fun hc37 hE=>?_)
   ·refine region ?_;refine S FL ?_;refine AOps.relocal 0 (Z10.cu a2) rfl (fun j w cs hh hx=>by rw [<- Z10.cu_eq]; exact hx) ?_;refine Sf ?_;refine AOps.relocal 0 (Z10.c (Z10.mk (4:Int) a2.FInt a2.FText a2.FItems.nl a2.FItems.l a2.FKeys)) rfl (fun j w cs hh hx=>by rw [Z10.cu_eq]; exact hx) ?_;refine nil ?_;exact hK26 _ (Z10.mk (4:Int) a2.FInt a2.FText a2.FItems.nl a2.FItems.l a2.FKeys) Weak.toA hE
   refine AWp.skip ?_;exact hK26 _ a2 Weak.toA hE
  rintro y27_l0 hE;try dsimp only at hE
  unfold Z25_j26 at hE;refine seqR (S Mv (S NP ?_));refine s0 (fieldP (TK rfl) rfl rfl (TK rfl) rfl rfl) rfl ?_;refine s0 (loadP (TK rfl) rfl rfl hpG rfl) rfl ?_;refine S Mv ?_;obtain⟨x29,gx29,hE⟩:=bO hE;refine Sc rfl rfl (Z114_walk gx29) ?_;refine S Mv (S EX (S EX ?_));refine Sl ?_;refine Sf ?_;refine S As (nil ?_);refine freezeA 9 _ rfl (KA 5 (KA 6 Keeps.nil)) ?_;refine AWp.freezeAt 5 _ rfl rfl ?_
  refine region ?_;refine S Fv (S Ld (S BI (S Mv (G0 Fv ?_))));refine G1 36 rfl Ld ?_;refine gC rfl rfl (fun hC=>makeFunc rfl) rfl ?_;obtain⟨x30,gx30,hE⟩:=gO hE;refine gC rfl rfl (fun hC=>ungdA (k:=37) rfl (ungdA (k:=38) rfl (callP rfl rfl (fun H=>Z132_walk (gx30 hC) H (fun _ _ hx=>Z26_walk hx))))) rfl ?_;refine S PA (S As (nil ?_));refine hD3 _ ?_;refine seqK fun K31 hK31=>?_;refine seqR (S Mv (S NB (nil ?_)))
  refine cE hE (fun hc33 hE=>?_) (fun hc33 hE=>?_)
  ·refine seqR (S BU ?_);refine Sf ?_;refine S As (nil ?_);exact rt hE
  refine sk hK31 ?_;clear hK31 K31;refine seqR (S Ld ?_);refine Sf ?_;refine S As (nil ?_);exact rt hE
 rintro ⟨s8_4,y5_l0⟩ hE;try dsimp only at hE
 unfold Z25_j3 at hE;refine seqK fun K6 hK6=>?_;refine seqR (S Mv (S NB (nil ?_)));refine cE hE (fun hc8 hE=>?_) (fun hc8 hE=>?_)
 ·refine seqR (S BU ?_);refine Sf ?_;refine S As (nil ?_);exact rt hE
 refine sk hK6 ?_;clear hK6 K6;refine seqR (S LL ?_);refine Sf ?_;refine S As (nil ?_);exact rt hE
end Go.Proofs
