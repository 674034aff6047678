import Derived.Test.YtfmbgiahleepfabGreatDoorV1
set_option maxRecDepth 100000
set_option maxHeartbeats 2000000
set_option linter.unusedVariables false
set_option linter.unusedSimpArgs false
namespace Go.Proofs
open Go Go.Ab
open AOps Cert AWp Keeps KeepsT
variable {lou:Lou}
def Z73 (a0:Int):Option Bs:=bif (decide (a0=(1:Int))) then(some ([81,117,101,114,121]:Bs)) else(bif (decide (a0=(2:Int))) then(some ([77,117,116,97,116,105,111,110]:Bs)) else(bif (decide (a0=(3:Int))) then(some ([83,117,98,115,99,114,105,112,116,105,111,110]:Bs)) else(some ([]:Bs))))
theorem Z73_walk {a0:Int}{r:Bs}(hE:Z73 a0=some r) (H:Heap) :ACalls Tryz.prog 32 [.d (.int .i64 a0)] H fun v h'=>v=.a (.d (.str r))/\h'=H:=by
 unfold Z73 at hE;refine ACalls.oW 10 [.tmp 2] Tryz.call32 Tryz.func32 ?_;refine seqR (S As (nil ?_));refine seqK fun K2 hK2=>?_;refine seqR (S Mv (nil ?_));refine block ?_;refine seqR (S BI (S As (nil ?_)));refine cE hE (fun hc5 hE=>?_) (fun hc5 hE=>?_)
 ·refine seqR (S As (nil ?_));exact rt hE
 refine seqR (S BI (S As (nil ?_)));refine cE hE (fun hc8 hE=>?_) (fun hc8 hE=>?_)
 ·refine seqR (S As (nil ?_));exact rt hE
 refine seqR (S BI (S As (nil ?_)));refine cE hE (fun hc11 hE=>?_) (fun hc11 hE=>?_)
 ·refine seqR (S As (nil ?_));exact rt hE
 refine sk hK2 ?_;clear hK2 K2;refine seqR (S As (nil ?_));exact rt hE
def Z29_j10 (s14_4:Nat) (k_next_3:Nat->(List Bs)->(List Bs)->Option ((List Bs)×(List Bs))) (y11_c2:(List Bs)) (y12_c3:(List Bs)):Option ((List Bs)×(List Bs)):=k_next_3 (s14_4+1) y11_c2 y12_c3
def Z29_j30 (s45_24:Nat) (k_next_23:Nat->(List Bs)->(List Bs)->Option ((List Bs)×(List Bs))) (y31_c2:(List Bs)) (y32_c3:(List Bs)):Option ((List Bs)×(List Bs)):=k_next_23 (s45_24+1) y31_c2 y32_c3
def Z29_l23 (a0:Z1) (s14_4:Nat) (x14:TSel) (k_next_3:Nat->(List Bs)->(List Bs)->Option ((List Bs)×(List Bs))) (k_rec_33:Z1->(Sl TSel)->(List Bs)->(List Bs)->Option ((List Bs)×(List Bs))):Nat->Nat->(List Bs)->(List Bs)->Option ((List Bs)×(List Bs))
 | 0,_,_,_=>none
 | n23+1,s45_24,y25_c2,y26_c3=>bif (decide (((s45_24:Nat):Int)<((a0.Fq.FFrags.l.length:Nat):Int))) then((a0.Fq.FFrags.l[s45_24]?).bind fun x34=>bif (((x34.FName==x14.FName))&&(!(y26_c3.contains x14.FName))) then((k_rec_33 a0 x34.FSels y25_c2 (insS y26_c3 x14.FName)).bind fun x38=>Z29_j30 s45_24 ((Z29_l23 a0 s14_4 x14 k_next_3 k_rec_33 n23)) x38.1 x38.2) else(Z29_j30 s45_24 ((Z29_l23 a0 s14_4 x14 k_next_3 k_rec_33 n23)) y25_c2 y26_c3)) else(Z29_j10 s14_4 k_next_3 y25_c2 y26_c3)
def Z29_l3 (a0:Z1) (a1:(Sl TSel)) (k_rec_33:Z1->(Sl TSel)->(List Bs)->(List Bs)->Option ((List Bs)×(List Bs))):Nat->Nat->(List Bs)->(List Bs)->Option ((List Bs)×(List Bs))
 | 0,_,_,_=>none
 | n3+1,s14_4,y5_c2,y6_c3=>bif (decide (((s14_4:Nat):Int)<((a1.l.length:Nat):Int))) then((a1.l[s14_4]?).bind fun x14=>bif (decide (x14.FKind=(3:Int))) then((k_rec_33 a0 x14.FSels y5_c2 y6_c3).bind fun x18=>Z29_j10 s14_4 ((Z29_l3 a0 a1 k_rec_33 n3)) x18.1 x18.2) else(bif (decide (x14.FKind=(2:Int))) then(Z29_l23 a0 s14_4 x14 ((Z29_l3 a0 a1 k_rec_33 n3)) k_rec_33 (a0.Fq.FFrags.l.length+1) 0 y5_c2 y6_c3) else(bif (!(x14.FAlias==([]:Bs))) then(Z29_j10 s14_4 ((Z29_l3 a0 a1 k_rec_33 n3)) (insS y5_c2 x14.FAlias) y6_c3) else(Z29_j10 s14_4 ((Z29_l3 a0 a1 k_rec_33 n3)) (insS y5_c2 x14.FName) y6_c3)))) else(some (y5_c2,y6_c3))
def Z29_n:Nat->Z1->(Sl TSel)->(List Bs)->(List Bs)->Option ((List Bs)×(List Bs))
 | 0,_,_,_,_=>none
 | n+1,a0,a1,a2,a3=>Z29_l3 a0 a1 (Z29_n n) (a1.l.length+1) 0 a2 a3
theorem Z29_step (n:Nat) (ih_33:∀{a0:Z1}{a1:Sl TSel}{a2 a3:List Bs}{w1 q0_2:Option Nat}{c0 c2 c3:Nat}{r:((List Bs)×(List Bs))},Z29_n n a0 a1 a2 a3=some r->∀(H:Heap) (hc0:H c0=some (.cells (Z1.cg q0_2 a0))) (hc2:H c2=some (.map (seenM a2))) (hc3:H c3=some (.map (seenM a3))) (ne_c3_c2:c3≠c2),ACalls Tryz.prog 33 [.d (.ptr c0 0),.d (Sl.d 7 TSel.c w1 a1),.d (.map c2),.d (.map c3)] H fun v h'=>v=.tup []/\h'=((H.set c2 (some (.map (seenM r.1)))).set c3 (some (.map (seenM r.2))))):∀{a0:Z1}{a1:Sl TSel}{a2 a3:List Bs}{w1 q0_2:Option Nat}{c0 c2 c3:Nat}{r:((List Bs)×(List Bs))},Z29_n (n+1) a0 a1 a2 a3=some r->∀(H:Heap) (hc0:H c0=some (.cells (Z1.cg q0_2 a0))) (hc2:H c2=some (.map (seenM a2))) (hc3:H c3=some (.map (seenM a3))) (ne_c3_c2:c3≠c2),ACalls Tryz.prog 33 [.d (.ptr c0 0),.d (Sl.d 7 TSel.c w1 a1),.d (.map c2),.d (.map c3)] H fun v h'=>v=.tup []/\h'=((H.set c2 (some (.map (seenM r.1)))).set c3 (some (.map (seenM r.2)))):=by
 intro a0 a1 a2 a3 w1 q0_2 c0 c2 c3 r hE H hc0 hc2 hc3 ne_c3_c2;rw [Z29_n] at hE;refine ACalls.oW 72 [] Tryz.call33 Tryz.func33 ?_;have ne_c2_c0:c2≠c0:=fun e_=>by subst e_; simp_all
 have ne_c3_c0:c3≠c0:=fun e_=>by subst e_; simp_all
 refine AWp.heqA (h':=((H.set c2 (some (.map (seenM a2)))).set c3 (some (.map (seenM a3))))) (by funext n_; simp only [Heap.set]; (repeat' split)<;>simp_all) ?_;refine seqR (S Mv ?_);refine sLen (f:=TSel.c) (s:=a1) (TK rfl) rfl rfl rfl rfl fun hL2=>?_;refine S Mv (nil ?_);refine block ?_;refine loopH (TA 0 (TA 2 (TA 3 (TA 12 (TA 13 KeepsT.nil))))) (fun(z:Nat×Nat×(List Bs)×(List Bs))=>[(14,.a (.d (.int .i64 ((z.2.1:Nat):Int))))]) (fun z=>((H.set c2 (some (.map (seenM z.2.2.1)))).set c3 (some (.map (seenM z.2.2.2))))) (fun z=>z.1) (fun z=>Z29_l3 a0 a1 (Z29_n n) z.1 z.2.1 z.2.2.1 z.2.2.2=some r) ((a1.l.length+1),0,a2,a3) hE Weak.toA ?_
 rintro ⟨n3,s14_4,y5_c2,y6_c3⟩ hE K3 hK3;try dsimp only at hE
 cases n3 with
 | zero=>cases hE
 | succ n3 =>
   rw [Z29_l3] at hE;refine seqR (S BI (nil ?_));refine seqK fun K8 hK8=>?_;refine cE hE (fun hc9 hE=>?_) (fun hc9 hE=>?_)
   ·try dsimp only at hc9
    have hf9:=of_decide_eq_true hc9;refine sk hK8 ?_;clear hK8 K8;refine seqJH (TA 0 (TA 2 (TA 3 (TA 12 (TA 13 (TA 14 KeepsT.nil)))))) (fun(z:(List Bs)×(List Bs))=>[]) (fun z=>((H.set c2 (some (.map (seenM z.1)))).set c3 (some (.map (seenM z.2))))) (fun z=>Z29_j10 s14_4 ((Z29_l3 a0 a1 (Z29_n n) n3)) z.1 z.2=some r) ?_ ?_
    ·intro K10 hK10;refine block ?_;refine seqR ?_;obtain⟨x14,gx14,hE⟩:=bO hE;refine S (ix TSel.c s14_4 gx14) (S Ld ?_);refine Sl ?_;refine Sf ?_;refine nil ?_;refine freezeA 9 _ rfl (KA 0 (KA 2 (KA 3 (KA 12 (KA 13 (KA 14 Keeps.nil)))))) ?_;refine seqR (S Fv (S Ld (nil ?_)));refine block ?_;refine seqR (S BI (S As (nil ?_)));refine cE hE (fun hc17 hE=>?_) (fun hc17 hE=>?_)
     ·refine region ?_;refine S Mv (S Fv ?_);refine s0 (loadV (TK rfl) rfl rfl (congrArg (fun x=>some (A.d x)) (TSel.FSelsD_eq _))) rfl ?_;refine S Mv (S Mv ?_);obtain⟨x18,gx18,hE⟩:=bO hE;refine sH (callH rfl rfl (ih_33 gx18 _ hpG hpG hpG (by assumption))) rfl ?_;refine hq ((H.set c2 (some (.map (seenM x18.1)))).set c3 (some (.map (seenM x18.2)))) ?_;refine nil ?_;exact hK10 _ (x18.1,x18.2) Weak.toA hE
     refine seqR (S BI (S As (nil ?_)));refine cE hE (fun hc20 hE=>?_) (fun hc20 hE=>?_)
     ·refine seqR (S Mv (S NP ?_));refine s0 (fieldP (TK rfl) rfl rfl (TK rfl) rfl rfl) rfl ?_;refine s0 (fieldP (TK rfl) rfl rfl (TK rfl) rfl rfl) rfl ?_;refine s0 (loadP (TK rfl) rfl rfl hpG rfl) rfl ?_;refine sLen (f:=Z5.c) (s:=a0.Fq.FFrags) (TK rfl) rfl rfl rfl rfl fun hL22=>?_;refine S Mv (nil ?_);refine block ?_;refine loopH (TA 0 (TA 2 (TA 3 (TA 9 (TA 12 (TA 13 (TA 14 (TA 43 (TA 44 KeepsT.nil))))))))) (fun(z:Nat×Nat×(List Bs)×(List Bs))=>[(45,.a (.d (.int .i64 ((z.2.1:Nat):Int))))]) (fun z=>((H.set c2 (some (.map (seenM z.2.2.1)))).set c3 (some (.map (seenM z.2.2.2))))) (fun z=>z.1) (fun z=>Z29_l23 a0 s14_4 x14 ((Z29_l3 a0 a1 (Z29_n n) n3)) (Z29_n n) z.1 z.2.1 z.2.2.1 z.2.2.2=some r) ((a0.Fq.FFrags.l.length+1),0,y5_c2,y6_c3) hE Weak.toA ?_
      rintro ⟨n23,s45_24,y25_c2,y26_c3⟩ hE K23 hK23;try dsimp only at hE
      cases n23 with
      | zero=>cases hE
      | succ n23 =>
        rw [Z29_l23] at hE;refine seqR (S BI (nil ?_));refine seqK fun K28 hK28=>?_;refine cE hE (fun hc29 hE=>?_) (fun hc29 hE=>?_)
        ·try dsimp only at hc29
         have hf29:=of_decide_eq_true hc29;refine sk hK28 ?_;clear hK28 K28;refine seqJH (TA 0 (TA 2 (TA 3 (TA 9 (TA 12 (TA 13 (TA 14 (TA 43 (TA 44 (TA 45 KeepsT.nil)))))))))) (fun(z:(List Bs)×(List Bs))=>[]) (fun z=>((H.set c2 (some (.map (seenM z.1)))).set c3 (some (.map (seenM z.2))))) (fun z=>Z29_j30 s45_24 ((Z29_l23 a0 s14_4 x14 ((Z29_l3 a0 a1 (Z29_n n) n3)) (Z29_n n) n23)) z.1 z.2=some r) ?_ ?_
         ·intro K30 hK30;refine block ?_;refine seqR ?_;obtain⟨x34,gx34,hE⟩:=bO hE;refine S (ix Z5.c s45_24 gx34) (S Ld ?_);refine Sl ?_;refine Sf ?_;refine nil ?_;refine freezeA 11 _ rfl (KA 0 (KA 2 (KA 3 (KA 9 (KA 12 (KA 13 (KA 14 (KA 43 (KA 44 (KA 45 Keeps.nil)))))))))) ?_;refine seqR (S Fv (S Ld (S Fv (S Ld (S BS (S Mv (G0 Mv (G0 Fv ?_))))))));refine G1 56 rfl Ld ?_;refine gC rfl rfl (fun hC=>ungdA (k:=55) rfl (ungdA (k:=57) rfl (lookupSeen (TK rfl) rfl (TK rfl) (TK rfl) rfl rfl rfl rfl hpG))) rfl ?_
          refine G1 58 rfl NB ?_;refine S PA (nil ?_);refine cE hE (fun hc36 hE=>?_) (fun hc36 hE=>?_)
          ·refine seqR (S Mv (S Fv (S Ld ?_)));refine sHn (mapUpdate (TK rfl) rfl (TK rfl) rfl rfl rfl rfl hpG (seen_upd _ _) rfl) rfl rfl ?_;refine hq ((H.set c2 (some (.map (seenM y25_c2)))).set c3 (some (.map (seenM (insS y26_c3 x14.FName))))) ?_;refine nil ?_;refine region ?_;refine S Mv (S Fv (S Ld (S Mv (S Mv ?_))));obtain⟨x38,gx38,hE⟩:=bO hE;refine sH (callH rfl rfl (ih_33 gx38 _ hpG hpG hpG (by assumption))) rfl ?_
           refine hq ((H.set c2 (some (.map (seenM x38.1)))).set c3 (some (.map (seenM x38.2)))) ?_;refine nil ?_;exact hK30 _ (x38.1,x38.2) Weak.toA hE
          refine AWp.skip ?_;exact hK30 _ (y25_c2,y26_c3) Weak.toA hE
         rintro ⟨y31_c2,y32_c3⟩ hE;try dsimp only at hE
         unfold Z29_j30 at hE;refine region ?_;refine SI ?_;refine S Mv (nil ?_);exact hK23 _ (n23,(s45_24+1),y31_c2,y32_c3) Weak.toA hE (Nat.lt_succ_self _)
        refine AWp.exit ?_;exact hK10 _ (y25_c2,y26_c3) Weak.toA hE
     refine seqR (S Fv (S Ld (S BS (nil ?_))));refine cE hE (fun hc40 hE=>?_) (fun hc40 hE=>?_)
     ·refine region ?_;refine S Mv (S Fv (S Ld ?_));refine sHn (mapUpdate (TK rfl) rfl (TK rfl) rfl rfl rfl rfl hpG (seen_upd _ _) rfl) rfl rfl ?_;refine hq ((H.set c2 (some (.map (seenM (insS y5_c2 x14.FAlias))))).set c3 (some (.map (seenM y6_c3)))) ?_;refine nil ?_;exact hK10 _ ((insS y5_c2 x14.FAlias),y6_c3) Weak.toA hE
     refine region ?_;refine S Mv (S Fv (S Ld ?_));refine sHn (mapUpdate (TK rfl) rfl (TK rfl) rfl rfl rfl rfl hpG (seen_upd _ _) rfl) rfl rfl ?_;refine hq ((H.set c2 (some (.map (seenM (insS y5_c2 x14.FName))))).set c3 (some (.map (seenM y6_c3)))) ?_;refine nil ?_;exact hK10 _ ((insS y5_c2 x14.FName),y6_c3) Weak.toA hE
    rintro ⟨y11_c2,y12_c3⟩ hE;try dsimp only at hE
    unfold Z29_j10 at hE;refine region ?_;refine SI ?_;refine S Mv (nil ?_);exact hK3 _ (n3,(s14_4+1),y11_c2,y12_c3) Weak.toA hE (Nat.lt_succ_self _)
   refine AWp.exit ?_;repeat (first|refine xBlock_normal ?_|refine xThen_exit ?_|refine xBlock_exit ?_)
   obtain rfl:=Option.some.inj hE;refine retQ.normalF ((H.set c2 (some (.map (seenM y5_c2)))).set c3 (some (.map (seenM y6_c3)))) (xs:=[]) rfl ⟨rfl,rfl⟩ ?_;exact(fun _ _ h=>h)
theorem Z29_all:∀(n:Nat),(∀{a0:Z1}{a1:Sl TSel}{a2 a3:List Bs}{w1 q0_2:Option Nat}{c0 c2 c3:Nat}{r:((List Bs)×(List Bs))},Z29_n n a0 a1 a2 a3=some r->∀(H:Heap) (hc0:H c0=some (.cells (Z1.cg q0_2 a0))) (hc2:H c2=some (.map (seenM a2))) (hc3:H c3=some (.map (seenM a3))) (ne_c3_c2:c3≠c2),ACalls Tryz.prog 33 [.d (.ptr c0 0),.d (Sl.d 7 TSel.c w1 a1),.d (.map c2),.d (.map c3)] H fun v h'=>v=.tup []/\h'=((H.set c2 (some (.map (seenM r.1)))).set c3 (some (.map (seenM r.2)))))
 | 0=>fun hE=>by first|cases hE|(rw [Z29_n] at hE; cases hE)
 | n+1=>Z29_step n (Z29_all n)
def Z29 (a0:Z1) (a1:(Sl TSel)) (a2:(List Bs)) (a3:(List Bs)):Option ((List Bs)×(List Bs)):=Z29_n F0 a0 a1 a2 a3
theorem Z29_walk {a0:Z1}{a1:Sl TSel}{a2 a3:List Bs}{w1 q0_2:Option Nat}{c0 c2 c3:Nat}{r:((List Bs)×(List Bs))}(hE:Z29 a0 a1 a2 a3=some r) (H:Heap) (hc0:H c0=some (.cells (Z1.cg q0_2 a0))) (hc2:H c2=some (.map (seenM a2))) (hc3:H c3=some (.map (seenM a3))) (ne_c3_c2:c3≠c2):ACalls Tryz.prog 33 [.d (.ptr c0 0),.d (Sl.d 7 TSel.c w1 a1),.d (.map c2),.d (.map c3)] H fun v h'=>v=.tup []/\h'=((H.set c2 (some (.map (seenM r.1)))).set c3 (some (.map (seenM r.2)))):=(Z29_all F0) hE H hc0 hc2 hc3 ne_c3_c2
def Z24 (a0:Z1) (a1:Bool) (a2:Int) (a3:Bs):Option Z1:=bif a1 then((appC 24 a0.Fout (⟨false,[(Z3.mk a2 a3)]⟩:Sl Z3)).bind fun x3=>some (Z1.mk a0.Fd a0.Fq x3)) else(some a0)
theorem Z24_walk {a0:Z1}{a1:Bool}{a2:Int}{a3:Bs}{c0 c0_2:Nat}{r:Z1}(hE:Z24 a0 a1 a2 a3=some r) (H:Heap) (hc0:H c0=some (.cells (Z1.cg (some c0_2) a0))) (ht0_2:H c0_2=some (.tok 2 a0.Fout.l.length)):ACalls Tryz.prog 34 [.d (.ptr c0 0),.d (.bool a1),.d (.int .i64 a2),.d (.str a3)] H fun v h'=>v=.tup []/\h'=((H.set c0_2 (some (.tok 2 r.Fout.l.length))).set c0 (some (.cells (Z1.cg (some c0_2) r)))):=by
 unfold Z24 at hE;refine ACalls.oW 21 [] Tryz.call34 Tryz.func34 ?_;have ne_c0_c0_2:c0≠c0_2:=fun e_=>by subst e_; simp_all
 refine AWp.heqA (h':=((H.set c0_2 (some (.tok 2 a0.Fout.l.length))).set c0 (some (.cells (Z1.cg (some c0_2) a0))))) (by funext n_; simp only [Heap.set]; (repeat' split)<;>simp_all) ?_;refine seqR (S Mv (nil ?_));refine cE hE (fun hc2 hE=>?_) (fun hc2 hE=>?_)
 ·refine region ?_;refine S Mv (S Mv (S NP ?_));refine s0 (fieldP (TK rfl) rfl rfl (TK rfl) rfl rfl) rfl ?_;refine s0 (loadP (TK rfl) rfl rfl hpG rfl) rfl ?_;refine S Mv (S Mv (S BU (S BV ?_)));obtain⟨x3,gx3,hE⟩:=bO hE;refine SH (am Z3.c (TK rfl) rfl (TK rfl) (TK rfl) gx3) ?_;refine hq ((H.set c0_2 (some (.tok 2 x3.l.length))).set c0 (some (.cells (Z1.cg (some c0_2) a0)))) ?_;refine S NP ?_;refine s0 (fieldP (TK rfl) rfl rfl (TK rfl) rfl rfl) rfl ?_
  refine sHn (storeP1 (TK rfl) rfl rfl hpG rfl (by repeat (first|exact SetAt.zero|apply SetAt.succ))) rfl rfl ?_;refine hq ((H.set c0_2 (some (.tok 2 x3.l.length))).set c0 (some (.cells (Z1.cg (some c0_2) (Z1.mk a0.Fd a0.Fq x3))))) ?_;refine nil ?_;repeat (first|refine xBlock_normal ?_|refine xThen_exit ?_|refine xBlock_exit ?_)
  obtain rfl:=Option.some.inj hE;refine retQ.normalF ((H.set c0_2 (some (.tok 2 x3.l.length))).set c0 (some (.cells (Z1.cg (some c0_2) (Z1.mk a0.Fd a0.Fq x3))))) (xs:=[]) rfl ⟨rfl,rfl⟩ ?_;exact(fun _ _ h=>h)
 refine AWp.skip ?_;repeat (first|refine xBlock_normal ?_|refine xThen_exit ?_|refine xBlock_exit ?_)
 obtain rfl:=Option.some.inj hE;refine retQ.normalF ((H.set c0_2 (some (.tok 2 a0.Fout.l.length))).set c0 (some (.cells (Z1.cg (some c0_2) a0)))) (xs:=[]) rfl ⟨rfl,rfl⟩ ?_;exact(fun _ _ h=>h)
def Z85 (a0:(Sl Int)):Option (Sl Int):=bif a0.nl then(some (Sl.nil:Sl Int)) else((appC 8 (⟨false,[]⟩:Sl Int) a0).bind fun x7=>some x7)
theorem Z85_walk {a0:Sl Int}{w0:Option Nat}{r:Sl Int}(hE:Z85 a0=some r) (H:Heap) :ACalls Tryz.prog 50 [.d (Sl.d 1 (intE .i64) w0 a0)] H fun v h'=>v=.a (.d (Sl.d 1 (intE .i64) none r))/\h'=H:=by
 unfold Z85 at hE;refine ACalls.oW 8 [.tmp 2] Tryz.call50 Tryz.func50 ?_;refine seqR ?_;refine s0 (assignNil (k':=1) rfl) rfl ?_;refine nil ?_;refine seqK fun K2 hK2=>?_;refine seqR (S Mv ?_);refine s0 (eqNil (TK rfl) rfl rfl) rfl ?_;refine nil ?_;refine cE hE (fun hc4 hE=>?_) (fun hc4 hE=>?_)
 ·refine seqR ?_;refine s0 (assignNil (k':=1) rfl) rfl ?_;refine nil ?_;exact rt hE
 refine sk hK2 ?_;clear hK2 K2;refine seqR ?_;refine s0 (buildSliceF (TK rfl) rfl (TK rfl) rfl rfl rfl rfl rfl rfl) rfl ?_;refine S Mv ?_;obtain⟨x7,gx7,hE⟩:=bO hE;refine s0 (appFM (f:=(intE .i64)) (TK rfl) rfl (TK rfl) (TK rfl) ⟨_,rfl⟩ rfl rfl (by decide) rfl rfl rfl (by intro q h; cases h<;>decide) rfl rfl gx7) rfl ?_;refine S As (nil ?_);exact rt hE
def Z104 (a0:TRef):Option Bool:=guardO ((decide ((0:Int)<((a0.FWraps.l.length:Nat):Int)))) (a0.FWraps.l[0]?) (0:Int) fun x4=>some ((decide ((0:Int)<((a0.FWraps.l.length:Nat):Int)))&&(decide (x4=(1:Int))))
theorem Z104_walk {a0:TRef}{r:Bool}(hE:Z104 a0=some r) (H:Heap) :ACalls Tryz.prog 67 [.agg (TRef.c a0)] H fun v h'=>v=.a (.d (.bool r))/\h'=H:=by
 unfold Z104 at hE;refine ACalls.oW 14 [.tmp 2] Tryz.call67 Tryz.func67 ?_;refine seqR (S BX (S As (nil ?_)));refine seqR (S Fv (S Ld ?_));refine sLen (f:=(intE .i64)) (s:=a0.FWraps) (TK rfl) rfl rfl rfl rfl fun hL3=>?_;refine S BI (S Mv (G0 Fv ?_));refine G1 8 rfl Ld ?_;obtain⟨x4,gx4,hE⟩:=gO hE;refine gC rfl rfl (fun hC=>ungdA (k:=9) rfl (idxMn (f:=(intE .i64)) (n:=0) (TK rfl) rfl (TK rfl) rfl rfl rfl (gx4 hC))) rfl ?_
 refine G1 10 rfl Ld ?_;refine G1 11 rfl BI ?_;refine S PA (S As (nil ?_));exact rt hE
def Z106 (a0:TRef):Option TRef:=(Z104 a0).bind fun x4=>bif x4 then((Z85 a0.FWraps).bind fun x7=>some (TRef.mk a0.FName x7)) else((appC 8 (⟨false,[(1:Int)]⟩:Sl Int) a0.FWraps).bind fun x9=>some (TRef.mk a0.FName x9))
theorem Z106_walk {a0 r:TRef}(hE:Z106 a0=some r) (H:Heap) :ACalls Tryz.prog 47 [.agg (TRef.c a0)] H fun v h'=>v=.a (.agg (TRef.c r))/\h'=H:=by
 unfold Z106 at hE;refine ACalls.oW 18 [.cell 2 27] Tryz.call47 Tryz.func47 ?_;refine seqR (S BX ?_);refine Sl ?_;refine nil ?_;refine seqK fun K2 hK2=>?_;refine seqR (S Ld ?_);obtain⟨x4,gx4,hE⟩:=bO hE;refine Sc rfl rfl (Z104_walk gx4) ?_;refine nil ?_;refine cE hE (fun hc5 hE=>?_) (fun hc5 hE=>?_)
 ·refine AWp.seqD (Sd Fv (Sd Ld (Sd Fv (Sd Ld ?_))));obtain⟨x7,gx7,hE⟩:=bO hE;refine Scd rfl rfl (Z85_walk gx7) ?_;refine Sd BU ?_;refine DOps.sLn (storeLFA (TK rfl) rfl rfl rfl rfl rfl) ?_;refine DOps.nil (by decide +kernel) ?_;exact rt hE
 refine sk hK2 ?_;clear hK2 K2;refine AWp.seqD (Sd Fv (Sd Ld ?_));refine DOps.s0 (buildSliceF (TK rfl) rfl (TK rfl) rfl rfl rfl rfl rfl rfl) rfl ?_;refine Sd Fv (Sd Ld ?_);obtain⟨x9,gx9,hE⟩:=bO hE;refine DOps.s0 (appFM (f:=(intE .i64)) (TK rfl) rfl (TK rfl) (TK rfl) ⟨_,rfl⟩ rfl rfl (by decide) rfl rfl rfl (by intro q h; cases h<;>decide) rfl rfl gx9) rfl ?_;refine Sd BU ?_;refine DOps.sLn (storeLFA (TK rfl) rfl rfl rfl rfl rfl) ?_
 refine DOps.nil (by decide +kernel) ?_;exact rt hE
def Z105 (a0:Bs):Option TRef:=some (TRef.mk a0 (Sl.nil:Sl Int))
theorem Z105_walk {a0:Bs}{r:TRef}(hE:Z105 a0=some r) (H:Heap) :ACalls Tryz.prog 48 [.d (.str a0)] H fun v h'=>v=.a (.agg (TRef.c r))/\h'=H:=by
 unfold Z105 at hE;refine ACalls.oW 5 [.cell 2 27] Tryz.call48 Tryz.func48 ?_;refine seqR ?_;refine Sl ?_;refine nil ?_;refine seqR (S Mv (S BU ?_));refine Sf ?_;refine nil ?_;exact rt hE
def Z32 (a0:Bs) (a1:Bs):Option Z6:=(Z105 a1).bind fun x3=>(Z106 x3).bind fun x4=>some (Z6.mk a0 x4 false Z9.zero (Sl.nil:Sl TDir))
theorem Z32_walk {a0 a1:Bs}{r:Z6}(hE:Z32 a0 a1=some r) (H:Heap) :ACalls Tryz.prog 96 [.d (.str a0),.d (.str a1)] H fun v h'=>v=.a (.agg (Z6.c r))/\h'=H:=by
 unfold Z32 at hE;refine ACalls.oW 10 [.cell 4 51] Tryz.call96 Tryz.func96 ?_;refine seqR ?_;refine Sl ?_;refine nil ?_;refine seqR (S Mv (S Mv ?_));obtain⟨x3,gx3,hE⟩:=bO hE;refine Sc rfl rfl (Z105_walk gx3) ?_;obtain⟨x4,gx4,hE⟩:=bO hE;refine Sc rfl rfl (Z106_walk gx4) ?_;refine S BU ?_;refine Sf ?_;refine nil ?_;exact rt hE
def Z23 (a0:Bs) (a1:Bool):Option (Sl Z6):=bif (((a0==([115,107,105,112]:Bs)))||((a0==([105,110,99,108,117,100,101]:Bs)))) then((Z32 ([105,102]:Bs) ([66,111,111,108,101,97,110]:Bs)).bind fun x6=>some (⟨false,[x6]⟩:Sl Z6)) else(bif (((a0==([100,101,102,101,114]:Bs)))&&(!a1)) then((Z32 ([108,97,98,101,108]:Bs) ([83,116,114,105,110,103]:Bs)).bind fun x10=>some (⟨false,[x10]⟩:Sl Z6)) else(bif (((a0==([115,116,114,101,97,109]:Bs)))&&a1) then((Z32 ([108,97,98,101,108]:Bs) ([83,116,114,105,110,103]:Bs)).bind fun x14=>(Z32 ([105,110,105,116,105,97,108,67,111,117,110,116]:Bs) ([73,110,116]:Bs)).bind fun x15=>some (⟨false,[x14,x15]⟩:Sl Z6)) else(some (Sl.nil:Sl Z6))))
theorem Z23_walk {a0:Bs}{a1:Bool}{r:Sl Z6}(hE:Z23 a0 a1=some r) (H:Heap) :ACalls Tryz.prog 79 [.d (.str a0),.d (.bool a1)] H fun v h'=>v=.a (.d (Sl.d 10 Z6.c none r))/\h'=H:=by
 unfold Z23 at hE;refine ACalls.oW 32 [.tmp 4] Tryz.call79 Tryz.func79 ?_;refine seqR ?_;refine s0 (assignNil (k':=10) rfl) rfl ?_;refine nil ?_;refine seqK fun K2 hK2=>?_;refine block ?_;refine seqR (S Mv (S BS (S Mv (G0 Mv ?_))));refine G1 9 rfl BS ?_;refine S PO (S As (nil ?_));refine cE hE (fun hc4 hE=>?_) (fun hc4 hE=>?_)
 ·refine seqR ?_;obtain⟨x6,gx6,hE⟩:=bO hE;refine Sc rfl rfl (Z32_walk gx6) ?_;refine S BV (S As (nil ?_));exact rt hE
 refine seqR (S Mv (S BS (S Mv (G0 Mv ?_))));refine G1 18 rfl NB ?_;refine S PA (S As (nil ?_));refine cE hE (fun hc8 hE=>?_) (fun hc8 hE=>?_)
 ·refine seqR ?_;obtain⟨x10,gx10,hE⟩:=bO hE;refine Sc rfl rfl (Z32_walk gx10) ?_;refine S BV (S As (nil ?_));exact rt hE
 refine seqR (S Mv (S BS (S Mv (G0 Mv (S PA (S As (nil ?_)))))));refine cE hE (fun hc12 hE=>?_) (fun hc12 hE=>?_)
 ·refine seqR ?_;obtain⟨x14,gx14,hE⟩:=bO hE;refine Sc rfl rfl (Z32_walk gx14) ?_;obtain⟨x15,gx15,hE⟩:=bO hE;refine Sc rfl rfl (Z32_walk gx15) ?_;refine S BV (S As (nil ?_));exact rt hE
 refine sk hK2 ?_;clear hK2 K2;refine seqR ?_;refine s0 (assignNil (k':=10) rfl) rfl ?_;refine nil ?_;exact rt hE
def Z107_j3 (a0:TRef)  (s3_4:(Sl Int)):Option TRef:=(Z85 s3_4).bind fun x6=>some (TRef.mk a0.FName x6)
def Z107 (a0:TRef):Option TRef:=(Z104 a0).bind fun x8=>bif x8 then((partC a0.FWraps (some (1:Int)) none).bind fun x10=>Z107_j3 a0  x10) else(Z107_j3 a0  a0.FWraps)
theorem Z107_walk {a0 r:TRef}(hE:Z107 a0=some r) (H:Heap) :ACalls Tryz.prog 88 [.agg (TRef.c a0)] H fun v h'=>v=.a (.agg (TRef.c r))/\h'=H:=by
 unfold Z107 at hE;refine ACalls.oW 15 [.cell 2 27] Tryz.call88 Tryz.func88 ?_;refine seqR (S BX ?_);refine Sl ?_;refine nil ?_;refine seqR (S Fv (S Ld (S As (nil ?_))));refine seqJH (TA 1 (TA 2 KeepsT.nil)) (fun(z:(Sl Int))=>[(3,.a (.d (Sl.d 1 (intE .i64) none z)))]) (fun z=>H) (fun z=>Z107_j3 a0 z=some r) ?_ ?_
 ·intro K3 hK3;refine seqR (S Ld ?_);obtain⟨x8,gx8,hE⟩:=bO hE;refine Sc rfl rfl (Z104_walk gx8) ?_;refine nil ?_;refine cE hE (fun hc9 hE=>?_) (fun hc9 hE=>?_)
  ·refine region ?_;refine S Mv ?_;obtain⟨x10,gx10,hE⟩:=bO hE;refine s0 (partM (f:=(intE .i64)) (l:=(some (1:Int))) (r:=none) (TK rfl) rfl (TK rfl) rfl rfl rfl trivial gx10) rfl ?_;refine S As (nil ?_);exact hK3 _ x10 Weak.toA hE
  refine AWp.skip ?_;exact hK3 _ a0.FWraps Weak.toA hE
 rintro s3_4 hE;try dsimp only at hE
 unfold Z107_j3 at hE;refine AWp.seqD (Sd Fv (Sd Ld (Sd Mv ?_)));obtain⟨x6,gx6,hE⟩:=bO hE;refine Scd rfl rfl (Z85_walk gx6) ?_;refine Sd BU ?_;refine DOps.sLn (storeLFA (TK rfl) rfl rfl rfl rfl rfl) ?_;refine DOps.nil (by decide +kernel) ?_;exact rt hE
def Z103 (a0:TRef):Option Bool:=(Z107 a0).bind fun x3=>guardO ((decide ((0:Int)<((x3.FWraps.l.length:Nat):Int)))) (x3.FWraps.l[0]?) (0:Int) fun x6=>some ((decide ((0:Int)<((x3.FWraps.l.length:Nat):Int)))&&(decide (x6=(2:Int))))
theorem Z103_walk {a0:TRef}{r:Bool}(hE:Z103 a0=some r) (H:Heap) :ACalls Tryz.prog 80 [.agg (TRef.c a0)] H fun v h'=>v=.a (.d (.bool r))/\h'=H:=by
 unfold Z103 at hE;refine ACalls.oW 16 [.tmp 2] Tryz.call80 Tryz.func80 ?_;refine seqR ?_;refine sL (boxL rfl (by repeat (first|exact Snoc.nil|apply Snoc.cons))) rfl ?_;refine S As (nil ?_);refine seqR (S LL ?_);obtain⟨x3,gx3,hE⟩:=bO hE;refine Sc rfl rfl (Z107_walk gx3) ?_;refine Sf ?_;refine nil ?_;refine seqR (S FL (S LL ?_));refine sLen (f:=(intE .i64)) (s:=x3.FWraps) (TK rfl) rfl rfl rfl rfl fun hL5=>?_
 refine S BI (S Mv (G0 FL ?_));refine gC rfl rfl (fun hC=>ungdLA (k:=10) rfl (loadL (TK rfl) rfl rfl rfl rfl)) rfl ?_;obtain⟨x6,gx6,hE⟩:=gO hE;refine gC rfl rfl (fun hC=>ungdA (k:=11) rfl (idxMn (f:=(intE .i64)) (n:=0) (TK rfl) rfl (TK rfl) rfl rfl rfl (gx6 hC))) rfl ?_;refine G1 12 rfl Ld ?_;refine G1 13 rfl BI ?_;refine S PA (S As (nil ?_));exact rt hE
def Z93_j2  :Option Int:=some (-1:Int)
def Z93_l6 (a0:(Sl TDir)) (a1:(TDir->Option Bool)) :Nat->Nat->Option Int
 | 0,_=>none
 | n6+1,s8_7=>bif (decide (((s8_7:Nat):Int)<((a0.l.length:Nat):Int))) then((a0.l[s8_7]?).bind fun x14=>(a1 x14).bind fun x15=>bif x15 then(some ((s8_7:Nat):Int)) else((Z93_l6 a0 a1 n6) (s8_7+1))) else(Z93_j2   )
def Z93 (a0:(Sl TDir)) (a1:(TDir->Option Bool)):Option Int:=Z93_l6 a0 a1 (a0.l.length+1) 0
theorem Z93_walk {a0:Sl TDir}{a1:TDir->Option Bool}{w0:Option Nat}{cl1:List D}{k1:Nat}{r:Int}(hE:Z93 a0 a1=some r) (H:Heap) (hf1:∀x0 r,a1 x0=some r->∀H,ACalls Tryz.prog k1 ([.agg (TDir.c x0)]++cl1.map A.d) H fun v h'=>v=.a (.d (.bool r))/\h'=H):ACalls Tryz.prog 97 [.d (Sl.d 2 TDir.c w0 a0),.d (.func k1 cl1)] H fun v h'=>v=.a (.d (.int .i64 r))/\h'=H:=by
 unfold Z93 at hE;refine ACalls.oW 19 [.tmp 4] Tryz.call97 Tryz.func97 ?_;refine seqR (S As (nil ?_));refine seqJH KeepsT.nil (fun(z:Unit)=>[]) (fun z=>H) (fun z=>Z93_j2 =some r) ?_ ?_
 ·intro K2 hK2;refine seqR (S Mv ?_);refine sLen (f:=TDir.c) (s:=a0) (TK rfl) rfl rfl rfl rfl fun hL5=>?_;refine S Mv (nil ?_);refine block ?_;refine loopH (TA 0 (TA 1 (TA 7 KeepsT.nil))) (fun(z:Nat×Nat)=>[(8,.a (.d (.int .i64 ((z.2:Nat):Int))))]) (fun z=>H) (fun z=>z.1) (fun z=>Z93_l6 a0 a1 z.1 z.2=some r) ((a0.l.length+1),0) hE Weak.toA ?_;rintro ⟨n6,s8_7⟩ hE K6 hK6;try dsimp only at hE
  cases n6 with
  | zero=>cases hE
  | succ n6 =>
    rw [Z93_l6] at hE;refine seqR (S BI (nil ?_));refine seqK fun K9 hK9=>?_;refine cE hE (fun hc10 hE=>?_) (fun hc10 hE=>?_)
    ·try dsimp only at hc10
     have hf10:=of_decide_eq_true hc10;refine sk hK9 ?_;clear hK9 K9;refine seqK fun K11 hK11=>?_;refine block ?_;refine seqR (S Mv (S As (nil ?_)));refine seqR (S Mv (S Mv (S Mv ?_)));obtain⟨x14,gx14,hE⟩:=bO hE;refine S (ix TDir.c s8_7 gx14) (S Ld ?_);obtain⟨x15,gx15,hE⟩:=bO hE;refine s0 (callP rfl rfl (hf1 _ _ gx15)) rfl ?_;refine nil ?_;refine cE hE (fun hc16 hE=>?_) (fun hc16 hE=>?_)
     ·refine seqR (S Mv (S As (nil ?_)));exact rt hE
     refine sk hK11 ?_;clear hK11 K11;refine region ?_;refine SI ?_;refine S Mv (nil ?_);exact hK6 _ (n6,(s8_7+1)) Weak.toA hE (Nat.lt_succ_self _)
    refine AWp.exit ?_;exact hK2 _ () Weak.toA hE
 rintro _ hE;try dsimp only at hE
 unfold Z93_j2 at hE;refine seqR (S As (nil ?_));exact rt hE
end Go.Proofs

namespace Go.Proofs
open Go Go.Ab
open AOps Cert AWp Keeps KeepsT
variable {lou:Lou}
def Z88 (a0:(Sl TDir)) (a1:(TDir->Option Bool)):Option Bool:=(Z93 a0 a1).bind fun x3=>some (decide ((0:Int)<=x3))
theorem Z88_walk {a0:Sl TDir}{a1:TDir->Option Bool}{w0:Option Nat}{cl1:List D}{k1:Nat}{r:Bool}(hE:Z88 a0 a1=some r) (H:Heap) (hf1:∀x0 r,a1 x0=some r->∀H,ACalls Tryz.prog k1 ([.agg (TDir.c x0)]++cl1.map A.d) H fun v h'=>v=.a (.d (.bool r))/\h'=H):ACalls Tryz.prog 81 [.d (Sl.d 2 TDir.c w0 a0),.d (.func k1 cl1)] H fun v h'=>v=.a (.d (.bool r))/\h'=H:=by
 unfold Z88 at hE;refine ACalls.oW 9 [.tmp 4] Tryz.call81 Tryz.func81 ?_;refine seqR (S As (nil ?_));refine seqR (S Mv (S Mv ?_));obtain⟨x3,gx3,hE⟩:=bO hE;refine s0 (callP rfl rfl (fun H=>Z93_walk gx3 H hf1)) rfl ?_;refine S BI (S As (nil ?_));exact rt hE
def Z26 (a0:TDir) (a1:TDir):Option Bool:=some ((a0.FName==a1.FName))
theorem Z26_walk {a0 a1:TDir}{r:Bool}(hE:Z26 a0 a1=some r) (H:Heap) :ACalls Tryz.prog 82 [.agg (TDir.c a0),.d (.view (TDir.c a1))] H fun v h'=>v=.a (.d (.bool r))/\h'=H:=by
 unfold Z26 at hE;refine ACalls.oW 9 [.tmp 3] Tryz.call82 Tryz.func82 ?_;refine seqR (S BX (S As (nil ?_)));refine seqR (S Fv (S Ld (S Fv (S Ld (S BS (S As (nil ?_)))))));exact rt hE
def Z31_j2  (y3_l0:Z9):Option (Z9×Bool):=some ((Z9.mk (0:Int) (0:Int) ([]:Bs) true ([]) (Sl.nil:Sl Bs)),false)
def Z31_l7 (a0:(Sl TArg)) (a1:Bs) :Nat->Nat->Z9->Option (Z9×Bool)
 | 0,_,_=>none
 | n7+1,s10_8,y9_l0=>bif (decide (((s10_8:Nat):Int)<((a0.l.length:Nat):Int))) then((a0.l[s10_8]?).bind fun x15=>bif ((x15.FName==a1)) then(some (x15.FValue,true)) else((Z31_l7 a0 a1 n7) (s10_8+1) y9_l0)) else(Z31_j2   y9_l0)
def Z31 (a0:(Sl TArg)) (a1:Bs):Option (Z9×Bool):=Z31_l7 a0 a1 (a0.l.length+1) 0 Z9.zero
theorem Z31_walk {a0:Sl TArg}{a1:Bs}{w0:Option Nat}{r:Z9×Bool}(hE:Z31 a0 a1=some r) (H:Heap) :ACalls Tryz.prog 84 [.d (Sl.d 6 TArg.c w0 a0),.d (.str a1)] H fun v h'=>v=.tup [.agg (Z9.c r.1),.d (.bool r.2)]/\h'=H:=by
 unfold Z31 at hE;refine ACalls.oW 22 [.cell 4 31,.tmp 5] Tryz.call84 Tryz.func84 ?_;refine seqR ?_;refine Sl ?_;refine S As (nil ?_);refine seqJ (TA 4 KeepsT.nil) (fun(z:Z9)=>[]) (fun z=>[Z9.c z]) (fun z=>H) (fun z=>Z31_j2 z=some r) ?_ ?_
 ·intro K2 hK2;refine seqR (S Mv ?_);refine sLen (f:=TArg.c) (s:=a0) (TK rfl) rfl rfl rfl rfl fun hL6=>?_;refine S Mv (nil ?_);refine block ?_;refine loopO (TA 1 (TA 4 (TA 8 (TA 9 KeepsT.nil)))) (fun(z:Nat×Nat×Z9)=>[(10,.a (.d (.int .i64 ((z.2.1:Nat):Int))))]) (fun z=>[Z9.c z.2.2]) (fun z=>H) (fun z=>z.1) (fun z=>Z31_l7 a0 a1 z.1 z.2.1 z.2.2=some r) ((a0.l.length+1),0,Z9.zero) hE Weak.toA ?_;rintro ⟨n7,s10_8,y9_l0⟩ hE K7 hK7
  try dsimp only at hE
  cases n7 with
  | zero=>cases hE
  | succ n7 =>
    rw [Z31_l7] at hE;refine seqR (S BI (nil ?_));refine seqK fun K11 hK11=>?_;refine cE hE (fun hc12 hE=>?_) (fun hc12 hE=>?_)
    ·try dsimp only at hc12
     have hf12:=of_decide_eq_true hc12;refine sk hK11 ?_;clear hK11 K11;refine seqK fun K13 hK13=>?_;refine block ?_;refine seqR ?_;obtain⟨x15,gx15,hE⟩:=bO hE;refine S (ix TArg.c s10_8 gx15) (S Ld ?_);refine Sl ?_;refine Sf ?_;refine nil ?_;refine freezeA 7 _ rfl (KA 1 (KA 4 (KA 8 (KA 9 (KA 10 Keeps.nil))))) ?_;refine seqR (S Fv (S Ld (S Mv (S BS (nil ?_)))));refine cE hE (fun hc17 hE=>?_) (fun hc17 hE=>?_)
     ·refine seqR (S Fv (S Ld ?_));refine Sf ?_;refine S As (nil ?_);exact rt hE
     refine sk hK13 ?_;clear hK13 K13;refine region ?_;refine SI ?_;refine S Mv (nil ?_);exact hK7 _ (n7,(s10_8+1),y9_l0) Weak.toA hE (Nat.lt_succ_self _)
    refine AWp.exit ?_;exact hK2 _ y9_l0 Weak.toA hE
 rintro y3_l0 hE;try dsimp only at hE
 unfold Z31_j2 at hE;refine seqR (S BU ?_);refine Sf ?_;refine S As (nil ?_);exact rt hE
def Z70_j2  (y3_l0:Z6):Option (Z6×Bool):=some ((Z6.mk ([]:Bs) TRef.zero false Z9.zero (Sl.nil:Sl TDir)),false)
def Z70_l7 (a0:(Sl Z6)) (a1:Bs) :Nat->Nat->Z6->Option (Z6×Bool)
 | 0,_,_=>none
 | n7+1,s10_8,y9_l0=>bif (decide (((s10_8:Nat):Int)<((a0.l.length:Nat):Int))) then((a0.l[s10_8]?).bind fun x15=>bif ((x15.FName==a1)) then(some (x15,true)) else((Z70_l7 a0 a1 n7) (s10_8+1) y9_l0)) else(Z70_j2   y9_l0)
def Z70 (a0:(Sl Z6)) (a1:Bs):Option (Z6×Bool):=Z70_l7 a0 a1 (a0.l.length+1) 0 Z6.zero
theorem Z70_walk {a0:Sl Z6}{a1:Bs}{w0:Option Nat}{r:Z6×Bool}(hE:Z70 a0 a1=some r) (H:Heap) :ACalls Tryz.prog 89 [.d (Sl.d 10 Z6.c w0 a0),.d (.str a1)] H fun v h'=>v=.tup [.agg (Z6.c r.1),.d (.bool r.2)]/\h'=H:=by
 unfold Z70 at hE;refine ACalls.oW 21 [.cell 4 51,.tmp 5] Tryz.call89 Tryz.func89 ?_;refine seqR ?_;refine Sl ?_;refine S As (nil ?_);refine seqJ (TA 4 KeepsT.nil) (fun(z:Z6)=>[]) (fun z=>[Z6.c z]) (fun z=>H) (fun z=>Z70_j2 z=some r) ?_ ?_
 ·intro K2 hK2;refine seqR (S Mv ?_);refine sLen (f:=Z6.c) (s:=a0) (TK rfl) rfl rfl rfl rfl fun hL6=>?_;refine S Mv (nil ?_);refine block ?_;refine loopO (TA 1 (TA 4 (TA 8 (TA 9 KeepsT.nil)))) (fun(z:Nat×Nat×Z6)=>[(10,.a (.d (.int .i64 ((z.2.1:Nat):Int))))]) (fun z=>[Z6.c z.2.2]) (fun z=>H) (fun z=>z.1) (fun z=>Z70_l7 a0 a1 z.1 z.2.1 z.2.2=some r) ((a0.l.length+1),0,Z6.zero) hE Weak.toA ?_;rintro ⟨n7,s10_8,y9_l0⟩ hE K7 hK7
  try dsimp only at hE
  cases n7 with
  | zero=>cases hE
  | succ n7 =>
    rw [Z70_l7] at hE;refine seqR (S BI (nil ?_));refine seqK fun K11 hK11=>?_;refine cE hE (fun hc12 hE=>?_) (fun hc12 hE=>?_)
    ·try dsimp only at hc12
     have hf12:=of_decide_eq_true hc12;refine sk hK11 ?_;clear hK11 K11;refine seqK fun K13 hK13=>?_;refine block ?_;refine seqR ?_;obtain⟨x15,gx15,hE⟩:=bO hE;refine S (ix Z6.c s10_8 gx15) (S Ld ?_);refine Sl ?_;refine Sf ?_;refine nil ?_;refine freezeA 7 _ rfl (KA 1 (KA 4 (KA 8 (KA 9 (KA 10 Keeps.nil))))) ?_;refine seqR (S Fv (S Ld (S Mv (S BS (nil ?_)))));refine cE hE (fun hc17 hE=>?_) (fun hc17 hE=>?_)
     ·refine seqR (S Ld ?_);refine Sf ?_;refine S As (nil ?_);exact rt hE
     refine sk hK13 ?_;clear hK13 K13;refine region ?_;refine SI ?_;refine S Mv (nil ?_);exact hK7 _ (n7,(s10_8+1),y9_l0) Weak.toA hE (Nat.lt_succ_self _)
    refine AWp.exit ?_;exact hK2 _ y9_l0 Weak.toA hE
 rintro y3_l0 hE;try dsimp only at hE
 unfold Z70_j2 at hE;refine seqR (S BU ?_);refine Sf ?_;refine S As (nil ?_);exact rt hE
def Z84 (a0:TDoc) (a1:Bs):Option Int:=(Z69 a0 a1).bind fun x3=>some x3.1.FKind
theorem Z84_walk {a0:TDoc}{a1:Bs}{r:Int}(hE:Z84 a0 a1=some r) (H:Heap) :ACalls Tryz.prog 31 [.agg (TDoc.c a0),.d (.str a1)] H fun v h'=>v=.a (.d (.int .i64 r))/\h'=H:=by
 unfold Z84 at hE;refine ACalls.oW 15 [.tmp 4] Tryz.call31 Tryz.func31 ?_;refine seqR (S BX (S As (nil ?_)));refine seqR (S Ld (S Mv ?_));obtain⟨x3,gx3,hE⟩:=bO hE;refine Sc rfl rfl (Z69_walk gx3) ?_;refine S Mv (S EX (S EX ?_));refine Sl ?_;refine Sf ?_;refine S As (nil ?_);refine freezeA 5 _ rfl Keeps.nil ?_;refine seqR (S Fv (S Ld (S As (nil ?_))));exact rt hE
def Z74 (a0:Bs):Option Bool:=some (((((a0==([73,110,116]:Bs)))||((a0==([83,116,114,105,110,103]:Bs))))||((a0==([66,111,111,108,101,97,110]:Bs))))||((a0==([73,68]:Bs))))
theorem Z74_walk {a0:Bs}{r:Bool}(hE:Z74 a0=some r) (H:Heap) :ACalls Tryz.prog 56 [.d (.str a0)] H fun v h'=>v=.a (.d (.bool r))/\h'=H:=by
 unfold Z74 at hE;refine ACalls.oW 17 [.tmp 2] Tryz.call56 Tryz.func56 ?_;refine seqR (S As (nil ?_));refine seqR (S Mv (S BS (S Mv (G0 Mv ?_))));refine G1 6 rfl BS ?_;refine S PO (S Mv (G0 Mv ?_));refine G1 10 rfl BS ?_;refine S PO (S Mv (G0 Mv ?_));refine G1 14 rfl BS ?_;refine S PO (S As (nil ?_));exact rt hE
def Z72 (a0:TDoc) (a1:Bs):Option Bool:=(Z74 a1).bind fun x3=>guardO (!x3) (Z84 a0 a1) (0:Int) fun x4=>some (x3||(decide (x4=(4:Int))))
theorem Z72_walk {a0:TDoc}{a1:Bs}{r:Bool}(hE:Z72 a0 a1=some r) (H:Heap) :ACalls Tryz.prog 30 [.agg (TDoc.c a0),.d (.str a1)] H fun v h'=>v=.a (.d (.bool r))/\h'=H:=by
 unfold Z72 at hE;refine ACalls.oW 13 [.tmp 4] Tryz.call30 Tryz.func30 ?_;refine seqR (S BX (S As (nil ?_)));refine seqR (S Mv ?_);obtain⟨x3,gx3,hE⟩:=bO hE;refine Sc rfl rfl (Z74_walk gx3) ?_;refine S Mv (G0 Ld (G0 Mv ?_));obtain⟨x4,gx4,hE⟩:=gO hE;refine Gc2 8 9 rfl rfl rfl rfl rfl rfl (fun hC=>Z84_walk (gx4 hC)) ?_;refine G1 10 rfl BI ?_;refine S PO (S As (nil ?_));exact rt hE
def Z71 (a0:TDoc) (a1:Bs):Option Bool:=(Z72 a0 a1).bind fun x3=>guardO (!x3) (Z84 a0 a1) (0:Int) fun x4=>some (x3||(decide (x4=(5:Int))))
theorem Z71_walk {a0:TDoc}{a1:Bs}{r:Bool}(hE:Z71 a0 a1=some r) (H:Heap) :ACalls Tryz.prog 13 [.agg (TDoc.c a0),.d (.str a1)] H fun v h'=>v=.a (.d (.bool r))/\h'=H:=by
 unfold Z71 at hE;refine ACalls.oW 14 [.tmp 4] Tryz.call13 Tryz.func13 ?_;refine seqR (S BX (S As (nil ?_)));refine seqR (S Ld (S Mv ?_));obtain⟨x3,gx3,hE⟩:=bO hE;refine Sc rfl rfl (Z72_walk gx3) ?_;refine S Mv (G0 Ld (G0 Mv ?_));obtain⟨x4,gx4,hE⟩:=gO hE;refine Gc2 9 10 rfl rfl rfl rfl rfl rfl (fun hC=>Z84_walk (gx4 hC)) ?_;refine G1 11 rfl BI ?_;refine S PO (S As (nil ?_));exact rt hE
def Z102 (a0:TRef):Option (TRef×Bool):=(Z103 a0).bind fun x4=>bif (!x4) then(some ((TRef.mk ([]:Bs) (Sl.nil:Sl Int)),false)) else((Z107 a0).bind fun x8=>(partC x8.FWraps (some (1:Int)) none).bind fun x10=>some ((TRef.mk x8.FName x10),true))
theorem Z102_walk {a0:TRef}{r:TRef×Bool}(hE:Z102 a0=some r) (H:Heap) :ACalls Tryz.prog 68 [.agg (TRef.c a0)] H fun v h'=>v=.tup [.agg (TRef.c r.1),.d (.bool r.2)]/\h'=H:=by
 unfold Z102 at hE;refine ACalls.oW 15 [.cell 2 27,.tmp 3] Tryz.call68 Tryz.func68 ?_;refine seqR ?_;refine sL (boxL rfl (by repeat (first|exact Snoc.nil|apply Snoc.cons))) rfl ?_;refine Sl ?_;refine S As (nil ?_);refine seqK fun K2 hK2=>?_;refine seqR (S LL ?_);obtain⟨x4,gx4,hE⟩:=bO hE;refine Sc rfl rfl (Z103_walk gx4) ?_;refine S NB (nil ?_);refine cE hE (fun hc5 hE=>?_) (fun hc5 hE=>?_)
 ·refine seqR (S BU ?_);refine Sf ?_;refine S As (nil ?_);exact rt hE
 refine sk hK2 ?_;clear hK2 K2;refine seqR (S LL ?_);obtain⟨x8,gx8,hE⟩:=bO hE;refine Sc rfl rfl (Z107_walk gx8) ?_;refine Sf ?_;refine nil ?_;refine seqR (S FL (S LL ?_));obtain⟨x10,gx10,hE⟩:=bO hE;refine s0 (partM (f:=(intE .i64)) (l:=(some (1:Int))) (r:=none) (TK rfl) rfl (TK rfl) rfl rfl rfl trivial gx10) rfl ?_;refine S FL ?_;refine Sf ?_;refine nil ?_;refine seqR (S LL ?_);refine Sf ?_;refine S As (nil ?_)
 exact rt hE
def Z94_j2  :Option Int:=some (-1:Int)
def Z94_l6 (a0:(Sl Z7)) (a1:(Z7->Option Bool)) :Nat->Nat->Option Int
 | 0,_=>none
 | n6+1,s8_7=>bif (decide (((s8_7:Nat):Int)<((a0.l.length:Nat):Int))) then((a0.l[s8_7]?).bind fun x14=>(a1 x14).bind fun x15=>bif x15 then(some ((s8_7:Nat):Int)) else((Z94_l6 a0 a1 n6) (s8_7+1))) else(Z94_j2   )
def Z94 (a0:(Sl Z7)) (a1:(Z7->Option Bool)):Option Int:=Z94_l6 a0 a1 (a0.l.length+1) 0
theorem Z94_walk {a0:Sl Z7}{a1:Z7->Option Bool}{w0:Option Nat}{cl1:List D}{k1:Nat}{r:Int}(hE:Z94 a0 a1=some r) (H:Heap) (hf1:∀x0 r,a1 x0=some r->∀H,ACalls Tryz.prog k1 ([.agg (Z7.c x0)]++cl1.map A.d) H fun v h'=>v=.a (.d (.bool r))/\h'=H):ACalls Tryz.prog 101 [.d (Sl.d 2 Z7.c w0 a0),.d (.func k1 cl1)] H fun v h'=>v=.a (.d (.int .i64 r))/\h'=H:=by
 unfold Z94 at hE;refine ACalls.oW 19 [.tmp 4] Tryz.call101 Tryz.func101 ?_;refine seqR (S As (nil ?_));refine seqJH KeepsT.nil (fun(z:Unit)=>[]) (fun z=>H) (fun z=>Z94_j2 =some r) ?_ ?_
 ·intro K2 hK2;refine seqR (S Mv ?_);refine sLen (f:=Z7.c) (s:=a0) (TK rfl) rfl rfl rfl rfl fun hL5=>?_;refine S Mv (nil ?_);refine block ?_;refine loopH (TA 0 (TA 1 (TA 7 KeepsT.nil))) (fun(z:Nat×Nat)=>[(8,.a (.d (.int .i64 ((z.2:Nat):Int))))]) (fun z=>H) (fun z=>z.1) (fun z=>Z94_l6 a0 a1 z.1 z.2=some r) ((a0.l.length+1),0) hE Weak.toA ?_;rintro ⟨n6,s8_7⟩ hE K6 hK6;try dsimp only at hE
  cases n6 with
  | zero=>cases hE
  | succ n6 =>
    rw [Z94_l6] at hE;refine seqR (S BI (nil ?_));refine seqK fun K9 hK9=>?_;refine cE hE (fun hc10 hE=>?_) (fun hc10 hE=>?_)
    ·try dsimp only at hc10
     have hf10:=of_decide_eq_true hc10;refine sk hK9 ?_;clear hK9 K9;refine seqK fun K11 hK11=>?_;refine block ?_;refine seqR (S Mv (S As (nil ?_)));refine seqR (S Mv (S Mv (S Mv ?_)));obtain⟨x14,gx14,hE⟩:=bO hE;refine S (ix Z7.c s8_7 gx14) (S Ld ?_);obtain⟨x15,gx15,hE⟩:=bO hE;refine s0 (callP rfl rfl (hf1 _ _ gx15)) rfl ?_;refine nil ?_;refine cE hE (fun hc16 hE=>?_) (fun hc16 hE=>?_)
     ·refine seqR (S Mv (S As (nil ?_)));exact rt hE
     refine sk hK11 ?_;clear hK11 K11;refine region ?_;refine SI ?_;refine S Mv (nil ?_);exact hK6 _ (n6,(s8_7+1)) Weak.toA hE (Nat.lt_succ_self _)
    refine AWp.exit ?_;exact hK2 _ () Weak.toA hE
 rintro _ hE;try dsimp only at hE
 unfold Z94_j2 at hE;refine seqR (S As (nil ?_));exact rt hE
def Z89 (a0:(Sl Z7)) (a1:(Z7->Option Bool)):Option Bool:=(Z94 a0 a1).bind fun x3=>some (decide ((0:Int)<=x3))
theorem Z89_walk {a0:Sl Z7}{a1:Z7->Option Bool}{w0:Option Nat}{cl1:List D}{k1:Nat}{r:Bool}(hE:Z89 a0 a1=some r) (H:Heap) (hf1:∀x0 r,a1 x0=some r->∀H,ACalls Tryz.prog k1 ([.agg (Z7.c x0)]++cl1.map A.d) H fun v h'=>v=.a (.d (.bool r))/\h'=H):ACalls Tryz.prog 93 [.d (Sl.d 2 Z7.c w0 a0),.d (.func k1 cl1)] H fun v h'=>v=.a (.d (.bool r))/\h'=H:=by
 unfold Z89 at hE;refine ACalls.oW 9 [.tmp 4] Tryz.call93 Tryz.func93 ?_;refine seqR (S As (nil ?_));refine seqR (S Mv (S Mv ?_));obtain⟨x3,gx3,hE⟩:=bO hE;refine s0 (callP rfl rfl (fun H=>Z94_walk gx3 H hf1)) rfl ?_;refine S BI (S As (nil ?_));exact rt hE
def Z92_j2  :Option Int:=some (-1:Int)
def Z92_l6 (a0:(Sl Z9)) (a1:(Z9->Option Bool)) :Nat->Nat->Option Int
 | 0,_=>none
 | n6+1,s8_7=>bif (decide (((s8_7:Nat):Int)<((a0.l.length:Nat):Int))) then((a0.l[s8_7]?).bind fun x14=>(a1 x14).bind fun x15=>bif x15 then(some ((s8_7:Nat):Int)) else((Z92_l6 a0 a1 n6) (s8_7+1))) else(Z92_j2   )
def Z92 (a0:(Sl Z9)) (a1:(Z9->Option Bool)):Option Int:=Z92_l6 a0 a1 (a0.l.length+1) 0
theorem Z92_walk {a0:Sl Z9}{a1:Z9->Option Bool}{w0:Option Nat}{cl1:List D}{k1:Nat}{r:Int}(hE:Z92 a0 a1=some r) (H:Heap) (hf1:∀x0 r,a1 x0=some r->∀H,ACalls Tryz.prog k1 ([.agg (Z9.c x0)]++cl1.map A.d) H fun v h'=>v=.a (.d (.bool r))/\h'=H):ACalls Tryz.prog 107 [.d (Sl.d 5 Z9.c w0 a0),.d (.func k1 cl1)] H fun v h'=>v=.a (.d (.int .i64 r))/\h'=H:=by
 unfold Z92 at hE;refine ACalls.oW 19 [.tmp 4] Tryz.call107 Tryz.func107 ?_;refine seqR (S As (nil ?_));refine seqJH KeepsT.nil (fun(z:Unit)=>[]) (fun z=>H) (fun z=>Z92_j2 =some r) ?_ ?_
 ·intro K2 hK2;refine seqR (S Mv ?_);refine sLen (f:=Z9.c) (s:=a0) (TK rfl) rfl rfl rfl rfl fun hL5=>?_;refine S Mv (nil ?_);refine block ?_;refine loopH (TA 0 (TA 1 (TA 7 KeepsT.nil))) (fun(z:Nat×Nat)=>[(8,.a (.d (.int .i64 ((z.2:Nat):Int))))]) (fun z=>H) (fun z=>z.1) (fun z=>Z92_l6 a0 a1 z.1 z.2=some r) ((a0.l.length+1),0) hE Weak.toA ?_;rintro ⟨n6,s8_7⟩ hE K6 hK6;try dsimp only at hE
  cases n6 with
  | zero=>cases hE
  | succ n6 =>
    rw [Z92_l6] at hE;refine seqR (S BI (nil ?_));refine seqK fun K9 hK9=>?_;refine cE hE (fun hc10 hE=>?_) (fun hc10 hE=>?_)
    ·try dsimp only at hc10
     have hf10:=of_decide_eq_true hc10;refine sk hK9 ?_;clear hK9 K9;refine seqK fun K11 hK11=>?_;refine block ?_;refine seqR (S Mv (S As (nil ?_)));refine seqR (S Mv (S Mv (S Mv ?_)));obtain⟨x14,gx14,hE⟩:=bO hE;refine S (ix Z9.c s8_7 gx14) (S Ld ?_);obtain⟨x15,gx15,hE⟩:=bO hE;refine s0 (callP rfl rfl (hf1 _ _ gx15)) rfl ?_;refine nil ?_;refine cE hE (fun hc16 hE=>?_) (fun hc16 hE=>?_)
     ·refine seqR (S Mv (S As (nil ?_)));exact rt hE
     refine sk hK11 ?_;clear hK11 K11;refine region ?_;refine SI ?_;refine S Mv (nil ?_);exact hK6 _ (n6,(s8_7+1)) Weak.toA hE (Nat.lt_succ_self _)
    refine AWp.exit ?_;exact hK2 _ () Weak.toA hE
 rintro _ hE;try dsimp only at hE
 unfold Z92_j2 at hE;refine seqR (S As (nil ?_));exact rt hE
def Z87 (a0:(Sl Z9)) (a1:(Z9->Option Bool)):Option Bool:=(Z92 a0 a1).bind fun x3=>some (decide ((0:Int)<=x3))
theorem Z87_walk {a0:Sl Z9}{a1:Z9->Option Bool}{w0:Option Nat}{cl1:List D}{k1:Nat}{r:Bool}(hE:Z87 a0 a1=some r) (H:Heap) (hf1:∀x0 r,a1 x0=some r->∀H,ACalls Tryz.prog k1 ([.agg (Z9.c x0)]++cl1.map A.d) H fun v h'=>v=.a (.d (.bool r))/\h'=H):ACalls Tryz.prog 102 [.d (Sl.d 5 Z9.c w0 a0),.d (.func k1 cl1)] H fun v h'=>v=.a (.d (.bool r))/\h'=H:=by
 unfold Z87 at hE;refine ACalls.oW 9 [.tmp 4] Tryz.call102 Tryz.func102 ?_;refine seqR (S As (nil ?_));refine seqR (S Mv (S Mv ?_));obtain⟨x3,gx3,hE⟩:=bO hE;refine s0 (callP rfl rfl (fun H=>Z92_walk gx3 H hf1)) rfl ?_;refine S BI (S As (nil ?_));exact rt hE
def Z30 (a0:Z7) (a1:Z9):Option Bool:=some ((a0.FName==a1.FText))
theorem Z30_walk {a0:Z7}{a1:Z9}{r:Bool}(hE:Z30 a0 a1=some r) (H:Heap) :ACalls Tryz.prog 104 [.agg (Z7.c a0),.d (.view (Z9.c a1))] H fun v h'=>v=.a (.d (.bool r))/\h'=H:=by
 unfold Z30 at hE;refine ACalls.oW 9 [.tmp 3] Tryz.call104 Tryz.func104 ?_;refine seqR (S BX (S As (nil ?_)));refine seqR (S Fv (S Ld (S Fv (S Ld (S BS (S As (nil ?_)))))));exact rt hE
def Z95_j2  :Option Int:=some (-1:Int)
def Z95_l6 (a0:(Sl Z6)) (a1:(Z6->Option Bool)) :Nat->Nat->Option Int
 | 0,_=>none
 | n6+1,s8_7=>bif (decide (((s8_7:Nat):Int)<((a0.l.length:Nat):Int))) then((a0.l[s8_7]?).bind fun x14=>(a1 x14).bind fun x15=>bif x15 then(some ((s8_7:Nat):Int)) else((Z95_l6 a0 a1 n6) (s8_7+1))) else(Z95_j2   )
def Z95 (a0:(Sl Z6)) (a1:(Z6->Option Bool)):Option Int:=Z95_l6 a0 a1 (a0.l.length+1) 0
theorem Z95_walk {a0:Sl Z6}{a1:Z6->Option Bool}{w0:Option Nat}{cl1:List D}{k1:Nat}{r:Int}(hE:Z95 a0 a1=some r) (H:Heap) (hf1:∀x0 r,a1 x0=some r->∀H,ACalls Tryz.prog k1 ([.agg (Z6.c x0)]++cl1.map A.d) H fun v h'=>v=.a (.d (.bool r))/\h'=H):ACalls Tryz.prog 112 [.d (Sl.d 10 Z6.c w0 a0),.d (.func k1 cl1)] H fun v h'=>v=.a (.d (.int .i64 r))/\h'=H:=by
 unfold Z95 at hE;refine ACalls.oW 19 [.tmp 4] Tryz.call112 Tryz.func112 ?_;refine seqR (S As (nil ?_));refine seqJH KeepsT.nil (fun(z:Unit)=>[]) (fun z=>H) (fun z=>Z95_j2 =some r) ?_ ?_
 ·intro K2 hK2;refine seqR (S Mv ?_);refine sLen (f:=Z6.c) (s:=a0) (TK rfl) rfl rfl rfl rfl fun hL5=>?_;refine S Mv (nil ?_);refine block ?_;refine loopH (TA 0 (TA 1 (TA 7 KeepsT.nil))) (fun(z:Nat×Nat)=>[(8,.a (.d (.int .i64 ((z.2:Nat):Int))))]) (fun z=>H) (fun z=>z.1) (fun z=>Z95_l6 a0 a1 z.1 z.2=some r) ((a0.l.length+1),0) hE Weak.toA ?_;rintro ⟨n6,s8_7⟩ hE K6 hK6;try dsimp only at hE
  cases n6 with
  | zero=>cases hE
  | succ n6 =>
    rw [Z95_l6] at hE;refine seqR (S BI (nil ?_));refine seqK fun K9 hK9=>?_;refine cE hE (fun hc10 hE=>?_) (fun hc10 hE=>?_)
    ·try dsimp only at hc10
     have hf10:=of_decide_eq_true hc10;refine sk hK9 ?_;clear hK9 K9;refine seqK fun K11 hK11=>?_;refine block ?_;refine seqR (S Mv (S As (nil ?_)));refine seqR (S Mv (S Mv (S Mv ?_)));obtain⟨x14,gx14,hE⟩:=bO hE;refine S (ix Z6.c s8_7 gx14) (S Ld ?_);obtain⟨x15,gx15,hE⟩:=bO hE;refine s0 (callP rfl rfl (hf1 _ _ gx15)) rfl ?_;refine nil ?_;refine cE hE (fun hc16 hE=>?_) (fun hc16 hE=>?_)
     ·refine seqR (S Mv (S As (nil ?_)));exact rt hE
     refine sk hK11 ?_;clear hK11 K11;refine region ?_;refine SI ?_;refine S Mv (nil ?_);exact hK6 _ (n6,(s8_7+1)) Weak.toA hE (Nat.lt_succ_self _)
    refine AWp.exit ?_;exact hK2 _ () Weak.toA hE
 rintro _ hE;try dsimp only at hE
 unfold Z95_j2 at hE;refine seqR (S As (nil ?_));exact rt hE
end Go.Proofs

namespace Go.Proofs
open Go Go.Ab
open AOps Cert AWp Keeps KeepsT
variable {lou:Lou}
def Z90 (a0:(Sl Z6)) (a1:(Z6->Option Bool)):Option Bool:=(Z95 a0 a1).bind fun x3=>some (decide ((0:Int)<=x3))
theorem Z90_walk {a0:Sl Z6}{a1:Z6->Option Bool}{w0:Option Nat}{cl1:List D}{k1:Nat}{r:Bool}(hE:Z90 a0 a1=some r) (H:Heap) (hf1:∀x0 r,a1 x0=some r->∀H,ACalls Tryz.prog k1 ([.agg (Z6.c x0)]++cl1.map A.d) H fun v h'=>v=.a (.d (.bool r))/\h'=H):ACalls Tryz.prog 108 [.d (Sl.d 10 Z6.c w0 a0),.d (.func k1 cl1)] H fun v h'=>v=.a (.d (.bool r))/\h'=H:=by
 unfold Z90 at hE;refine ACalls.oW 9 [.tmp 4] Tryz.call108 Tryz.func108 ?_;refine seqR (S As (nil ?_));refine seqR (S Mv (S Mv ?_));obtain⟨x3,gx3,hE⟩:=bO hE;refine s0 (callP rfl rfl (fun H=>Z95_walk gx3 H hf1)) rfl ?_;refine S BI (S As (nil ?_));exact rt hE
def Z96_j2  :Option Int:=some (-1:Int)
def Z96_l6 (a0:(Sl Bs)) (a1:Bs) :Nat->Nat->Option Int
 | 0,_=>none
 | n6+1,s8_7=>bif (decide (((s8_7:Nat):Int)<((a0.l.length:Nat):Int))) then((a0.l[s8_7]?).bind fun x14=>bif ((a1==x14)) then(some ((s8_7:Nat):Int)) else((Z96_l6 a0 a1 n6) (s8_7+1))) else(Z96_j2   )
def Z96 (a0:(Sl Bs)) (a1:Bs):Option Int:=Z96_l6 a0 a1 (a0.l.length+1) 0
theorem Z96_walk {a0:Sl Bs}{a1:Bs}{w0:Option Nat}{r:Int}(hE:Z96 a0 a1=some r) (H:Heap) :ACalls Tryz.prog 85 [.d (Sl.d 1 strE w0 a0),.d (.str a1)] H fun v h'=>v=.a (.d (.int .i64 r))/\h'=H:=by
 unfold Z96 at hE;refine ACalls.oW 19 [.tmp 4] Tryz.call85 Tryz.func85 ?_;refine seqR (S As (nil ?_));refine seqJH KeepsT.nil (fun(z:Unit)=>[]) (fun z=>H) (fun z=>Z96_j2 =some r) ?_ ?_
 ·intro K2 hK2;refine seqR (S Mv ?_);refine sLen (f:=strE) (s:=a0) (TK rfl) rfl rfl rfl rfl fun hL5=>?_;refine S Mv (nil ?_);refine block ?_;refine loopH (TA 0 (TA 1 (TA 7 KeepsT.nil))) (fun(z:Nat×Nat)=>[(8,.a (.d (.int .i64 ((z.2:Nat):Int))))]) (fun z=>H) (fun z=>z.1) (fun z=>Z96_l6 a0 a1 z.1 z.2=some r) ((a0.l.length+1),0) hE Weak.toA ?_;rintro ⟨n6,s8_7⟩ hE K6 hK6;try dsimp only at hE
  cases n6 with
  | zero=>cases hE
  | succ n6 =>
    rw [Z96_l6] at hE;refine seqR (S BI (nil ?_));refine seqK fun K9 hK9=>?_;refine cE hE (fun hc10 hE=>?_) (fun hc10 hE=>?_)
    ·try dsimp only at hc10
     have hf10:=of_decide_eq_true hc10;refine sk hK9 ?_;clear hK9 K9;refine seqK fun K11 hK11=>?_;refine block ?_;refine seqR (S Mv (S As (nil ?_)));refine seqR (S Mv (S Mv (S Mv ?_)));obtain⟨x14,gx14,hE⟩:=bO hE;refine S (ix strE s8_7 gx14) (S Ld (S BS (nil ?_)));refine cE hE (fun hc15 hE=>?_) (fun hc15 hE=>?_)
     ·refine seqR (S Mv (S As (nil ?_)));exact rt hE
     refine sk hK11 ?_;clear hK11 K11;refine region ?_;refine SI ?_;refine S Mv (nil ?_);exact hK6 _ (n6,(s8_7+1)) Weak.toA hE (Nat.lt_succ_self _)
    refine AWp.exit ?_;exact hK2 _ () Weak.toA hE
 rintro _ hE;try dsimp only at hE
 unfold Z96_j2 at hE;refine seqR (S As (nil ?_));exact rt hE
def Z91 (a0:(Sl Bs)) (a1:Bs):Option Bool:=(Z96 a0 a1).bind fun x3=>some (decide ((0:Int)<=x3))
theorem Z91_walk {a0:Sl Bs}{a1:Bs}{w0:Option Nat}{r:Bool}(hE:Z91 a0 a1=some r) (H:Heap) :ACalls Tryz.prog 110 [.d (Sl.d 1 strE w0 a0),.d (.str a1)] H fun v h'=>v=.a (.d (.bool r))/\h'=H:=by
 unfold Z91 at hE;refine ACalls.oW 9 [.tmp 4] Tryz.call110 Tryz.func110 ?_;refine seqR (S As (nil ?_));refine seqR (S Mv (S Mv ?_));obtain⟨x3,gx3,hE⟩:=bO hE;refine Sc rfl rfl (Z96_walk gx3) ?_;refine S BI (S As (nil ?_));exact rt hE
def Z34 (a0:Z6) (a1:Z9):Option Bool:=(Z104 a0.FType).bind fun x3=>guardO ((x3&&(!a0.FHas))) (Z91 a1.FKeys a0.FName) false fun x4=>some ((x3&&(!a0.FHas))&&(!x4))
theorem Z34_walk {a0:Z6}{a1:Z9}{r:Bool}(hE:Z34 a0 a1=some r) (H:Heap) :ACalls Tryz.prog 109 [.agg (Z6.c a0),.d (.view (Z9.c a1))] H fun v h'=>v=.a (.d (.bool r))/\h'=H:=by
 unfold Z34 at hE;refine ACalls.oW 20 [.tmp 3] Tryz.call109 Tryz.func109 ?_;refine seqR (S BX (S As (nil ?_)));refine seqR (S Fv (S Ld ?_));obtain⟨x3,gx3,hE⟩:=bO hE;refine Sc rfl rfl (Z104_walk gx3) ?_;refine S Mv (G0 Fv ?_);refine G1 8 rfl Ld ?_;refine G1 9 rfl NB ?_;refine S PA (S Mv (G0 Fv ?_));refine G1 13 rfl Ld ?_;refine G0 Fv ?_;refine G1 15 rfl Ld ?_;obtain⟨x4,gx4,hE⟩:=gO hE;refine Gc2 14 16 rfl rfl rfl rfl rfl rfl (fun hC=>Z91_walk (gx4 hC)) ?_
 refine G1 17 rfl NB ?_;refine S PA (S As (nil ?_));exact rt hE
def Z33_j2 (a1:TDef) (a2:Z9)  :Option Bool:=(Z90 a1.FInputs (fun y0=>Z34 y0 a2)).bind fun x4=>some (!x4)
def Z33_l7 (a0:TDoc) (a1:TDef) (a2:Z9) (k_rec_98:TDoc->TRef->Z9->Option Bool):Nat->Nat->Option Bool
 | 0,_=>none
 | n7+1,s14_8=>bif (decide (((s14_8:Nat):Int)<((a2.FKeys.l.length:Nat):Int))) then((a2.FKeys.l[s14_8]?).bind fun x14=>(Z70 a1.FInputs x14).bind fun x16=>guardO (!((!x16.2)||(decide (((a2.FItems.l.length:Nat):Int)<=((s14_8:Nat):Int))))) (a2.FItems.l[s14_8]?) Z9.zero fun x18=>guardO (!((!x16.2)||(decide (((a2.FItems.l.length:Nat):Int)<=((s14_8:Nat):Int))))) (k_rec_98 a0 x16.1.FType x18) false fun x19=>bif (((!x16.2)||(decide (((a2.FItems.l.length:Nat):Int)<=((s14_8:Nat):Int))))||(!x19)) then(some false) else((Z33_l7 a0 a1 a2 k_rec_98 n7) (s14_8+1))) else(Z33_j2 a1 a2  )
mutual
def fields_fits_n:Nat->TDoc->TRef->Z9->Option Bool
 | 0,_,_,_=>none
 | n+1,a0,a1,a2=>bif (decide (a2.FKind=(7:Int))) then(some true) else((Z71 a0 a1.FName).bind fun x7=>bif (!x7) then(some false) else(bif (decide (a2.FKind=(0:Int))) then((Z104 a1).bind fun x13=>some (!x13)) else((Z102 a1).bind fun x16=>bif x16.2 then(bif (!decide (a2.FKind=(5:Int))) then(((fields_fits_n n) a0 x16.1 a2).bind fun x23=>some x23) else((Z87 a2.FItems (fun y0=>(fields_fits_1_n n) y0 a0 x16.1)).bind fun x25=>some (!x25))) else(bif ((a1.FName==([73,110,116]:Bs))) then(some (((decide (a2.FKind=(2:Int)))&&(decide ((-2147483648:Int)<=a2.FInt)))&&(decide (a2.FInt<(2147483648:Int))))) else(bif ((a1.FName==([83,116,114,105,110,103]:Bs))) then(some (decide (a2.FKind=(3:Int)))) else(bif ((a1.FName==([66,111,111,108,101,97,110]:Bs))) then(some (decide (a2.FKind=(1:Int)))) else(bif ((a1.FName==([73,68]:Bs))) then(some ((decide (a2.FKind=(3:Int)))||(decide (a2.FKind=(2:Int))))) else((Z69 a0 a1.FName).bind fun x41=>bif (decide (x41.1.FKind=(4:Int))) then(guardO ((decide (a2.FKind=(4:Int)))) (Z89 x41.1.FMembers (fun y0=>Z30 y0 a2)) false fun x46=>some ((decide (a2.FKind=(4:Int)))&&x46)) else(guardO ((decide (a2.FKind=(6:Int)))) ((Z33_n n) a0 x41.1 a2) false fun x48=>some ((decide (a2.FKind=(6:Int)))&&x48))))))))))
def fields_fits_1_n:Nat->Z9->TDoc->TRef->Option Bool
 | 0,_,_,_=>none
 | n+1,a0,a1,a2=>((fields_fits_n n) a1 a2 a0).bind fun x3=>some (!x3)
def Z33_n:Nat->TDoc->TDef->Z9->Option Bool
 | 0,_,_,_=>none
 | n+1,a0,a1,a2=>Z33_l7 a0 a1 a2 (fields_fits_n n) (a2.FKeys.l.length+1) 0
end
theorem fields_fits_step (n:Nat) (ih_98:∀{a0:TDoc}{a1:TRef}{a2:Z9}{r:Bool},fields_fits_n n a0 a1 a2=some r->∀(H:Heap),ACalls Tryz.prog 98 [.agg (TDoc.c a0),.agg (TRef.c a1),.agg (Z9.c a2)] H fun v h'=>v=.a (.d (.bool r))/\h'=H) (ih_103:∀{a0:Z9}{a1:TDoc}{a2:TRef}{r:Bool},fields_fits_1_n n a0 a1 a2=some r->∀(H:Heap),ACalls Tryz.prog 103 [.agg (Z9.c a0),.d (.view (TDoc.c a1)),.d (.view (TRef.c a2))] H fun v h'=>v=.a (.d (.bool r))/\h'=H) (ih_105:∀{a0:TDoc}{a1:TDef}{a2:Z9}{r:Bool},Z33_n n a0 a1 a2=some r->∀(H:Heap),ACalls Tryz.prog 105 [.agg (TDoc.c a0),.agg (TDef.c a1),.agg (Z9.c a2)] H fun v h'=>v=.a (.d (.bool r))/\h'=H):∀{a0:TDoc}{a1:TRef}{a2:Z9}{r:Bool},fields_fits_n (n+1) a0 a1 a2=some r->∀(H:Heap),ACalls Tryz.prog 98 [.agg (TDoc.c a0),.agg (TRef.c a1),.agg (Z9.c a2)] H fun v h'=>v=.a (.d (.bool r))/\h'=H:=by
 intro a0 a1 a2   r hE H ;rw [fields_fits_n] at hE;refine ACalls.oW 111 [.tmp 6] Tryz.call98 Tryz.func98 ?_;refine seqR (S BX (S BX (S BX (S As (nil ?_)))));refine seqK fun K2 hK2=>?_;refine block ?_;refine seqR (S Fv (S Ld (S BI (S As (nil ?_)))));refine cE hE (fun hc4 hE=>?_) (fun hc4 hE=>?_)
 ·refine seqR (S As (nil ?_));exact rt hE
 refine seqR (S Ld (S Fv (S Ld ?_)));obtain⟨x7,gx7,hE⟩:=bO hE;refine Sc rfl rfl (Z71_walk gx7) ?_;refine S NB (S As (nil ?_));refine cE hE (fun hc8 hE=>?_) (fun hc8 hE=>?_)
 ·refine seqR (S As (nil ?_));exact rt hE
 refine seqR (S Fv (S Ld (S BI (S As (nil ?_)))));refine cE hE (fun hc11 hE=>?_) (fun hc11 hE=>?_)
 ·refine seqR (S Ld ?_);obtain⟨x13,gx13,hE⟩:=bO hE;refine Sc rfl rfl (Z104_walk gx13) ?_;refine S NB (S As (nil ?_));exact rt hE
 refine sk hK2 ?_;clear hK2 K2;refine seqK fun K14 hK14=>?_;refine seqR (S Ld ?_);obtain⟨x16,gx16,hE⟩:=bO hE;refine Sc rfl rfl (Z102_walk gx16) ?_;refine S Mv (S EX (S EX ?_));refine Sl ?_;refine Sf ?_;refine S As (nil ?_);refine freezeA 7 _ rfl (KA 3 (KA 4 (KA 5 (KA 8 Keeps.nil)))) ?_;refine seqR (S Mv (nil ?_));refine cE hE (fun hc18 hE=>?_) (fun hc18 hE=>?_)
 ·refine seqK fun K19 hK19=>?_;refine seqR (S Fv (S Ld (S BI (nil ?_))));refine cE hE (fun hc21 hE=>?_) (fun hc21 hE=>?_)
  ·refine seqR (S Ld (S Ld (S Ld ?_)));obtain⟨x23,gx23,hE⟩:=bO hE;refine Sc rfl rfl (ih_98 gx23) ?_;refine S As (nil ?_);exact rt hE
  refine sk hK19 ?_;clear hK19 K19;refine seqR (S Fv ?_);refine s0 (loadV (TK rfl) rfl rfl (congrArg (fun x=>some (A.d x)) (Z9.FItemsD_eq _))) rfl ?_;refine s0 (makeFunc rfl) rfl ?_;obtain⟨x25,gx25,hE⟩:=bO hE;refine s0 (callP rfl rfl (fun H=>Z87_walk gx25 H (fun _ _ hx=>ih_103 hx))) rfl ?_;refine S NB (S As (nil ?_));exact rt hE
 refine sk hK14 ?_;clear hK14 K14;refine seqK fun K26 hK26=>?_;refine seqR (S Fv (S Ld (nil ?_)));refine block ?_;refine seqR (S BS (S As (nil ?_)));refine cE hE (fun hc29 hE=>?_) (fun hc29 hE=>?_)
 ·refine seqR (S Fv (S Ld (S BI (S Mv (G0 Fv ?_)))));refine G1 54 rfl Ld ?_;refine G1 55 rfl BI ?_;refine S PA (S Mv (G0 Fv ?_));refine G1 59 rfl Ld ?_;refine G1 60 rfl BI ?_;refine S PA (S As (nil ?_));exact rt hE
 refine seqR (S BS (S As (nil ?_)));refine cE hE (fun hc32 hE=>?_) (fun hc32 hE=>?_)
 ·refine seqR (S Fv (S Ld (S BI (S As (nil ?_)))));exact rt hE
 refine seqR (S BS (S As (nil ?_)));refine cE hE (fun hc35 hE=>?_) (fun hc35 hE=>?_)
 ·refine seqR (S Fv (S Ld (S BI (S As (nil ?_)))));exact rt hE
 refine seqR (S BS (S As (nil ?_)));refine cE hE (fun hc38 hE=>?_) (fun hc38 hE=>?_)
 ·refine seqR (S Fv (S Ld (S BI (S Mv (G0 Fv ?_)))));refine G1 79 rfl Ld ?_;refine G1 80 rfl BI ?_;refine S PO (S As (nil ?_));exact rt hE
 refine sk hK26 ?_;clear hK26 K26;refine seqR (S Ld (S Fv (S Ld ?_)));obtain⟨x41,gx41,hE⟩:=bO hE;refine Sc rfl rfl (Z69_walk gx41) ?_;refine S Mv (S EX (S EX ?_));refine Sl ?_;refine Sf ?_;refine S As (nil ?_);refine freezeA 9 _ rfl (KA 3 (KA 5 Keeps.nil)) ?_;refine seqK fun K42 hK42=>?_;refine seqR (S Fv (S Ld (S BI (nil ?_))));refine cE hE (fun hc44 hE=>?_) (fun hc44 hE=>?_)
 ·refine seqR (S Fv (S Ld (S BI (S Mv (G0 Fv ?_)))));refine G1 97 rfl Ld ?_;refine gC rfl rfl (fun hC=>makeFunc rfl) rfl ?_;obtain⟨x46,gx46,hE⟩:=gO hE;refine gC rfl rfl (fun hC=>ungdA (k:=98) rfl (ungdA (k:=99) rfl (callP rfl rfl (fun H=>Z89_walk (gx46 hC) H (fun _ _ hx=>Z30_walk hx))))) rfl ?_;refine S PA (S As (nil ?_));exact rt hE
 refine sk hK42 ?_;clear hK42 K42;refine seqR (S Fv (S Ld (S BI (S Mv (G0 Ld (G0 Ld (G0 Ld ?_)))))));obtain⟨x48,gx48,hE⟩:=gO hE;refine gC rfl rfl (fun hC=>ungdA (k:=106) rfl (ungdA (k:=107) rfl (ungdA (k:=108) rfl (callP rfl rfl (fun H=>ih_105 (gx48 hC) H))))) rfl ?_;refine S PA (S As (nil ?_));exact rt hE
theorem fields_fits_1_step (n:Nat) (ih_98:∀{a0:TDoc}{a1:TRef}{a2:Z9}{r:Bool},fields_fits_n n a0 a1 a2=some r->∀(H:Heap),ACalls Tryz.prog 98 [.agg (TDoc.c a0),.agg (TRef.c a1),.agg (Z9.c a2)] H fun v h'=>v=.a (.d (.bool r))/\h'=H) (ih_103:∀{a0:Z9}{a1:TDoc}{a2:TRef}{r:Bool},fields_fits_1_n n a0 a1 a2=some r->∀(H:Heap),ACalls Tryz.prog 103 [.agg (Z9.c a0),.d (.view (TDoc.c a1)),.d (.view (TRef.c a2))] H fun v h'=>v=.a (.d (.bool r))/\h'=H) (ih_105:∀{a0:TDoc}{a1:TDef}{a2:Z9}{r:Bool},Z33_n n a0 a1 a2=some r->∀(H:Heap),ACalls Tryz.prog 105 [.agg (TDoc.c a0),.agg (TDef.c a1),.agg (Z9.c a2)] H fun v h'=>v=.a (.d (.bool r))/\h'=H):∀{a0:Z9}{a1:TDoc}{a2:TRef}{r:Bool},fields_fits_1_n (n+1) a0 a1 a2=some r->∀(H:Heap),ACalls Tryz.prog 103 [.agg (Z9.c a0),.d (.view (TDoc.c a1)),.d (.view (TRef.c a2))] H fun v h'=>v=.a (.d (.bool r))/\h'=H:=by
 intro a0 a1 a2   r hE H ;rw [fields_fits_1_n] at hE;refine ACalls.oW 10 [.tmp 4] Tryz.call103 Tryz.func103 ?_;refine seqR (S BX (S As (nil ?_)));refine seqR (S Ld (S Ld (S Ld ?_)));obtain⟨x3,gx3,hE⟩:=bO hE;refine Sc rfl rfl (ih_98 gx3) ?_;refine S NB (S As (nil ?_));exact rt hE
theorem Z33_step (n:Nat) (ih_98:∀{a0:TDoc}{a1:TRef}{a2:Z9}{r:Bool},fields_fits_n n a0 a1 a2=some r->∀(H:Heap),ACalls Tryz.prog 98 [.agg (TDoc.c a0),.agg (TRef.c a1),.agg (Z9.c a2)] H fun v h'=>v=.a (.d (.bool r))/\h'=H) (ih_103:∀{a0:Z9}{a1:TDoc}{a2:TRef}{r:Bool},fields_fits_1_n n a0 a1 a2=some r->∀(H:Heap),ACalls Tryz.prog 103 [.agg (Z9.c a0),.d (.view (TDoc.c a1)),.d (.view (TRef.c a2))] H fun v h'=>v=.a (.d (.bool r))/\h'=H) (ih_105:∀{a0:TDoc}{a1:TDef}{a2:Z9}{r:Bool},Z33_n n a0 a1 a2=some r->∀(H:Heap),ACalls Tryz.prog 105 [.agg (TDoc.c a0),.agg (TDef.c a1),.agg (Z9.c a2)] H fun v h'=>v=.a (.d (.bool r))/\h'=H):∀{a0:TDoc}{a1:TDef}{a2:Z9}{r:Bool},Z33_n (n+1) a0 a1 a2=some r->∀(H:Heap),ACalls Tryz.prog 105 [.agg (TDoc.c a0),.agg (TDef.c a1),.agg (Z9.c a2)] H fun v h'=>v=.a (.d (.bool r))/\h'=H:=by
 intro a0 a1 a2   r hE H ;rw [Z33_n] at hE;refine ACalls.oW 53 [.tmp 6] Tryz.call105 Tryz.func105 ?_;refine seqR (S BX (S BX (S BX (S As (nil ?_)))));refine seqJH (TA 4 (TA 5 KeepsT.nil)) (fun(z:Unit)=>[]) (fun z=>H) (fun z=>Z33_j2 a1 a2 =some r) ?_ ?_
 ·intro K2 hK2;refine seqR (S Fv (S Ld ?_));refine sLen (f:=strE) (s:=a2.FKeys) (TK rfl) rfl rfl rfl rfl fun hL6=>?_;refine S Mv (nil ?_);refine block ?_;refine loopH (TA 3 (TA 4 (TA 5 (TA 12 (TA 13 KeepsT.nil))))) (fun(z:Nat×Nat)=>[(14,.a (.d (.int .i64 ((z.2:Nat):Int))))]) (fun z=>H) (fun z=>z.1) (fun z=>Z33_l7 a0 a1 a2 (fields_fits_n n) z.1 z.2=some r) ((a2.FKeys.l.length+1),0) hE Weak.toA ?_;rintro ⟨n7,s14_8⟩ hE K7 hK7
  try dsimp only at hE
  cases n7 with
  | zero=>cases hE
  | succ n7 =>
    rw [Z33_l7] at hE;refine seqR (S BI (nil ?_));refine seqK fun K10 hK10=>?_;refine cE hE (fun hc11 hE=>?_) (fun hc11 hE=>?_)
    ·try dsimp only at hc11
     have hf11:=of_decide_eq_true hc11;refine sk hK10 ?_;clear hK10 K10;refine seqK fun K12 hK12=>?_;refine block ?_;refine seqR (S Mv ?_);obtain⟨x14,gx14,hE⟩:=bO hE;refine S (ix strE s14_8 gx14) (S Ld (S As (S As (nil ?_))));refine seqR (S Fv (S Ld (S Mv ?_)));obtain⟨x16,gx16,hE⟩:=bO hE;refine Sc rfl rfl (Z70_walk gx16) ?_;refine S Mv (S EX (S EX ?_));refine Sl ?_;refine Sf ?_;refine S As (nil ?_)
     refine freezeA 9 _ rfl (KA 3 (KA 4 (KA 5 (KA 7 (KA 10 (KA 12 (KA 13 (KA 14 Keeps.nil)))))))) ?_;refine AWp.seqD (Sd Mv (Sd NB (Sd Mv (G0d Mv (G0d Fv ?_)))));refine DOps.gC rfl rfl (fun hC=>ungdA (k:=30) rfl (loadV (TK rfl) rfl rfl (congrArg (fun x=>some (A.d x)) (Z9.FItemsD_eq _)))) rfl ?_;refine DOps.gC rfl rfl (fun hC=>ungdA (k:=31) rfl (lenM' (f:=Z9.c) (s:=a2.FItems) (TK rfl) rfl rfl rfl)) rfl ?_
     refine G2d 29 32 rfl rfl BI ?_;refine Sd PO (Sd Mv (G0d Ld (G0d Fv ?_)));refine G1d 37 rfl Ld ?_;refine G0d Fv ?_;refine DOps.gC rfl rfl (fun hC=>ungdA (k:=39) rfl (loadV (TK rfl) rfl rfl (congrArg (fun x=>some (A.d x)) (Z9.FItemsD_eq _)))) rfl ?_;refine G0d Mv ?_;obtain⟨x18,gx18,hE⟩:=gO hE;refine DOps.gC rfl rfl (fun hC=>ungdA (k:=40) rfl (ungdA (k:=41) rfl (idxMn (f:=Z9.c) (n:=s14_8) (TK rfl) rfl (TK rfl) rfl rfl rfl (gx18 hC)))) rfl ?_
     refine G1d 42 rfl Ld ?_;obtain⟨x19,gx19,hE⟩:=gO hE;refine DOps.gC rfl rfl (fun hC=>ungdA (k:=36) rfl (ungdA (k:=38) rfl (ungdA (k:=43) rfl (callP rfl rfl (fun H=>ih_98 (gx19 hC) H))))) rfl ?_;refine G1d 44 rfl NB ?_;refine Sd PO ?_;refine DOps.nil (by decide +kernel) ?_;refine cE hE (fun hc20 hE=>?_) (fun hc20 hE=>?_)
     ·refine seqR (S As (nil ?_));exact rt hE
     refine sk hK12 ?_;clear hK12 K12;refine region ?_;refine SI ?_;refine S Mv (nil ?_);exact hK7 _ (n7,(s14_8+1)) Weak.toA hE (Nat.lt_succ_self _)
    refine AWp.exit ?_;exact hK2 _ () Weak.toA hE
 rintro _ hE;try dsimp only at hE
 unfold Z33_j2 at hE;refine seqR (S Fv (S Ld ?_));refine s0 (makeFunc rfl) rfl ?_;obtain⟨x4,gx4,hE⟩:=bO hE;refine s0 (callP rfl rfl (fun H=>Z90_walk gx4 H (fun _ _ hx=>Z34_walk hx))) rfl ?_;refine S NB (S As (nil ?_));exact rt hE
theorem fields_fits_all:∀(n:Nat),(∀{a0:TDoc}{a1:TRef}{a2:Z9}{r:Bool},fields_fits_n n a0 a1 a2=some r->∀(H:Heap),ACalls Tryz.prog 98 [.agg (TDoc.c a0),.agg (TRef.c a1),.agg (Z9.c a2)] H fun v h'=>v=.a (.d (.bool r))/\h'=H)/\(∀{a0:Z9}{a1:TDoc}{a2:TRef}{r:Bool},fields_fits_1_n n a0 a1 a2=some r->∀(H:Heap),ACalls Tryz.prog 103 [.agg (Z9.c a0),.d (.view (TDoc.c a1)),.d (.view (TRef.c a2))] H fun v h'=>v=.a (.d (.bool r))/\h'=H)/\(∀{a0:TDoc}{a1:TDef}{a2:Z9}{r:Bool},Z33_n n a0 a1 a2=some r->∀(H:Heap),ACalls Tryz.prog 105 [.agg (TDoc.c a0),.agg (TDef.c a1),.agg (Z9.c a2)] H fun v h'=>v=.a (.d (.bool r))/\h'=H)
 | 0=>⟨fun hE=>by first|cases hE|(rw [fields_fits_n] at hE; cases hE),fun hE=>by first|cases hE|(rw [fields_fits_1_n] at hE; cases hE),fun hE=>by first|cases hE|(rw [Z33_n] at hE; cases hE)⟩
 | n+1=>⟨fields_fits_step n (fields_fits_all n).1 (fields_fits_all n).2.1 (fields_fits_all n).2.2,fields_fits_1_step n (fields_fits_all n).1 (fields_fits_all n).2.1 (fields_fits_all n).2.2,Z33_step n (fields_fits_all n).1 (fields_fits_all n).2.1 (fields_fits_all n).2.2⟩
def fields_fits (a0:TDoc) (a1:TRef) (a2:Z9):Option Bool:=fields_fits_n F0 a0 a1 a2
theorem fields_fits_walk {a0:TDoc}{a1:TRef}{a2:Z9}{r:Bool}(hE:fields_fits a0 a1 a2=some r) (H:Heap) :ACalls Tryz.prog 98 [.agg (TDoc.c a0),.agg (TRef.c a1),.agg (Z9.c a2)] H fun v h'=>v=.a (.d (.bool r))/\h'=H:=(fields_fits_all F0).1 hE H 
end Go.Proofs

namespace Go.Proofs
open Go Go.Ab
open AOps Cert AWp Keeps KeepsT
variable {lou:Lou}
def Z28_j9 (s20_4:Nat) (k_next_3:Nat->Z1->Option Z1) (y10_c0:Z1):Option Z1:=k_next_3 (s20_4+1) y10_c0
def Z28_l3 (a1:(Sl Z6)) (a2:(Sl TArg)) (a3:Bool) (a4:Bs) :Nat->Nat->Z1->Option Z1
 | 0,_,_=>none
 | n3+1,s20_4,y5_c0=>bif (decide (((s20_4:Nat):Int)<((a2.l.length:Nat):Int))) then((a2.l[s20_4]?).bind fun x12=>(Z70 a1 x12.FName).bind fun x14=>(partC a2 none (some ((s20_4:Nat):Int))).bind fun x16=>(Z31 x16 x12.FName).bind fun x17=>bif ((!x14.2)||x17.2) then((Z24 y5_c0 true (22:Int) a4).bind fun x22=>Z28_j9 s20_4 ((Z28_l3 a1 a2 a3 a4 n3)) x22) else((fields_fits y5_c0.Fd x14.1.FType x12.FValue).bind fun x23=>(Z24 y5_c0 ((!x23)||(a3&&(((decide (x12.FValue.FKind=(7:Int)))||((decide (x12.FValue.FKind=(3:Int)))&&((x12.FValue.FText==([]:Bs)))))||((decide (x12.FValue.FKind=(2:Int)))&&(decide (x12.FValue.FInt<(0:Int))))))) (23:Int) a4).bind fun x24=>Z28_j9 s20_4 ((Z28_l3 a1 a2 a3 a4 n3)) x24)) else(some y5_c0)
def Z28 (a0:Z1) (a1:(Sl Z6)) (a2:(Sl TArg)) (a3:Bool) (a4:Bs):Option Z1:=Z28_l3 a1 a2 a3 a4 (a2.l.length+1) 0 a0
theorem Z28_walk {a0:Z1}{a1:Sl Z6}{a2:Sl TArg}{a3:Bool}{a4:Bs}{w1 w2:Option Nat}{c0 c0_2:Nat}{r:Z1}(hE:Z28 a0 a1 a2 a3 a4=some r) (H:Heap) (hc0:H c0=some (.cells (Z1.cg (some c0_2) a0))) (ht0_2:H c0_2=some (.tok 2 a0.Fout.l.length)):ACalls Tryz.prog 83 [.d (.ptr c0 0),.d (Sl.d 10 Z6.c w1 a1),.d (Sl.d 6 TArg.c w2 a2),.d (.bool a3),.d (.str a4)] H fun v h'=>v=.tup []/\h'=((H.set c0_2 (some (.tok 2 r.Fout.l.length))).set c0 (some (.cells (Z1.cg (some c0_2) r)))):=by
 unfold Z28 at hE;refine ACalls.oW 94 [] Tryz.call83 Tryz.func83 ?_;have ne_c0_c0_2:c0≠c0_2:=fun e_=>by subst e_; simp_all
 refine AWp.heqA (h':=((H.set c0_2 (some (.tok 2 a0.Fout.l.length))).set c0 (some (.cells (Z1.cg (some c0_2) a0))))) (by funext n_; simp only [Heap.set]; (repeat' split)<;>simp_all) ?_;refine seqR (S Mv ?_);refine sLen (f:=TArg.c) (s:=a2) (TK rfl) rfl rfl rfl rfl fun hL2=>?_;refine S Mv (nil ?_);refine block ?_;refine loopH (TA 0 (TA 1 (TA 2 (TA 3 (TA 4 (TA 18 (TA 19 KeepsT.nil))))))) (fun(z:Nat×Nat×Z1)=>[(20,.a (.d (.int .i64 ((z.2.1:Nat):Int))))]) (fun z=>((H.set c0_2 (some (.tok 2 z.2.2.Fout.l.length))).set c0 (some (.cells (Z1.cg (some c0_2) z.2.2))))) (fun z=>z.1) (fun z=>Z28_l3 a1 a2 a3 a4 z.1 z.2.1 z.2.2=some r) ((a2.l.length+1),0,a0) hE Weak.toA ?_
 rintro ⟨n3,s20_4,y5_c0⟩ hE K3 hK3;try dsimp only at hE
 cases n3 with
 | zero=>cases hE
 | succ n3 =>
   rw [Z28_l3] at hE;refine seqR (S BI (nil ?_));refine seqK fun K7 hK7=>?_;refine cE hE (fun hc8 hE=>?_) (fun hc8 hE=>?_)
   ·try dsimp only at hc8
    have hf8:=of_decide_eq_true hc8;refine sk hK7 ?_;clear hK7 K7;refine seqJH (TA 0 (TA 1 (TA 2 (TA 3 (TA 4 (TA 18 (TA 19 (TA 20 KeepsT.nil)))))))) (fun(z:Z1)=>[]) (fun z=>((H.set c0_2 (some (.tok 2 z.Fout.l.length))).set c0 (some (.cells (Z1.cg (some c0_2) z))))) (fun z=>Z28_j9 s20_4 ((Z28_l3 a1 a2 a3 a4 n3)) z=some r) ?_ ?_
    ·intro K9 hK9;refine block ?_;refine seqR (S Mv ?_);obtain⟨x12,gx12,hE⟩:=bO hE;refine S (ix TArg.c s20_4 gx12) (S Ld ?_);refine Sl ?_;refine S As ?_;refine Sf ?_;refine nil ?_;refine freezeA 11 _ rfl (KA 0 (KA 1 (KA 2 (KA 3 (KA 4 (KA 10 (KA 18 (KA 19 (KA 20 Keeps.nil))))))))) ?_;refine seqR (S Mv (S Fv (S Ld ?_)));obtain⟨x14,gx14,hE⟩:=bO hE;refine Sc rfl rfl (Z70_walk gx14) ?_;refine S Mv (S EX (S EX ?_))
     refine Sl ?_;refine Sf ?_;refine S As (nil ?_);refine freezeA 12 _ rfl (KA 0 (KA 1 (KA 2 (KA 3 (KA 4 (KA 10 (KA 11 (KA 13 (KA 18 (KA 19 (KA 20 Keeps.nil))))))))))) ?_;refine AWp.seqD (Sd Mv (Sd Mv ?_));obtain⟨x16,gx16,hE⟩:=bO hE;refine DOps.s0 (partM (f:=TArg.c) (l:=none) (r:=(some ((s20_4:Nat):Int))) (TK rfl) rfl (TK rfl) rfl rfl trivial rfl gx16) rfl ?_;refine Sd Fv (Sd Ld ?_);obtain⟨x17,gx17,hE⟩:=bO hE
     refine Scd rfl rfl (Z31_walk gx17) ?_;refine Sd Mv (Sd EX (Sd EX ?_));refine DOps.sB (TK rfl) rfl rfl ?_ (by repeat (first|exact Snoc.nil|apply Snoc.cons));refine DOps.sLn (storeLFA (TK rfl) rfl rfl rfl rfl rfl) ?_;refine Sd As ?_;refine DOps.nil (by decide +kernel) ?_;refine freezeA 14 _ rfl (KA 0 (KA 1 (KA 2 (KA 3 (KA 4 (KA 11 (KA 12 (KA 13 (KA 15 (KA 18 (KA 19 (KA 20 Keeps.nil)))))))))))) ?_
     refine seqR (S Fv (S Ld ?_));refine Sl ?_;refine Sf ?_;refine nil ?_;refine freezeA 16 _ rfl (KA 0 (KA 1 (KA 2 (KA 3 (KA 4 (KA 12 (KA 13 (KA 15 (KA 18 (KA 19 (KA 20 Keeps.nil))))))))))) ?_;refine seqR (S Fv (S Ld (S BI (S Mv (G0 Fv ?_)))));refine G1 47 rfl Ld ?_;refine G1 48 rfl BI ?_;refine G1 49 rfl Mv ?_;refine G0 Fv ?_;refine G1 51 rfl Ld ?_;refine G1 52 rfl BS ?_;refine gC rfl rfl (fun hC=>ungdA (k:=50) rfl (pickAndA rfl rfl rfl)) rfl ?_
     refine S PO (S Mv (G0 Fv ?_));refine G1 57 rfl Ld ?_;refine G1 58 rfl BI ?_;refine G1 59 rfl Mv ?_;refine G0 Fv ?_;refine G1 61 rfl Ld ?_;refine G1 62 rfl BI ?_;refine gC rfl rfl (fun hC=>ungdA (k:=60) rfl (pickAndA rfl rfl rfl)) rfl ?_;refine S PO (S As (nil ?_));refine block ?_;refine seqR (S Mv (S NB (S Mv (G0 Mv (S PO (S As (nil ?_)))))));refine cE hE (fun hc21 hE=>?_) (fun hc21 hE=>?_)
     ·refine region ?_;refine S Mv (S Mv ?_);obtain⟨x22,gx22,hE⟩:=bO hE;refine sH (callH rfl rfl (Z24_walk gx22 _ hpG hpG)) rfl ?_;refine hq ((H.set c0_2 (some (.tok 2 x22.Fout.l.length))).set c0 (some (.cells (Z1.cg (some c0_2) x22)))) ?_;refine nil ?_;exact hK9 _ x22 Weak.toA hE
     refine AWp.draw rfl ?_;refine Sd Mv (Sd Mv (Sd NP ?_));refine DOps.s0 (fieldP (TK rfl) rfl rfl (TK rfl) rfl rfl) rfl ?_;refine DOps.s0 (loadP (TK rfl) rfl rfl hpG rfl) rfl ?_;refine Sd Fv (Sd Ld (Sd Ld ?_));obtain⟨x23,gx23,hE⟩:=bO hE;refine Scd rfl rfl (fields_fits_walk gx23) ?_;refine Sd NB (Sd Mv (G0d Mv ?_));refine G1d 77 rfl Mv ?_;refine G0d Mv ?_;refine DOps.gC rfl rfl (fun hC=>ungdA (k:=78) rfl (pickAndA rfl rfl rfl)) rfl ?_
     refine Sd PO (Sd Mv ?_);obtain⟨x24,gx24,hE⟩:=bO hE;refine DOps.sH (callH rfl rfl (Z24_walk gx24 _ hpG hpG)) rfl ?_;refine DOps.Dh ((H.set c0_2 (some (.tok 2 x24.Fout.l.length))).set c0 (some (.cells (Z1.cg (some c0_2) x24)))) ?_;refine DOps.nil (by decide +kernel) ?_;exact hK9 _ x24 Weak.toA hE
    rintro y10_c0 hE;try dsimp only at hE
    unfold Z28_j9 at hE;refine region ?_;refine SI ?_;refine S Mv (nil ?_);exact hK3 _ (n3,(s20_4+1),y10_c0) Weak.toA hE (Nat.lt_succ_self _)
   refine AWp.exit ?_;repeat (first|refine xBlock_normal ?_|refine xThen_exit ?_|refine xBlock_exit ?_)
   obtain rfl:=Option.some.inj hE;refine retQ.normalF ((H.set c0_2 (some (.tok 2 y5_c0.Fout.l.length))).set c0 (some (.cells (Z1.cg (some c0_2) y5_c0)))) (xs:=[]) rfl ⟨rfl,rfl⟩ ?_;exact(fun _ _ h=>h)
def Z25_j10 (s21_5:Nat) (k_next_4:Nat->Z1->Option Z1) (y11_c0:Z1):Option Z1:=k_next_4 (s21_5+1) y11_c0
def Z25_l30 (a4:Bs) (s21_5:Nat) (x13:TDir) (s13_18:(Sl Z6)) (k_next_4:Nat->Z1->Option Z1):Nat->Nat->Z1->Option Z1
 | 0,_,_=>none
 | n30+1,s78_31,y32_c0=>bif (decide (((s78_31:Nat):Int)<((s13_18.l.length:Nat):Int))) then((s13_18.l[s78_31]?).bind fun x38=>(Z31 x13.FArgs x38.FName).bind fun x40=>(Z24 y32_c0 (!x40.2) (22:Int) a4).bind fun x41=>(Z25_l30 a4 s21_5 x13 s13_18 k_next_4 n30) (s78_31+1) x41) else(Z25_j10 s21_5 k_next_4 y32_c0)
def Z25_j17 (a1:TSel) (a4:Bs) (s21_5:Nat) (y6_c0:Z1) (x13:TDir) (k_next_4:Nat->Z1->Option Z1) (s13_18:(Sl Z6)):Option Z1:=guardO (!s13_18.nl) (partC a1.FDirs none (some ((s21_5:Nat):Int))) (Sl.nil:Sl TDir) fun x21=>guardO (!s13_18.nl) (Z88 x21 (fun y0=>Z26 y0 x13)) false fun x22=>bif (s13_18.nl||x22) then((Z24 y6_c0 true (29:Int) a4).bind fun x25=>Z25_j10 s21_5 k_next_4 x25) else((Z28 y6_c0 s13_18 x13.FArgs (((x13.FName==([100,101,102,101,114]:Bs)))||((x13.FName==([115,116,114,101,97,109]:Bs)))) a4).bind fun x27=>Z25_l30 a4 s21_5 x13 s13_18 k_next_4 (s13_18.l.length+1) 0 x27)
def Z25_l4 (a1:TSel) (a2:TRef) (a3:Bool) (a4:Bs) :Nat->Nat->Z1->Option Z1
 | 0,_,_=>none
 | n4+1,s21_5,y6_c0=>bif (decide (((s21_5:Nat):Int)<((a1.FDirs.l.length:Nat):Int))) then((a1.FDirs.l[s21_5]?).bind fun x13=>(Z23 x13.FName ((!decide (a1.FKind=(2:Int)))&&(!decide (a1.FKind=(3:Int))))).bind fun x16=>guardO ((((x13.FName==([115,116,114,101,97,109]:Bs)))&&a3)) (Z103 a2) false fun x43=>bif ((((x13.FName==([115,116,114,101,97,109]:Bs)))&&a3)&&(!x43)) then(Z25_j17 a1 a4 s21_5 y6_c0 x13 ((Z25_l4 a1 a2 a3 a4 n4)) (Sl.nil:Sl Z6)) else(Z25_j17 a1 a4 s21_5 y6_c0 x13 ((Z25_l4 a1 a2 a3 a4 n4)) x16)) else(some y6_c0)
def Z25 (a0:Z1) (a1:TSel) (a2:TRef) (a3:Bool) (a4:Bs):Option Z1:=Z25_l4 a1 a2 a3 a4 (a1.FDirs.l.length+1) 0 a0
theorem Z25_walk {a0:Z1}{a1:TSel}{a2:TRef}{a3:Bool}{a4:Bs}{c0 c0_2:Nat}{r:Z1}(hE:Z25 a0 a1 a2 a3 a4=some r) (H:Heap) (hc0:H c0=some (.cells (Z1.cg (some c0_2) a0))) (ht0_2:H c0_2=some (.tok 2 a0.Fout.l.length)):ACalls Tryz.prog 61 [.d (.ptr c0 0),.agg (TSel.c a1),.agg (TRef.c a2),.d (.bool a3),.d (.str a4)] H fun v h'=>v=.tup []/\h'=((H.set c0_2 (some (.tok 2 r.Fout.l.length))).set c0 (some (.cells (Z1.cg (some c0_2) r)))):=by
 unfold Z25 at hE;refine ACalls.oW 97 [] Tryz.call61 Tryz.func61 ?_;have ne_c0_c0_2:c0≠c0_2:=fun e_=>by subst e_; simp_all
 refine AWp.heqA (h':=((H.set c0_2 (some (.tok 2 a0.Fout.l.length))).set c0 (some (.cells (Z1.cg (some c0_2) a0))))) (by funext n_; simp only [Heap.set]; (repeat' split)<;>simp_all) ?_;refine seqR (S BX (S BX (nil ?_)));refine seqR (S Fv (S Ld ?_));refine sLen (f:=TDir.c) (s:=a1.FDirs) (TK rfl) rfl rfl rfl rfl fun hL3=>?_;refine S Mv (nil ?_);refine block ?_;refine loopH (TA 0 (TA 3 (TA 4 (TA 6 (TA 7 (TA 19 (TA 20 KeepsT.nil))))))) (fun(z:Nat×Nat×Z1)=>[(21,.a (.d (.int .i64 ((z.2.1:Nat):Int))))]) (fun z=>((H.set c0_2 (some (.tok 2 z.2.2.Fout.l.length))).set c0 (some (.cells (Z1.cg (some c0_2) z.2.2))))) (fun z=>z.1) (fun z=>Z25_l4 a1 a2 a3 a4 z.1 z.2.1 z.2.2=some r) ((a1.FDirs.l.length+1),0,a0) hE Weak.toA ?_
 rintro ⟨n4,s21_5,y6_c0⟩ hE K4 hK4;try dsimp only at hE
 cases n4 with
 | zero=>cases hE
 | succ n4 =>
   rw [Z25_l4] at hE;refine seqR (S BI (nil ?_));refine seqK fun K8 hK8=>?_;refine cE hE (fun hc9 hE=>?_) (fun hc9 hE=>?_)
   ·try dsimp only at hc9
    have hf9:=of_decide_eq_true hc9;refine sk hK8 ?_;clear hK8 K8;refine seqJH (TA 0 (TA 3 (TA 4 (TA 6 (TA 7 (TA 19 (TA 20 (TA 21 KeepsT.nil)))))))) (fun(z:Z1)=>[]) (fun z=>((H.set c0_2 (some (.tok 2 z.Fout.l.length))).set c0 (some (.cells (Z1.cg (some c0_2) z))))) (fun z=>Z25_j10 s21_5 ((Z25_l4 a1 a2 a3 a4 n4)) z=some r) ?_ ?_
    ·intro K10 hK10;refine block ?_;refine seqR (S Mv ?_);obtain⟨x13,gx13,hE⟩:=bO hE;refine S (ix TDir.c s21_5 gx13) (S Ld ?_);refine Sl ?_;refine S As ?_;refine Sf ?_;refine nil ?_;refine freezeA 11 _ rfl (KA 0 (KA 3 (KA 4 (KA 6 (KA 7 (KA 10 (KA 19 (KA 20 (KA 21 Keeps.nil))))))))) ?_;refine seqR (S Fv (S Ld (S BI (S Mv (G0 Fv ?_)))));refine G1 30 rfl Ld ?_;refine G1 31 rfl BI ?_;refine S PA (S As (nil ?_))
     refine seqR (S Fv (S Ld (S Mv ?_)));obtain⟨x16,gx16,hE⟩:=bO hE;refine Sc rfl rfl (Z23_walk gx16) ?_;refine S As (nil ?_);refine seqJH (TA 0 (TA 3 (TA 4 (TA 6 (TA 7 (TA 10 (TA 11 (TA 19 (TA 20 (TA 21 KeepsT.nil)))))))))) (fun(z:(Sl Z6))=>[(13,.a (.d (Sl.d 10 Z6.c none z)))]) (fun z=>((H.set c0_2 (some (.tok 2 y6_c0.Fout.l.length))).set c0 (some (.cells (Z1.cg (some c0_2) y6_c0))))) (fun z=>Z25_j17 a1 a4 s21_5 y6_c0 x13 ((Z25_l4 a1 a2 a3 a4 n4)) z=some r) ?_ ?_
     ·intro K17 hK17;refine seqR (S Fv (S Ld (S BS (S Mv (G0 Mv (S PA (S Mv (G0 Ld ?_))))))));obtain⟨x43,gx43,hE⟩:=gO hE;refine Gc1 45 rfl rfl rfl rfl rfl (fun hC=>Z103_walk (gx43 hC)) ?_;refine G1 46 rfl NB ?_;refine S PA (nil ?_);refine cE hE (fun hc44 hE=>?_) (fun hc44 hE=>?_)
      ·refine region ?_;refine s0 (assignNil (k':=10) rfl) rfl ?_;refine nil ?_;exact hK17 _ (Sl.nil:Sl Z6) Weak.toA hE
      refine AWp.skip ?_;exact hK17 _ x16 Weak.toA hE
     rintro s13_18 hE;try dsimp only at hE
     unfold Z25_j17 at hE;refine seqK fun K19 hK19=>?_;refine seqR (S Mv ?_);refine s0 (eqNil (TK rfl) rfl rfl) rfl ?_;refine S Mv (G0 Fv ?_);refine G1 52 rfl Ld ?_;refine G0 Mv ?_;obtain⟨x21,gx21,hE⟩:=gO hE;refine gC rfl rfl (fun hC=>ungdA (k:=53) rfl (ungdA (k:=54) rfl (partM (f:=TDir.c) (l:=none) (r:=(some ((s21_5:Nat):Int))) (TK rfl) rfl (TK rfl) rfl rfl trivial rfl (gx21 hC)))) rfl ?_;refine gC rfl rfl (fun hC=>makeFunc rfl) rfl ?_
     obtain⟨x22,gx22,hE⟩:=gO hE;refine gC rfl rfl (fun hC=>ungdA (k:=55) rfl (ungdA (k:=56) rfl (callP rfl rfl (fun H=>Z88_walk (gx22 hC) H (fun _ _ hx=>Z26_walk hx))))) rfl ?_;refine S PO (nil ?_);refine cE hE (fun hc23 hE=>?_) (fun hc23 hE=>?_)
     ·refine seqR (S Mv (S Mv ?_));obtain⟨x25,gx25,hE⟩:=bO hE;refine sH (callH rfl rfl (Z24_walk gx25 _ hpG hpG)) rfl ?_;refine hq ((H.set c0_2 (some (.tok 2 x25.Fout.l.length))).set c0 (some (.cells (Z1.cg (some c0_2) x25)))) ?_;refine nil ?_;refine AWp.exit ?_;exact hK10 _ x25 Weak.toA hE
     refine sk hK19 ?_;clear hK19 K19;refine seqR (S Mv (S Mv (S Fv (S Ld (S Fv (S Ld (S BS (S Mv (G0 Fv ?_)))))))));refine G1 70 rfl Ld ?_;refine G1 71 rfl BS ?_;refine S PO (S Mv ?_);obtain⟨x27,gx27,hE⟩:=bO hE;refine sH (callH rfl rfl (Z28_walk gx27 _ hpG hpG)) rfl ?_;refine hq ((H.set c0_2 (some (.tok 2 x27.Fout.l.length))).set c0 (some (.cells (Z1.cg (some c0_2) x27)))) ?_;refine nil ?_;refine seqR (S Mv ?_)
     refine sLen (f:=Z6.c) (s:=s13_18) (TK rfl) rfl rfl rfl rfl fun hL29=>?_;refine S Mv (nil ?_);refine block ?_;refine loopH (TA 0 (TA 3 (TA 4 (TA 6 (TA 7 (TA 11 (TA 19 (TA 20 (TA 21 (TA 76 (TA 77 KeepsT.nil))))))))))) (fun(z:Nat×Nat×Z1)=>[(78,.a (.d (.int .i64 ((z.2.1:Nat):Int))))]) (fun z=>((H.set c0_2 (some (.tok 2 z.2.2.Fout.l.length))).set c0 (some (.cells (Z1.cg (some c0_2) z.2.2))))) (fun z=>z.1) (fun z=>Z25_l30 a4 s21_5 x13 s13_18 ((Z25_l4 a1 a2 a3 a4 n4)) z.1 z.2.1 z.2.2=some r) ((s13_18.l.length+1),0,x27) hE Weak.toA ?_
     rintro ⟨n30,s78_31,y32_c0⟩ hE K30 hK30;try dsimp only at hE
     cases n30 with
     | zero=>cases hE
     | succ n30 =>
       rw [Z25_l30] at hE;refine seqR (S BI (nil ?_));refine seqK fun K34 hK34=>?_;refine cE hE (fun hc35 hE=>?_) (fun hc35 hE=>?_)
       ·try dsimp only at hc35
        have hf35:=of_decide_eq_true hc35;refine sk hK34 ?_;clear hK34 K34;refine seqK fun K36 hK36=>?_;refine block ?_;refine seqR ?_;obtain⟨x38,gx38,hE⟩:=bO hE;refine S (ix Z6.c s78_31 gx38) (S Ld ?_);refine Sl ?_;refine Sf ?_;refine nil ?_;refine freezeA 15 _ rfl (KA 0 (KA 3 (KA 4 (KA 6 (KA 7 (KA 11 (KA 19 (KA 20 (KA 21 (KA 76 (KA 77 (KA 78 Keeps.nil)))))))))))) ?_;refine seqR (S Fv (S Ld (S Fv (S Ld ?_))))
        obtain⟨x40,gx40,hE⟩:=bO hE;refine Sc rfl rfl (Z31_walk gx40) ?_;refine S Mv (S EX (S EX ?_));refine Sl ?_;refine Sf ?_;refine S As (nil ?_);refine freezeA 16 _ rfl (KA 0 (KA 3 (KA 4 (KA 6 (KA 7 (KA 11 (KA 17 (KA 19 (KA 20 (KA 21 (KA 76 (KA 77 (KA 78 Keeps.nil))))))))))))) ?_;refine region ?_;refine S Mv (S Mv (S NB (S Mv ?_)));obtain⟨x41,gx41,hE⟩:=bO hE;refine sH (callH rfl rfl (Z24_walk gx41 _ hpG hpG)) rfl ?_
        refine hq ((H.set c0_2 (some (.tok 2 x41.Fout.l.length))).set c0 (some (.cells (Z1.cg (some c0_2) x41)))) ?_;refine nil ?_;refine hK36 _ ?_;clear hK36 K36;refine region ?_;refine SI ?_;refine S Mv (nil ?_);exact hK30 _ (n30,(s78_31+1),x41) Weak.toA hE (Nat.lt_succ_self _)
       refine AWp.exit ?_;exact hK10 _ y32_c0 Weak.toA hE
    rintro y11_c0 hE;try dsimp only at hE
    unfold Z25_j10 at hE;refine region ?_;refine SI ?_;refine S Mv (nil ?_);exact hK4 _ (n4,(s21_5+1),y11_c0) Weak.toA hE (Nat.lt_succ_self _)
   refine AWp.exit ?_;repeat (first|refine xBlock_normal ?_|refine xThen_exit ?_|refine xBlock_exit ?_)
   obtain rfl:=Option.some.inj hE;refine retQ.normalF ((H.set c0_2 (some (.tok 2 y6_c0.Fout.l.length))).set c0 (some (.cells (Z1.cg (some c0_2) y6_c0)))) (xs:=[]) rfl ⟨rfl,rfl⟩ ?_;exact(fun _ _ h=>h)
def Z67 (a0:TDoc) (a1:Bs):Option Bool:=(Z84 a0 a1).bind fun x3=>(Z74 a1).bind fun x5=>some ((!x5)&&(((decide (x3=(1:Int)))||(decide (x3=(2:Int))))||(decide (x3=(3:Int)))))
theorem Z67_walk {a0:TDoc}{a1:Bs}{r:Bool}(hE:Z67 a0 a1=some r) (H:Heap) :ACalls Tryz.prog 46 [.agg (TDoc.c a0),.d (.str a1)] H fun v h'=>v=.a (.d (.bool r))/\h'=H:=by
 unfold Z67 at hE;refine ACalls.oW 24 [.tmp 4] Tryz.call46 Tryz.func46 ?_;refine seqR (S BX (S As (nil ?_)));refine seqR (S Ld (S Mv ?_));obtain⟨x3,gx3,hE⟩:=bO hE;refine Sc rfl rfl (Z84_walk gx3) ?_;refine S As (nil ?_);refine seqR (S Mv ?_);obtain⟨x5,gx5,hE⟩:=bO hE;refine Sc rfl rfl (Z74_walk gx5) ?_;refine S NB (S Mv (G0 Mv ?_));refine G1 13 rfl BI ?_;refine G1 14 rfl Mv ?_;refine G0 Mv ?_;refine G1 16 rfl BI ?_
 refine gC rfl rfl (fun hC=>ungdA (k:=15) rfl (pickOrA rfl rfl rfl)) rfl ?_;refine G1 18 rfl Mv ?_;refine G0 Mv ?_;refine G1 20 rfl BI ?_;refine gC rfl rfl (fun hC=>ungdA (k:=19) rfl (pickOrA rfl rfl rfl)) rfl ?_;refine S PA (S As (nil ?_));exact rt hE
def Z68_j2  (y3_l0:Z4):Option (Z4×Bool):=some ((Z4.mk ([]:Bs) (Sl.nil:Sl Z6) TRef.zero (Sl.nil:Sl TDir)),false)
def Z68_l7 (a0:TDef) (a1:Bs) :Nat->Nat->Z4->Option (Z4×Bool)
 | 0,_,_=>none
 | n7+1,s11_8,y9_l0=>bif (decide (((s11_8:Nat):Int)<((a0.FFields.l.length:Nat):Int))) then((a0.FFields.l[s11_8]?).bind fun x15=>bif ((x15.FName==a1)) then(some (x15,true)) else((Z68_l7 a0 a1 n7) (s11_8+1) y9_l0)) else(Z68_j2   y9_l0)
def Z68 (a0:TDef) (a1:Bs):Option (Z4×Bool):=Z68_l7 a0 a1 (a0.FFields.l.length+1) 0 Z4.zero
theorem Z68_walk {a0:TDef}{a1:Bs}{r:Z4×Bool}(hE:Z68 a0 a1=some r) (H:Heap) :ACalls Tryz.prog 49 [.agg (TDef.c a0),.d (.str a1)] H fun v h'=>v=.tup [.agg (Z4.c r.1),.d (.bool r.2)]/\h'=H:=by
 unfold Z68 at hE;refine ACalls.oW 22 [.cell 4 53,.tmp 5] Tryz.call49 Tryz.func49 ?_;refine seqR (S BX ?_);refine Sl ?_;refine S As (nil ?_);refine seqJ (TA 4 KeepsT.nil) (fun(z:Z4)=>[]) (fun z=>[Z4.c z]) (fun z=>H) (fun z=>Z68_j2 z=some r) ?_ ?_
 ·intro K2 hK2;refine seqR (S Fv (S Ld ?_));refine sLen (f:=Z4.c) (s:=a0.FFields) (TK rfl) rfl rfl rfl rfl fun hL6=>?_;refine S Mv (nil ?_);refine block ?_;refine loopO (TA 1 (TA 4 (TA 9 (TA 10 KeepsT.nil)))) (fun(z:Nat×Nat×Z4)=>[(11,.a (.d (.int .i64 ((z.2.1:Nat):Int))))]) (fun z=>[Z4.c z.2.2]) (fun z=>H) (fun z=>z.1) (fun z=>Z68_l7 a0 a1 z.1 z.2.1 z.2.2=some r) ((a0.FFields.l.length+1),0,Z4.zero) hE Weak.toA ?_
  rintro ⟨n7,s11_8,y9_l0⟩ hE K7 hK7;try dsimp only at hE
  cases n7 with
  | zero=>cases hE
  | succ n7 =>
    rw [Z68_l7] at hE;refine seqR (S BI (nil ?_));refine seqK fun K11 hK11=>?_;refine cE hE (fun hc12 hE=>?_) (fun hc12 hE=>?_)
    ·try dsimp only at hc12
     have hf12:=of_decide_eq_true hc12;refine sk hK11 ?_;clear hK11 K11;refine seqK fun K13 hK13=>?_;refine block ?_;refine seqR ?_;obtain⟨x15,gx15,hE⟩:=bO hE;refine S (ix Z4.c s11_8 gx15) (S Ld ?_);refine Sl ?_;refine Sf ?_;refine nil ?_;refine freezeA 7 _ rfl (KA 1 (KA 4 (KA 9 (KA 10 (KA 11 Keeps.nil))))) ?_;refine seqR (S Fv (S Ld (S Mv (S BS (nil ?_)))));refine cE hE (fun hc17 hE=>?_) (fun hc17 hE=>?_)
     ·refine seqR (S Ld ?_);refine Sf ?_;refine S As (nil ?_);exact rt hE
     refine sk hK13 ?_;clear hK13 K13;refine region ?_;refine SI ?_;refine S Mv (nil ?_);exact hK7 _ (n7,(s11_8+1),y9_l0) Weak.toA hE (Nat.lt_succ_self _)
    refine AWp.exit ?_;exact hK2 _ y9_l0 Weak.toA hE
 rintro y3_l0 hE;try dsimp only at hE
 unfold Z68_j2 at hE;refine seqR (S BU ?_);refine Sf ?_;refine S As (nil ?_);exact rt hE
def Z22 (a0:TDoc) (a1:Bs) (a2:Bs):Option (TRef×Bool):=(Z67 a0 a1).bind fun x4=>bif (!x4) then(some ((TRef.mk ([]:Bs) (Sl.nil:Sl Int)),false)) else(bif ((a2==([95,95,116,121,112,101,110,97,109,101]:Bs))) then((Z105 ([83,116,114,105,110,103]:Bs)).bind fun x11=>(Z106 x11).bind fun x12=>some (x12,true)) else((Z69 a0 a1).bind fun x14=>(Z68 x14.1 a2).bind fun x16=>bif (!x16.2) then(some ((TRef.mk ([]:Bs) (Sl.nil:Sl Int)),false)) else((Z85 x16.1.FType.FWraps).bind fun x22=>some ((TRef.mk x16.1.FType.FName x22),true))))
theorem Z22_walk {a0:TDoc}{a1 a2:Bs}{r:TRef×Bool}(hE:Z22 a0 a1 a2=some r) (H:Heap) :ACalls Tryz.prog 22 [.agg (TDoc.c a0),.d (.str a1),.d (.str a2)] H fun v h'=>v=.tup [.agg (TRef.c r.1),.d (.bool r.2)]/\h'=H:=by
 unfold Z22 at hE;refine ACalls.oW 44 [.cell 6 27,.tmp 7] Tryz.call22 Tryz.func22 ?_;refine seqR (S BX ?_);refine Sl ?_;refine S As (nil ?_);refine seqK fun K2 hK2=>?_;refine seqR (S Ld (S Mv ?_));obtain⟨x4,gx4,hE⟩:=bO hE;refine Sc rfl rfl (Z67_walk gx4) ?_;refine S NB (nil ?_);refine cE hE (fun hc5 hE=>?_) (fun hc5 hE=>?_)
 ·refine seqR (S BU ?_);refine Sf ?_;refine S As (nil ?_);exact rt hE
 refine sk hK2 ?_;clear hK2 K2;refine seqK fun K7 hK7=>?_;refine seqR (S Mv (S BS (nil ?_)));refine cE hE (fun hc9 hE=>?_) (fun hc9 hE=>?_)
 ·refine seqR ?_;obtain⟨x11,gx11,hE⟩:=bO hE;refine Sc rfl rfl (Z105_walk gx11) ?_;obtain⟨x12,gx12,hE⟩:=bO hE;refine Sc rfl rfl (Z106_walk gx12) ?_;refine Sf ?_;refine S As (nil ?_);exact rt hE
 refine sk hK7 ?_;clear hK7 K7;refine seqR (S Ld (S Mv ?_));obtain⟨x14,gx14,hE⟩:=bO hE;refine Sc rfl rfl (Z69_walk gx14) ?_;refine S Mv (S EX (S EX ?_));refine Sl ?_;refine Sf ?_;refine S As (nil ?_);refine freezeA 8 _ rfl (KA 2 (KA 6 Keeps.nil)) ?_;refine seqR (S Ld (S Mv ?_));obtain⟨x16,gx16,hE⟩:=bO hE;refine Sc rfl rfl (Z68_walk gx16) ?_;refine S Mv (S EX (S EX ?_));refine Sl ?_;refine Sf ?_;refine S As (nil ?_)
 refine freezeA 10 _ rfl (KA 6 (KA 11 Keeps.nil)) ?_;refine seqK fun K17 hK17=>?_;refine seqR (S Mv (S NB (nil ?_)));refine cE hE (fun hc19 hE=>?_) (fun hc19 hE=>?_)
 ·refine seqR (S BU ?_);refine Sf ?_;refine S As (nil ?_);exact rt hE
 refine sk hK17 ?_;clear hK17 K17;refine AWp.seqD (Sd Fv (Sd Fv (Sd Ld (Sd Fv (Sd Fv (Sd Ld ?_))))));obtain⟨x22,gx22,hE⟩:=bO hE;refine Scd rfl rfl (Z85_walk gx22) ?_;refine Sd BU ?_;refine DOps.sLn (storeLFA (TK rfl) rfl rfl rfl rfl rfl) ?_;refine Sd As ?_;refine DOps.nil (by decide +kernel) ?_;exact rt hE
def Z35 (a0:Bs) (a1:Bs):Option Bool:=guardO ((decide (((a1.length:Nat):Int)<=((a0.length:Nat):Int)))) (cutC a0 none (some ((a1.length:Nat):Int))) ([]:Bs) fun x5=>some ((decide (((a1.length:Nat):Int)<=((a0.length:Nat):Int)))&&((x5==a1)))
theorem Z35_walk {a0 a1:Bs}{r:Bool}(hE:Z35 a0 a1=some r) (H:Heap) :ACalls Tryz.prog 95 [.d (.str a0),.d (.str a1)] H fun v h'=>v=.a (.d (.bool r))/\h'=H:=by
 unfold Z35 at hE;refine ACalls.oW 18 [.tmp 4] Tryz.call95 Tryz.func95 ?_;refine seqR (S As (nil ?_));refine seqR (S Mv ?_);refine sLenS (TK rfl) rfl rfl rfl rfl fun hL3=>?_;refine S Mv ?_;refine sLenS (TK rfl) rfl rfl rfl rfl fun hL4=>?_;refine S BI (S Mv (G0 Mv (G0 Mv ?_)));refine gC rfl rfl (fun hC=>ungdA (k:=12) rfl (lenS (TK rfl) rfl rfl rfl)) rfl ?_;obtain⟨x5,gx5,hE⟩:=gO hE;refine gC rfl rfl (fun hC=>ungdA (k:=11) rfl (ungdA (k:=13) rfl (cutM (l:=none) (r:=(some ((a1.length:Nat):Int))) (TK rfl) rfl rfl trivial rfl (by simp) (gx5 hC)))) rfl ?_
 refine G0 Mv ?_;refine G2 14 15 rfl rfl BS ?_;refine S PA (S As (nil ?_));exact rt hE
def Z98 (a0:Bs) (a1:Bs):Option Bool:=(Z35 a0 a1).bind fun x3=>some x3
theorem Z98_walk {a0 a1:Bs}{r:Bool}(hE:Z98 a0 a1=some r) (H:Heap) :ACalls Tryz.prog 75 [.d (.str a0),.d (.str a1)] H fun v h'=>v=.a (.d (.bool r))/\h'=H:=by
 unfold Z98 at hE;refine ACalls.oW 8 [.tmp 4] Tryz.call75 Tryz.func75 ?_;refine seqR (S As (nil ?_));refine seqR (S Mv (S Mv ?_));obtain⟨x3,gx3,hE⟩:=bO hE;refine Sc rfl rfl (Z35_walk gx3) ?_;refine S As (nil ?_);exact rt hE
def Z101 (a0:Bs):Option Bool:=(Z98 a0 ([95,95]:Bs)).bind fun x3=>some x3
theorem Z101_walk {a0:Bs}{r:Bool}(hE:Z101 a0=some r) (H:Heap) :ACalls Tryz.prog 55 [.d (.str a0)] H fun v h'=>v=.a (.d (.bool r))/\h'=H:=by
 unfold Z101 at hE;refine ACalls.oW 5 [.tmp 2] Tryz.call55 Tryz.func55 ?_;refine seqR (S As (nil ?_));refine seqR (S Mv ?_);obtain⟨x3,gx3,hE⟩:=bO hE;refine Sc rfl rfl (Z98_walk gx3) ?_;refine S As (nil ?_);exact rt hE
end Go.Proofs
