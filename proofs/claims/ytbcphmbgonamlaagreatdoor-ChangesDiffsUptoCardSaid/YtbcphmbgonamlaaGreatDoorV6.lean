import Derived.Test.YtbcphmbgonamlaaGreatDoorV5
set_option maxRecDepth 100000
set_option maxHeartbeats 2000000
set_option linter.unusedVariables false
set_option linter.unusedSimpArgs false
namespace Go.Proofs
open Go Go.Ab
open AOps Cert AWp Keeps KeepsT
variable {lou:Lou}
def Z43_j8  (s5_9:Int):Option Int:=some s5_9
def Z43_j18 (s6_14:Int) (k_next_12:Int->Int->Option Int) (s5_19:Int):Option Int:=(addC s6_14 (1:Int)).bind fun x20=>k_next_12 s5_19 x20
def Z43_l12 (a0:Z7) (a1:Z7) (k_rec_213:Z7->Z7->Option Int):Nat->Int->Int->Option Int
 | 0,_,_=>none
 | n12+1,s5_13,s6_14=>bif (decide (s5_13=(0:Int))) then(bif ((decide (((a0.FItems.l.length:Nat):Int)<=s6_14))||(decide (((a1.FItems.l.length:Nat):Int)<=s6_14))) then((Z48 ((a0.FItems.l.length:Nat):Int) ((a1.FItems.l.length:Nat):Int)).bind fun x28=>some x28) else((Z49 a0 s6_14).bind fun x30=>(Z49 a1 s6_14).bind fun x31=>(Z51 x30 x31).bind fun x32=>bif (decide (x32=(0:Int))) then((idxC a0.FItems.l s6_14).bind fun x35=>(idxC a1.FItems.l s6_14).bind fun x36=>(k_rec_213 x35 x36).bind fun x37=>Z43_j18 s6_14 ((Z43_l12 a0 a1 k_rec_213 n12)) x37) else(Z43_j18 s6_14 ((Z43_l12 a0 a1 k_rec_213 n12)) x32))) else(Z43_j8   s5_13)
def Z43_j6 (a0:Z7) (a1:Z7) (k_rec_213:Z7->Z7->Option Int) (s5_7:Int):Option Int:=Z43_l12 a0 a1 k_rec_213 F0 s5_7 (0:Int)
def Z43_j4 (a0:Z7) (a1:Z7) (k_rec_213:Z7->Z7->Option Int) (s5_5:Int):Option Int:=bif (decide (s5_5=(0:Int))) then((Z51 a0.FText a1.FText).bind fun x40=>Z43_j6 a0 a1 k_rec_213 x40) else(Z43_j6 a0 a1 k_rec_213 s5_5)
def Z43_n:Nat->Z7->Z7->Option Int
 | 0,_,_=>none
 | n+1,a0,a1=>(Z48 a0.FKind a1.FKind).bind fun x3=>bif (decide (x3=(0:Int))) then((Z48 a0.FInt a1.FInt).bind fun x43=>Z43_j4 a0 a1 (Z43_n n) x43) else(Z43_j4 a0 a1 (Z43_n n) x3)
theorem Z43_step (n:Nat) (ih_213:∀{a0 a1:Z7}{r:Int},Z43_n n a0 a1=some r->∀(H:Heap),ACalls Tryz.prog 213 [.agg (Z7.c a0),.agg (Z7.c a1)] H fun v h'=>v=.a (.d (.int .i64 r))/\h'=H):∀{a0 a1:Z7}{r:Int},Z43_n (n+1) a0 a1=some r->∀(H:Heap),ACalls Tryz.prog 213 [.agg (Z7.c a0),.agg (Z7.c a1)] H fun v h'=>v=.a (.d (.int .i64 r))/\h'=H:=by
 intro a0 a1   r hE H ;rw [Z43_n] at hE;refine ACalls.oW 70 [.tmp 4] Tryz.call213 Tryz.func213 ?_;refine seqR (S BX (S BX (S As (nil ?_))));refine seqR (S Fv (S Ld (S Fv (S Ld ?_))));obtain⟨x3,gx3,hE⟩:=bO hE;refine Sc rfl rfl (Z48_walk gx3) ?_;refine S As (nil ?_);refine seqJH (TA 2 (TA 3 KeepsT.nil)) (fun(z:Int)=>[(5,.a (.d (.int .i64 z)))]) (fun z=>H) (fun z=>Z43_j4 a0 a1 (Z43_n n) z=some r) ?_ ?_
 ·intro K4 hK4;refine seqR (S Mv (S BI (nil ?_)));refine cE hE (fun hc42 hE=>?_) (fun hc42 hE=>?_)
  ·refine region ?_;refine S Fv (S Ld (S Fv (S Ld ?_)));obtain⟨x43,gx43,hE⟩:=bO hE;refine Sc rfl rfl (Z48_walk gx43) ?_;refine S As (nil ?_);exact hK4 _ x43 Weak.toA hE
  refine AWp.skip ?_;exact hK4 _ x3 Weak.toA hE
 rintro s5_5 hE;try dsimp only at hE
 unfold Z43_j4 at hE;refine seqJH (TA 2 (TA 3 KeepsT.nil)) (fun(z:Int)=>[(5,.a (.d (.int .i64 z)))]) (fun z=>H) (fun z=>Z43_j6 a0 a1 (Z43_n n) z=some r) ?_ ?_
 ·intro K6 hK6;refine seqR (S Mv (S BI (nil ?_)));refine cE hE (fun hc39 hE=>?_) (fun hc39 hE=>?_)
  ·refine region ?_;refine S Fv (S Ld (S Fv (S Ld ?_)));obtain⟨x40,gx40,hE⟩:=bO hE;refine Sc rfl rfl (Z51_walk gx40) ?_;refine S As (nil ?_);exact hK6 _ x40 Weak.toA hE
  refine AWp.skip ?_;exact hK6 _ s5_5 Weak.toA hE
 rintro s5_7 hE;try dsimp only at hE
 unfold Z43_j6 at hE;refine seqJH KeepsT.nil (fun(z:Int)=>[(5,.a (.d (.int .i64 z)))]) (fun z=>H) (fun z=>Z43_j8 z=some r) ?_ ?_
 ·intro K8 hK8;refine seqR (S As (nil ?_));refine block ?_;refine loopH (TA 2 (TA 3 KeepsT.nil)) (fun(z:Nat×Int×Int)=>[(5,.a (.d (.int .i64 z.2.1))),(6,.a (.d (.int .i64 z.2.2)))]) (fun z=>H) (fun z=>z.1) (fun z=>Z43_l12 a0 a1 (Z43_n n) z.1 z.2.1 z.2.2=some r) (F0,s5_7,(0:Int)) hE Weak.toA ?_;rintro ⟨n12,s5_13,s6_14⟩ hE K12 hK12;try dsimp only at hE
  cases n12 with
  | zero=>cases hE
  | succ n12 =>
    rw [Z43_l12] at hE;refine seqK fun K15 hK15=>?_;refine seqR (S Mv (S BI (nil ?_)));refine cE hE (fun hc17 hE=>?_) (fun hc17 hE=>?_)
    ·refine sk hK15 ?_;clear hK15 K15;refine seqJH (TA 2 (TA 3 (TA 6 KeepsT.nil))) (fun(z:Int)=>[(5,.a (.d (.int .i64 z)))]) (fun z=>H) (fun z=>Z43_j18 s6_14 ((Z43_l12 a0 a1 (Z43_n n) n12)) z=some r) ?_ ?_
     ·intro K18 hK18;refine block ?_;refine seqK fun K21 hK21=>?_;refine seqR (S Mv (S Fv ?_));refine s0 (loadV (TK rfl) rfl rfl (congrArg (fun x=>some (A.d x)) (Z7.FItemsD_eq _))) rfl ?_;refine sLen (f:=Z7.c) (s:=a0.FItems) (TK rfl) rfl rfl rfl rfl fun hL23=>?_;refine S BI (S Mv (G0 Mv (G0 Fv ?_)));refine gC rfl rfl (fun hC=>ungdA (k:=37) rfl (loadV (TK rfl) rfl rfl (congrArg (fun x=>some (A.d x)) (Z7.FItemsD_eq _)))) rfl ?_
      refine gC rfl rfl (fun hC=>ungdA (k:=38) rfl (lenM' (f:=Z7.c) (s:=a1.FItems) (TK rfl) rfl rfl rfl)) rfl ?_;refine G2 36 39 rfl rfl BI ?_;refine S PO (nil ?_);refine cE hE (fun hc24 hE=>?_) (fun hc24 hE=>?_)
      ·refine seqR (S Fv ?_);refine s0 (loadV (TK rfl) rfl rfl (congrArg (fun x=>some (A.d x)) (Z7.FItemsD_eq _))) rfl ?_;refine sLen (f:=Z7.c) (s:=a0.FItems) (TK rfl) rfl rfl rfl rfl fun hL26=>?_;refine S Fv ?_;refine s0 (loadV (TK rfl) rfl rfl (congrArg (fun x=>some (A.d x)) (Z7.FItemsD_eq _))) rfl ?_;refine sLen (f:=Z7.c) (s:=a1.FItems) (TK rfl) rfl rfl rfl rfl fun hL27=>?_;obtain⟨x28,gx28,hE⟩:=bO hE
       refine Sc rfl rfl (Z48_walk gx28) ?_;refine S As (nil ?_);exact rt hE
      refine sk hK21 ?_;clear hK21 K21;refine AWp.seqD (Sd Ld (Sd Mv ?_));obtain⟨x30,gx30,hE⟩:=bO hE;refine Scd rfl rfl (Z49_walk gx30) ?_;refine Sd Ld (Sd Mv ?_);obtain⟨x31,gx31,hE⟩:=bO hE;refine Scd rfl rfl (Z49_walk gx31) ?_;obtain⟨x32,gx32,hE⟩:=bO hE;refine Scd rfl rfl (Z51_walk gx32) ?_;refine Sd As ?_;refine DOps.nil (by decide +kernel) ?_;refine seqR (S Mv (S BI (nil ?_)));refine cE hE (fun hc34 hE=>?_) (fun hc34 hE=>?_)
      ·refine AWp.draw rfl ?_;refine Sd Fv ?_;refine DOps.s0 (loadV (TK rfl) rfl rfl (congrArg (fun x=>some (A.d x)) (Z7.FItemsD_eq _))) rfl ?_;refine Sd Mv ?_;obtain⟨x35,gx35,hE⟩:=bO hE;refine DOps.s0 (idxM (f:=Z7.c) (TK rfl) rfl (TK rfl) rfl rfl rfl gx35) rfl ?_;refine Sd Ld (Sd Fv ?_);refine DOps.s0 (loadV (TK rfl) rfl rfl (congrArg (fun x=>some (A.d x)) (Z7.FItemsD_eq _))) rfl ?_;refine Sd Mv ?_
       obtain⟨x36,gx36,hE⟩:=bO hE;refine DOps.s0 (idxM (f:=Z7.c) (TK rfl) rfl (TK rfl) rfl rfl rfl gx36) rfl ?_;refine Sd Ld ?_;obtain⟨x37,gx37,hE⟩:=bO hE;refine Scd rfl rfl (ih_213 gx37) ?_;refine Sd As ?_;refine DOps.nil (by decide +kernel) ?_;exact hK18 _ x37 Weak.toA hE
      refine AWp.skip ?_;exact hK18 _ x32 Weak.toA hE
     rintro s5_19 hE;try dsimp only at hE
     unfold Z43_j18 at hE;refine region ?_;refine S Mv ?_;obtain⟨x20,gx20,hE⟩:=bO hE;refine s0 (addM rfl rfl gx20) rfl ?_;refine S As (nil ?_);exact hK12 _ (n12,s5_19,x20) Weak.toA hE (Nat.lt_succ_self _)
    refine AWp.exit ?_;exact hK8 _ s5_13 Weak.toA hE
 rintro s5_9 hE;try dsimp only at hE
 unfold Z43_j8 at hE;refine seqR (S Mv (S As (nil ?_)));exact rt hE
theorem Z43_all:∀(n:Nat),(∀{a0 a1:Z7}{r:Int},Z43_n n a0 a1=some r->∀(H:Heap),ACalls Tryz.prog 213 [.agg (Z7.c a0),.agg (Z7.c a1)] H fun v h'=>v=.a (.d (.int .i64 r))/\h'=H)
 | 0=>fun hE=>by first|cases hE|(rw [Z43_n] at hE; cases hE)
 | n+1=>Z43_step n (Z43_all n)
def Z43 (a0:Z7) (a1:Z7):Option Int:=Z43_n F0 a0 a1
theorem Z43_walk {a0 a1:Z7}{r:Int}(hE:Z43 a0 a1=some r) (H:Heap) :ACalls Tryz.prog 213 [.agg (Z7.c a0),.agg (Z7.c a1)] H fun v h'=>v=.a (.d (.int .i64 r))/\h'=H:=(Z43_all F0) hE H 
def Z46 (a0:Z7) (a1:Z7):Option Bool:=(Z43 a0 a1).bind fun x3=>some (decide (x3=(0:Int)))
theorem Z46_walk {a0 a1:Z7}{r:Bool}(hE:Z46 a0 a1=some r) (H:Heap) :ACalls Tryz.prog 155 [.agg (Z7.c a0),.agg (Z7.c a1)] H fun v h'=>v=.a (.d (.bool r))/\h'=H:=by
 unfold Z46 at hE;refine ACalls.oW 9 [.tmp 4] Tryz.call155 Tryz.func155 ?_;refine seqR (S BX (S BX (S As (nil ?_))));refine seqR (S Ld (S Ld ?_));obtain⟨x3,gx3,hE⟩:=bO hE;refine Sc rfl rfl (Z43_walk gx3) ?_;refine S BI (S As (nil ?_));exact rt hE
def Z115 (a0:Z5):Option Bs:=bif (!a0.FHas) then(some ([]:Bs)) else((Z75 a0.FDefault).bind fun x7=>some x7)
theorem Z115_walk {a0:Z5}{r:Bs}(hE:Z115 a0=some r) (H:Heap) :ACalls Tryz.prog 156 [.agg (Z5.c a0)] H fun v h'=>v=.a (.d (.str r))/\h'=H:=by
 unfold Z115 at hE;refine ACalls.oW 9 [.tmp 2] Tryz.call156 Tryz.func156 ?_;refine seqR (S BX (S As (nil ?_)));refine seqK fun K2 hK2=>?_;refine seqR (S Fv (S Ld (S NB (nil ?_))));refine cE hE (fun hc4 hE=>?_) (fun hc4 hE=>?_)
 ·refine seqR (S As (nil ?_));exact rt hE
 refine sk hK2 ?_;clear hK2 K2;refine seqR (S Fv (S Ld ?_));obtain⟨x7,gx7,hE⟩:=bO hE;refine Sc rfl rfl (Z75_walk gx7) ?_;refine S As (nil ?_);exact rt hE
def Z112_j5  (s9_6:(Sl Z2)):Option (Sl Z2):=some s9_6
def Z112_j16 (s14_11:Nat) (k_next_9:(Sl Z2)->Nat->Option (Sl Z2)) (s9_17:(Sl Z2)):Option (Sl Z2):=k_next_9 s9_17 (s14_11+1)
def Z112_l9 (a0:(Sl Z5)) (a1:(Sl Z5)) (a2:Z2) (a3:(Int×Int×Int×Int)) :Nat->(Sl Z2)->Nat->Option (Sl Z2)
 | 0,_,_=>none
 | n9+1,s9_10,s14_11=>bif (decide (((s14_11:Nat):Int)<((a1.l.length:Nat):Int))) then((a1.l[s14_11]?).bind fun x19=>(Z80 a0 x19.FName).bind fun x20=>bif (!x20.2) then((idxC ([a3.1,a3.2.1,a3.2.2.1,a3.2.2.2]:List Int) (1:Int)).bind fun x23=>(a1.l[s14_11]?).bind fun x24=>(a1.l[s14_11]?).bind fun x25=>(Z117 x25).bind fun x26=>(Z109 a2 x23 x24.FName ([]:Bs) x26).bind fun x27=>(appC 88 s9_10 (⟨false,[x27]⟩:Sl Z2)).bind fun x28=>Z112_j16 s14_11 ((Z112_l9 a0 a1 a2 a3 n9)) x28) else(Z112_j16 s14_11 ((Z112_l9 a0 a1 a2 a3 n9)) s9_10)) else(Z112_j5   s9_10)
def Z112_j3 (a0:(Sl Z5)) (a1:(Sl Z5)) (a2:Z2) (a3:(Int×Int×Int×Int))  (s9_4:(Sl Z2)):Option (Sl Z2):=Z112_l9 a0 a1 a2 a3 (a1.l.length+1) s9_4 0
def Z112_j37 (s10_32:Nat) (k_next_30:(Sl Z2)->Nat->Option (Sl Z2)) (s9_38:(Sl Z2)):Option (Sl Z2):=k_next_30 s9_38 (s10_32+1)
def Z112_j51 (a2:Z2) (a3:(Int×Int×Int×Int)) (s10_32:Nat) (x40:Z5) (x42:(Z5×Bool)) (k_next_30:(Sl Z2)->Nat->Option (Sl Z2)) (s9_52:(Sl Z2)):Option (Sl Z2):=guardO ((!(!(x40.FHas==x42.1.FHas))&&x40.FHas)) (Z46 x40.FDefault x42.1.FDefault) false fun x54=>bif ((!(x40.FHas==x42.1.FHas))||(x40.FHas&&(!x54))) then((idxC ([a3.1,a3.2.1,a3.2.2.1,a3.2.2.2]:List Int) (3:Int)).bind fun x56=>(Z115 x40).bind fun x57=>(Z115 x42.1).bind fun x58=>(Z109 a2 x56 x40.FName x57 x58).bind fun x59=>(appC 88 s9_52 (⟨false,[x59]⟩:Sl Z2)).bind fun x60=>Z112_j37 s10_32 k_next_30 x60) else(Z112_j37 s10_32 k_next_30 s9_52)
def Z112_l30 (a0:(Sl Z5)) (a1:(Sl Z5)) (a2:Z2) (a3:(Int×Int×Int×Int)) :Nat->(Sl Z2)->Nat->Option (Sl Z2)
 | 0,_,_=>none
 | n30+1,s9_31,s10_32=>bif (decide (((s10_32:Nat):Int)<((a0.l.length:Nat):Int))) then((a0.l[s10_32]?).bind fun x40=>(Z80 a1 x40.FName).bind fun x42=>bif (!x42.2) then((idxC ([a3.1,a3.2.1,a3.2.2.1,a3.2.2.2]:List Int) (0:Int)).bind fun x47=>(Z117 x40).bind fun x48=>(Z109 a2 x47 x40.FName x48 ([]:Bs)).bind fun x49=>(appC 88 s9_31 (⟨false,[x49]⟩:Sl Z2)).bind fun x50=>Z112_j37 s10_32 ((Z112_l30 a0 a1 a2 a3 n30)) x50) else((Z61 x40.FType x42.1.FType).bind fun x62=>bif (!x62) then((idxC ([a3.1,a3.2.1,a3.2.2.1,a3.2.2.2]:List Int) (2:Int)).bind fun x64=>(Z59 x40.FType).bind fun x65=>(Z59 x42.1.FType).bind fun x66=>(Z109 a2 x64 x40.FName x65 x66).bind fun x67=>(appC 88 s9_31 (⟨false,[x67]⟩:Sl Z2)).bind fun x68=>Z112_j51 a2 a3 s10_32 x40 x42 ((Z112_l30 a0 a1 a2 a3 n30)) x68) else(Z112_j51 a2 a3 s10_32 x40 x42 ((Z112_l30 a0 a1 a2 a3 n30)) s9_31))) else(Z112_j3 a0 a1 a2 a3  s9_31)
def Z112 (a0:(Sl Z5)) (a1:(Sl Z5)) (a2:Z2) (a3:(Int×Int×Int×Int)):Option (Sl Z2):=Z112_l30 a0 a1 a2 a3 (a0.l.length+1) (Sl.nil:Sl Z2) 0
theorem Z112_walk {a0 a1:Sl Z5}{a2:Z2}{a3:Int×Int×Int×Int}{w0 w1:Option Nat}{r:Sl Z2}(hE:Z112 a0 a1 a2 a3=some r) (H:Heap) :ACalls Tryz.prog 79 [.d (Sl.d 10 Z5.c w0 a0),.d (Sl.d 10 Z5.c w1 a1),.agg (Z2.c a2),.agg [.int .i64 a3.1,.int .i64 a3.2.1,.int .i64 a3.2.2.1,.int .i64 a3.2.2.2]] H fun v h'=>v=.a (.d (Sl.d 6 Z2.c none r))/\h'=H:=by
 unfold Z112 at hE;refine ACalls.oW 134 [.tmp 8] Tryz.call79 Tryz.func79 ?_;refine AWp.tok 6 fun tk1 htk1=>?_;refine seqR (S BX (S BX ?_));refine s0 (assignNil (k':=6) rfl) rfl ?_;refine nil ?_;refine seqR (S As (nil ?_));refine AWp.nilTok 9 6 tk1 rfl hpG ?_;refine seqJH (TA 0 (TA 1 (TA 6 (TA 7 KeepsT.nil)))) (fun(z:(Sl Z2))=>[(9,.a (.d (Sl.d 6 Z2.c (some tk1) z)))]) (fun z=>(H.set tk1 (some (.tok 6 z.l.length)))) (fun z=>Z112_j3 a0 a1 a2 a3 z=some r) ?_ ?_
 ·intro K3 hK3;refine seqR (S As (nil ?_));refine block ?_;refine loopH (TA 0 (TA 1 (TA 6 (TA 7 KeepsT.nil)))) (fun(z:Nat×(Sl Z2)×Nat)=>[(9,.a (.d (Sl.d 6 Z2.c (some tk1) z.2.1))),(10,.a (.d (.int .i64 ((z.2.2:Nat):Int))))]) (fun z=>(H.set tk1 (some (.tok 6 z.2.1.l.length)))) (fun z=>z.1) (fun z=>Z112_l30 a0 a1 a2 a3 z.1 z.2.1 z.2.2=some r) ((a0.l.length+1),(Sl.nil:Sl Z2),0) hE Weak.toA ?_;rintro ⟨n30,s9_31,s10_32⟩ hE K30 hK30
  try dsimp only at hE
  cases n30 with
  | zero=>cases hE
  | succ n30 =>
    rw [Z112_l30] at hE;refine seqK fun K33 hK33=>?_;refine seqR (S Mv (S Mv ?_));refine sLen (f:=Z5.c) (s:=a0) (TK rfl) rfl rfl rfl rfl fun hL35=>?_;refine S BI (nil ?_);refine cE hE (fun hc36 hE=>?_) (fun hc36 hE=>?_)
    ·try dsimp only at hc36
     have hf36:=of_decide_eq_true hc36;refine sk hK33 ?_;clear hK33 K33;refine seqJH (TA 0 (TA 1 (TA 6 (TA 7 (TA 10 KeepsT.nil))))) (fun(z:(Sl Z2))=>[(9,.a (.d (Sl.d 6 Z2.c (some tk1) z)))]) (fun z=>(H.set tk1 (some (.tok 6 z.l.length)))) (fun z=>Z112_j37 s10_32 ((Z112_l30 a0 a1 a2 a3 n30)) z=some r) ?_ ?_
     ·intro K37 hK37;refine block ?_;refine seqR (S Mv (S Mv ?_));obtain⟨x40,gx40,hE⟩:=bO hE;refine S (ix Z5.c s10_32 gx40) (S Ld ?_);refine Sl ?_;refine Sf ?_;refine nil ?_;refine freezeA 11 _ rfl (KA 0 (KA 1 (KA 6 (KA 7 (KA 9 (KA 10 Keeps.nil)))))) ?_;refine seqR (S Mv (S Fv (S Ld ?_)));obtain⟨x42,gx42,hE⟩:=bO hE;refine Sc rfl rfl (Z80_walk gx42) ?_;refine S Mv (S EX (S EX ?_));refine Sl ?_;refine Sf ?_
      refine S As (nil ?_);refine freezeA 12 _ rfl (KA 0 (KA 1 (KA 6 (KA 7 (KA 9 (KA 10 (KA 11 (KA 13 Keeps.nil)))))))) ?_;refine seqK fun K43 hK43=>?_;refine seqR (S Mv (S NB (nil ?_)));refine cE hE (fun hc45 hE=>?_) (fun hc45 hE=>?_)
      ·refine AWp.seqD (Sd Mv (Sd Ld ?_));obtain⟨x47,gx47,hE⟩:=bO hE;refine DOps.s0 (idxArr (f:=D.int .i64) (l:=([a3.1,a3.2.1,a3.2.2.1,a3.2.2.2]:List Int)) Tryz.underlying143 (TK rfl) rfl rfl rfl rfl gx47) rfl ?_;refine Sd Ld (Sd Fv (Sd Ld (Sd Ld ?_)));obtain⟨x48,gx48,hE⟩:=bO hE;refine Scd rfl rfl (Z117_walk gx48) ?_;obtain⟨x49,gx49,hE⟩:=bO hE;refine Scd rfl rfl (Z109_walk gx49) ?_;refine Sd BV ?_
       obtain⟨x50,gx50,hE⟩:=bO hE;refine DOps.sH (appM (f:=Z2.c) (TK rfl) rfl (TK rfl) (TK rfl) ⟨_,rfl⟩ rfl rfl (by decide) rfl rfl rfl rfl hpG rfl gx50) rfl ?_;refine DOps.Dh (H.set tk1 (some (.tok 6 x50.l.length))) ?_;refine Sd As ?_;refine DOps.nil (by decide +kernel) ?_;refine AWp.exit ?_;exact hK37 _ x50 Weak.toA hE
      refine sk hK43 ?_;clear hK43 K43;refine seqJH (TA 0 (TA 1 (TA 6 (TA 7 (TA 10 (TA 11 (TA 12 KeepsT.nil))))))) (fun(z:(Sl Z2))=>[(9,.a (.d (Sl.d 6 Z2.c (some tk1) z)))]) (fun z=>(H.set tk1 (some (.tok 6 z.l.length)))) (fun z=>Z112_j51 a2 a3 s10_32 x40 x42 ((Z112_l30 a0 a1 a2 a3 n30)) z=some r) ?_ ?_
      ·intro K51 hK51;refine seqR (S Fv (S Ld (S Fv (S Ld ?_))));obtain⟨x62,gx62,hE⟩:=bO hE;refine Sc rfl rfl (Z61_walk gx62) ?_;refine S NB (nil ?_);refine cE hE (fun hc63 hE=>?_) (fun hc63 hE=>?_)
       ·refine AWp.draw rfl ?_;refine Sd Mv (Sd Ld ?_);obtain⟨x64,gx64,hE⟩:=bO hE;refine DOps.s0 (idxArr (f:=D.int .i64) (l:=([a3.1,a3.2.1,a3.2.2.1,a3.2.2.2]:List Int)) Tryz.underlying143 (TK rfl) rfl rfl rfl rfl gx64) rfl ?_;refine Sd Ld (Sd Fv (Sd Ld (Sd Fv (Sd Ld ?_))));obtain⟨x65,gx65,hE⟩:=bO hE;refine Scd rfl rfl (Z59_walk gx65) ?_;refine Sd Fv (Sd Ld ?_);obtain⟨x66,gx66,hE⟩:=bO hE;refine Scd rfl rfl (Z59_walk gx66) ?_
        obtain⟨x67,gx67,hE⟩:=bO hE;refine Scd rfl rfl (Z109_walk gx67) ?_;refine Sd BV ?_;obtain⟨x68,gx68,hE⟩:=bO hE;refine DOps.sH (appM (f:=Z2.c) (TK rfl) rfl (TK rfl) (TK rfl) ⟨_,rfl⟩ rfl rfl (by decide) rfl rfl rfl rfl hpG rfl gx68) rfl ?_;refine DOps.Dh (H.set tk1 (some (.tok 6 x68.l.length))) ?_;refine Sd As ?_;refine DOps.nil (by decide +kernel) ?_;exact hK51 _ x68 Weak.toA hE
       refine AWp.skip ?_;exact hK51 _ s9_31 Weak.toA hE
      rintro s9_52 hE;try dsimp only at hE
      unfold Z112_j51 at hE;refine seqR (S Fv (S Ld (S Fv (S Ld ?_))));refine s0 (neB (TK rfl) rfl rfl rfl) rfl ?_;refine S Mv (G0 Fv ?_);refine G1 74 rfl Ld ?_;refine G1 75 rfl Mv ?_;refine G0 Fv ?_;refine G1 77 rfl Ld ?_;refine G0 Fv ?_;refine G1 79 rfl Ld ?_;obtain⟨x54,gx54,hE⟩:=gO hE;refine Gc2 78 80 rfl rfl rfl rfl rfl rfl (fun hC=>Z46_walk (gx54 hC)) ?_;refine G1 81 rfl NB ?_;refine gC rfl rfl (fun hC=>ungdA (k:=76) rfl (pickAndA rfl rfl rfl)) rfl ?_
      refine S PO (nil ?_);refine cE hE (fun hc55 hE=>?_) (fun hc55 hE=>?_)
      ·refine AWp.draw rfl ?_;refine Sd Mv (Sd Ld ?_);obtain⟨x56,gx56,hE⟩:=bO hE;refine DOps.s0 (idxArr (f:=D.int .i64) (l:=([a3.1,a3.2.1,a3.2.2.1,a3.2.2.2]:List Int)) Tryz.underlying143 (TK rfl) rfl rfl rfl rfl gx56) rfl ?_;refine Sd Ld (Sd Fv (Sd Ld (Sd Ld ?_)));obtain⟨x57,gx57,hE⟩:=bO hE;refine Scd rfl rfl (Z115_walk gx57) ?_;refine Sd Ld ?_;obtain⟨x58,gx58,hE⟩:=bO hE;refine Scd rfl rfl (Z115_walk gx58) ?_
       obtain⟨x59,gx59,hE⟩:=bO hE;refine Scd rfl rfl (Z109_walk gx59) ?_;refine Sd BV ?_;obtain⟨x60,gx60,hE⟩:=bO hE;refine DOps.sH (appM (f:=Z2.c) (TK rfl) rfl (TK rfl) (TK rfl) ⟨_,rfl⟩ rfl rfl (by decide) rfl rfl rfl rfl hpG rfl gx60) rfl ?_;refine DOps.Dh (H.set tk1 (some (.tok 6 x60.l.length))) ?_;refine Sd As ?_;refine DOps.nil (by decide +kernel) ?_;exact hK37 _ x60 Weak.toA hE
      refine AWp.skip ?_;exact hK37 _ s9_52 Weak.toA hE
     rintro s9_38 hE;try dsimp only at hE
     unfold Z112_j37 at hE;refine region ?_;refine S Mv ?_;refine SI ?_;refine S As (nil ?_);exact hK30 _ (n30,s9_38,(s10_32+1)) Weak.toA hE (Nat.lt_succ_self _)
    refine AWp.exit ?_;exact hK3 _ s9_31 Weak.toA hE
 rintro s9_4 hE;try dsimp only at hE
 unfold Z112_j3 at hE;refine seqJH KeepsT.nil (fun(z:(Sl Z2))=>[(9,.a (.d (Sl.d 6 Z2.c (some tk1) z)))]) (fun z=>(H.set tk1 (some (.tok 6 z.l.length)))) (fun z=>Z112_j5 z=some r) ?_ ?_
 ·intro K5 hK5;refine seqR (S As (nil ?_));refine block ?_;refine loopH (TA 0 (TA 1 (TA 6 (TA 7 KeepsT.nil)))) (fun(z:Nat×(Sl Z2)×Nat)=>[(9,.a (.d (Sl.d 6 Z2.c (some tk1) z.2.1))),(14,.a (.d (.int .i64 ((z.2.2:Nat):Int))))]) (fun z=>(H.set tk1 (some (.tok 6 z.2.1.l.length)))) (fun z=>z.1) (fun z=>Z112_l9 a0 a1 a2 a3 z.1 z.2.1 z.2.2=some r) ((a1.l.length+1),s9_4,0) hE Weak.toA ?_;rintro ⟨n9,s9_10,s14_11⟩ hE K9 hK9
  try dsimp only at hE
  cases n9 with
  | zero=>cases hE
  | succ n9 =>
    rw [Z112_l9] at hE;refine seqK fun K12 hK12=>?_;refine seqR (S Mv (S Mv ?_));refine sLen (f:=Z5.c) (s:=a1) (TK rfl) rfl rfl rfl rfl fun hL14=>?_;refine S BI (nil ?_);refine cE hE (fun hc15 hE=>?_) (fun hc15 hE=>?_)
    ·try dsimp only at hc15
     have hf15:=of_decide_eq_true hc15;refine sk hK12 ?_;clear hK12 K12;refine seqJH (TA 0 (TA 1 (TA 6 (TA 7 (TA 14 KeepsT.nil))))) (fun(z:(Sl Z2))=>[(9,.a (.d (Sl.d 6 Z2.c (some tk1) z)))]) (fun z=>(H.set tk1 (some (.tok 6 z.l.length)))) (fun z=>Z112_j16 s14_11 ((Z112_l9 a0 a1 a2 a3 n9)) z=some r) ?_ ?_
     ·intro K16 hK16;refine block ?_;refine seqR (S Mv (S Mv (S Mv ?_)));obtain⟨x19,gx19,hE⟩:=bO hE;refine S (ix Z5.c s14_11 gx19) (S Fv (S Ld ?_));obtain⟨x20,gx20,hE⟩:=bO hE;refine Sc rfl rfl (Z80_walk gx20) ?_;refine S Mv (S EX (S EX ?_));refine Sl ?_;refine Sf ?_;refine S As (nil ?_);refine freezeA 15 _ rfl (KA 0 (KA 1 (KA 6 (KA 7 (KA 9 (KA 14 (KA 16 Keeps.nil))))))) ?_;refine seqR (S Mv (S NB (nil ?_)))
      refine cE hE (fun hc22 hE=>?_) (fun hc22 hE=>?_)
      ·refine AWp.draw rfl ?_;refine Sd Mv (Sd Ld ?_);obtain⟨x23,gx23,hE⟩:=bO hE;refine DOps.s0 (idxArr (f:=D.int .i64) (l:=([a3.1,a3.2.1,a3.2.2.1,a3.2.2.2]:List Int)) Tryz.underlying143 (TK rfl) rfl rfl rfl rfl gx23) rfl ?_;refine Sd Ld (Sd Mv (Sd Mv ?_));obtain⟨x24,gx24,hE⟩:=bO hE;refine Sd (ix Z5.c s14_11 gx24) (Sd Fv (Sd Ld (Sd Mv (Sd Mv ?_))));obtain⟨x25,gx25,hE⟩:=bO hE;refine Sd (ix Z5.c s14_11 gx25) (Sd Ld ?_)
       obtain⟨x26,gx26,hE⟩:=bO hE;refine Scd rfl rfl (Z117_walk gx26) ?_;obtain⟨x27,gx27,hE⟩:=bO hE;refine Scd rfl rfl (Z109_walk gx27) ?_;refine Sd BV ?_;obtain⟨x28,gx28,hE⟩:=bO hE;refine DOps.sH (appM (f:=Z2.c) (TK rfl) rfl (TK rfl) (TK rfl) ⟨_,rfl⟩ rfl rfl (by decide) rfl rfl rfl rfl hpG rfl gx28) rfl ?_;refine DOps.Dh (H.set tk1 (some (.tok 6 x28.l.length))) ?_;refine Sd As ?_;refine DOps.nil (by decide +kernel) ?_
       exact hK16 _ x28 Weak.toA hE
      refine AWp.skip ?_;exact hK16 _ s9_10 Weak.toA hE
     rintro s9_17 hE;try dsimp only at hE
     unfold Z112_j16 at hE;refine region ?_;refine S Mv ?_;refine SI ?_;refine S As (nil ?_);exact hK9 _ (n9,s9_17,(s14_11+1)) Weak.toA hE (Nat.lt_succ_self _)
    refine AWp.exit ?_;exact hK5 _ s9_10 Weak.toA hE
 rintro s9_6 hE;try dsimp only at hE
 unfold Z112_j5 at hE;refine seqR (S Mv (S As (nil ?_)));refine AWp.dropTok 8 rfl ?_;refine AWp.ret ?_;repeat (first|refine xBlock_ret ?_|refine xThen_ret ?_)
 obtain rfl:=Option.some.inj hE;refine retQ.retF H rfl ⟨rfl,rfl⟩ ?_
 first|exact Heap.sub_set htk1|(simp only [Heap.set_set]; exact Heap.sub_set htk1)
end Go.Proofs

namespace Go.Proofs
open Go Go.Ab
open AOps Cert AWp Keeps KeepsT
variable {lou:Lou}
def Z110_j5  (s5_6:(Sl Z2)):Option (Sl Z2):=some s5_6
def Z110_j16 (s11_11:Nat) (k_next_9:(Sl Z2)->Nat->Option (Sl Z2)) (s5_17:(Sl Z2)):Option (Sl Z2):=k_next_9 s5_17 (s11_11+1)
def Z110_l9 (a0:TDef) (a1:TDef) :Nat->(Sl Z2)->Nat->Option (Sl Z2)
 | 0,_,_=>none
 | n9+1,s5_10,s11_11=>bif (decide (((s11_11:Nat):Int)<((a1.FFields.l.length:Nat):Int))) then((a1.FFields.l[s11_11]?).bind fun x19=>(Z78 a0 x19.FName).bind fun x20=>bif (!x20.2) then((a1.FFields.l[s11_11]?).bind fun x23=>(a1.FFields.l[s11_11]?).bind fun x24=>(Z59 x24.FType).bind fun x25=>(appC 88 s5_10 (⟨false,[(Z2.mk (5:Int) a0.FName x23.FName ([]:Bs) ([]:Bs) x25)]⟩:Sl Z2)).bind fun x26=>Z110_j16 s11_11 ((Z110_l9 a0 a1 n9)) x26) else(Z110_j16 s11_11 ((Z110_l9 a0 a1 n9)) s5_10)) else(Z110_j5   s5_10)
def Z110_j3 (a0:TDef) (a1:TDef)  (s5_4:(Sl Z2)):Option (Sl Z2):=Z110_l9 a0 a1 (a1.FFields.l.length+1) s5_4 0
def Z110_j35 (s6_30:Nat) (k_next_28:(Sl Z2)->Nat->Option (Sl Z2)) (s5_36:(Sl Z2)):Option (Sl Z2):=k_next_28 s5_36 (s6_30+1)
def Z110_j50 (a0:TDef) (s6_30:Nat) (x38:Z4) (x41:(Z4×Bool)) (k_next_28:(Sl Z2)->Nat->Option (Sl Z2)) (s5_51:(Sl Z2)):Option (Sl Z2):=(Z112 x38.FArgs x41.1.FArgs (Z2.mk (0:Int) a0.FName x38.FName ([]:Bs) ([]:Bs) ([]:Bs)) ((7:Int),(8:Int),(9:Int),(10:Int))).bind fun x52=>(appC 88 s5_51 x52).bind fun x53=>Z110_j35 s6_30 k_next_28 x53
def Z110_l28 (a0:TDef) (a1:TDef) :Nat->(Sl Z2)->Nat->Option (Sl Z2)
 | 0,_,_=>none
 | n28+1,s5_29,s6_30=>bif (decide (((s6_30:Nat):Int)<((a0.FFields.l.length:Nat):Int))) then((a0.FFields.l[s6_30]?).bind fun x38=>(Z78 a1 x38.FName).bind fun x41=>bif (!x41.2) then((Z59 x38.FType).bind fun x47=>(appC 88 s5_29 (⟨false,[(Z2.mk (4:Int) ((Z2.mk (0:Int) a0.FName x38.FName ([]:Bs) ([]:Bs) ([]:Bs)).FType) ((Z2.mk (0:Int) a0.FName x38.FName ([]:Bs) ([]:Bs) ([]:Bs)).FField) ((Z2.mk (0:Int) a0.FName x38.FName ([]:Bs) ([]:Bs) ([]:Bs)).FArg) x47 ((Z2.mk (0:Int) a0.FName x38.FName ([]:Bs) ([]:Bs) ([]:Bs)).FTo))]⟩:Sl Z2)).bind fun x49=>Z110_j35 s6_30 ((Z110_l28 a0 a1 n28)) x49) else((Z61 x38.FType x41.1.FType).bind fun x55=>bif (!x55) then((Z59 x38.FType).bind fun x57=>(Z59 x41.1.FType).bind fun x58=>(appC 88 s5_29 (⟨false,[(Z2.mk (6:Int) a0.FName x38.FName ([]:Bs) x57 x58)]⟩:Sl Z2)).bind fun x59=>Z110_j50 a0 s6_30 x38 x41 ((Z110_l28 a0 a1 n28)) x59) else(Z110_j50 a0 s6_30 x38 x41 ((Z110_l28 a0 a1 n28)) s5_29))) else(Z110_j3 a0 a1  s5_29)
def Z110 (a0:TDef) (a1:TDef):Option (Sl Z2):=Z110_l28 a0 a1 (a0.FFields.l.length+1) (Sl.nil:Sl Z2) 0
theorem Z110_walk {a0 a1:TDef}{r:Sl Z2}(hE:Z110 a0 a1=some r) (H:Heap) :ACalls Tryz.prog 34 [.agg (TDef.c a0),.agg (TDef.c a1)] H fun v h'=>v=.a (.d (Sl.d 6 Z2.c none r))/\h'=H:=by
 unfold Z110 at hE;refine ACalls.oW 118 [.tmp 4] Tryz.call34 Tryz.func34 ?_;refine AWp.tok 6 fun tk1 htk1=>?_;refine seqR (S BX (S BX ?_));refine s0 (assignNil (k':=6) rfl) rfl ?_;refine nil ?_;refine seqR (S As (nil ?_));refine AWp.nilTok 5 6 tk1 rfl hpG ?_;refine seqJH (TA 2 (TA 3 KeepsT.nil)) (fun(z:(Sl Z2))=>[(5,.a (.d (Sl.d 6 Z2.c (some tk1) z)))]) (fun z=>(H.set tk1 (some (.tok 6 z.l.length)))) (fun z=>Z110_j3 a0 a1 z=some r) ?_ ?_
 ·intro K3 hK3;refine seqR (S As (nil ?_));refine block ?_;refine loopH (TA 2 (TA 3 KeepsT.nil)) (fun(z:Nat×(Sl Z2)×Nat)=>[(5,.a (.d (Sl.d 6 Z2.c (some tk1) z.2.1))),(6,.a (.d (.int .i64 ((z.2.2:Nat):Int))))]) (fun z=>(H.set tk1 (some (.tok 6 z.2.1.l.length)))) (fun z=>z.1) (fun z=>Z110_l28 a0 a1 z.1 z.2.1 z.2.2=some r) ((a0.FFields.l.length+1),(Sl.nil:Sl Z2),0) hE Weak.toA ?_;rintro ⟨n28,s5_29,s6_30⟩ hE K28 hK28
  try dsimp only at hE
  cases n28 with
  | zero=>cases hE
  | succ n28 =>
    rw [Z110_l28] at hE;refine seqK fun K31 hK31=>?_;refine seqR (S Mv (S Fv (S Ld ?_)));refine sLen (f:=Z4.c) (s:=a0.FFields) (TK rfl) rfl rfl rfl rfl fun hL33=>?_;refine S BI (nil ?_);refine cE hE (fun hc34 hE=>?_) (fun hc34 hE=>?_)
    ·try dsimp only at hc34
     have hf34:=of_decide_eq_true hc34;refine sk hK31 ?_;clear hK31 K31;refine seqJH (TA 2 (TA 3 (TA 6 KeepsT.nil))) (fun(z:(Sl Z2))=>[(5,.a (.d (Sl.d 6 Z2.c (some tk1) z)))]) (fun z=>(H.set tk1 (some (.tok 6 z.l.length)))) (fun z=>Z110_j35 s6_30 ((Z110_l28 a0 a1 n28)) z=some r) ?_ ?_
     ·intro K35 hK35;refine block ?_;refine seqR (S Fv (S Ld (S Mv ?_)));obtain⟨x38,gx38,hE⟩:=bO hE;refine S (ix Z4.c s6_30 gx38) (S Ld ?_);refine Sl ?_;refine Sf ?_;refine nil ?_;refine freezeA 7 _ rfl (KA 2 (KA 3 (KA 5 (KA 6 Keeps.nil)))) ?_;refine seqR (S Fv (S Ld (S Fv (S Ld (S BU ?_)))));refine Sl ?_;refine Sf ?_;refine nil ?_;refine seqR (S Ld (S Fv (S Ld ?_)));obtain⟨x41,gx41,hE⟩:=bO hE;refine Sc rfl rfl (Z78_walk gx41) ?_
      refine S Mv (S EX (S EX ?_));refine Sl ?_;refine Sf ?_;refine S As (nil ?_);refine freezeA 9 _ rfl (KA 2 (KA 3 (KA 5 (KA 6 (KA 7 (KA 8 (KA 10 Keeps.nil))))))) ?_;refine seqK fun K42 hK42=>?_;refine seqR (S Mv (S NB (nil ?_)));refine cE hE (fun hc44 hE=>?_) (fun hc44 hE=>?_)
      ·refine seqR (S FL ?_);refine Sf ?_;refine nil ?_;refine seqR (S Fv (S Ld ?_));obtain⟨x47,gx47,hE⟩:=bO hE;refine Sc rfl rfl (Z59_walk gx47) ?_;refine S FL ?_;refine Sf ?_;refine nil ?_;refine seqR (S Mv (S LL (S BV ?_)));obtain⟨x49,gx49,hE⟩:=bO hE;refine SH (am Z2.c (TK rfl) rfl (TK rfl) (TK rfl) gx49) ?_;refine hq (H.set tk1 (some (.tok 6 x49.l.length))) ?_;refine S As (nil ?_);refine AWp.exit ?_
       exact hK35 _ x49 Weak.toA hE
      refine sk hK42 ?_;clear hK42 K42;refine seqJH (TA 2 (TA 3 (TA 6 (TA 7 (TA 8 (TA 9 KeepsT.nil)))))) (fun(z:(Sl Z2))=>[(5,.a (.d (Sl.d 6 Z2.c (some tk1) z)))]) (fun z=>(H.set tk1 (some (.tok 6 z.l.length)))) (fun z=>Z110_j50 a0 s6_30 x38 x41 ((Z110_l28 a0 a1 n28)) z=some r) ?_ ?_
      ·intro K50 hK50;refine seqR (S Fv (S Ld (S Fv (S Ld ?_))));obtain⟨x55,gx55,hE⟩:=bO hE;refine Sc rfl rfl (Z61_walk gx55) ?_;refine S NB (nil ?_);refine cE hE (fun hc56 hE=>?_) (fun hc56 hE=>?_)
       ·refine AWp.draw rfl ?_;refine Sd Mv (Sd Fv (Sd Ld (Sd Fv (Sd Ld (Sd Fv (Sd Ld ?_))))));obtain⟨x57,gx57,hE⟩:=bO hE;refine Scd rfl rfl (Z59_walk gx57) ?_;refine Sd Fv (Sd Ld ?_);obtain⟨x58,gx58,hE⟩:=bO hE;refine Scd rfl rfl (Z59_walk gx58) ?_;refine Sd BU (Sd BV ?_);obtain⟨x59,gx59,hE⟩:=bO hE;refine DOps.sH (appM (f:=Z2.c) (TK rfl) rfl (TK rfl) (TK rfl) ⟨_,rfl⟩ rfl rfl (by decide) rfl rfl rfl rfl hpG rfl gx59) rfl ?_
        refine DOps.Dh (H.set tk1 (some (.tok 6 x59.l.length))) ?_;refine Sd As ?_;refine DOps.nil (by decide +kernel) ?_;exact hK50 _ x59 Weak.toA hE
       refine AWp.skip ?_;exact hK50 _ s5_29 Weak.toA hE
      rintro s5_51 hE;try dsimp only at hE
      unfold Z110_j50 at hE;refine region ?_;refine S Mv (S Fv (S Ld (S Fv (S Ld (S LL ?_)))));refine s0 (buildArr Tryz.tab_ok Tryz.underlying143 rfl rfl rfl rfl rfl) rfl ?_;obtain⟨x52,gx52,hE⟩:=bO hE;refine Sc rfl rfl (Z112_walk gx52) ?_;obtain⟨x53,gx53,hE⟩:=bO hE;refine SH (am Z2.c (TK rfl) rfl (TK rfl) (TK rfl) gx53) ?_;refine hq (H.set tk1 (some (.tok 6 x53.l.length))) ?_;refine S As (nil ?_);exact hK35 _ x53 Weak.toA hE
     rintro s5_36 hE;try dsimp only at hE
     unfold Z110_j35 at hE;refine region ?_;refine S Mv ?_;refine SI ?_;refine S As (nil ?_);exact hK28 _ (n28,s5_36,(s6_30+1)) Weak.toA hE (Nat.lt_succ_self _)
    refine AWp.exit ?_;exact hK3 _ s5_29 Weak.toA hE
 rintro s5_4 hE;try dsimp only at hE
 unfold Z110_j3 at hE;refine seqJH KeepsT.nil (fun(z:(Sl Z2))=>[(5,.a (.d (Sl.d 6 Z2.c (some tk1) z)))]) (fun z=>(H.set tk1 (some (.tok 6 z.l.length)))) (fun z=>Z110_j5 z=some r) ?_ ?_
 ·intro K5 hK5;refine seqR (S As (nil ?_));refine block ?_;refine loopH (TA 2 (TA 3 KeepsT.nil)) (fun(z:Nat×(Sl Z2)×Nat)=>[(5,.a (.d (Sl.d 6 Z2.c (some tk1) z.2.1))),(11,.a (.d (.int .i64 ((z.2.2:Nat):Int))))]) (fun z=>(H.set tk1 (some (.tok 6 z.2.1.l.length)))) (fun z=>z.1) (fun z=>Z110_l9 a0 a1 z.1 z.2.1 z.2.2=some r) ((a1.FFields.l.length+1),s5_4,0) hE Weak.toA ?_;rintro ⟨n9,s5_10,s11_11⟩ hE K9 hK9
  try dsimp only at hE
  cases n9 with
  | zero=>cases hE
  | succ n9 =>
    rw [Z110_l9] at hE;refine seqK fun K12 hK12=>?_;refine seqR (S Mv (S Fv (S Ld ?_)));refine sLen (f:=Z4.c) (s:=a1.FFields) (TK rfl) rfl rfl rfl rfl fun hL14=>?_;refine S BI (nil ?_);refine cE hE (fun hc15 hE=>?_) (fun hc15 hE=>?_)
    ·try dsimp only at hc15
     have hf15:=of_decide_eq_true hc15;refine sk hK12 ?_;clear hK12 K12;refine seqJH (TA 2 (TA 3 (TA 11 KeepsT.nil))) (fun(z:(Sl Z2))=>[(5,.a (.d (Sl.d 6 Z2.c (some tk1) z)))]) (fun z=>(H.set tk1 (some (.tok 6 z.l.length)))) (fun z=>Z110_j16 s11_11 ((Z110_l9 a0 a1 n9)) z=some r) ?_ ?_
     ·intro K16 hK16;refine block ?_;refine AWp.seqD (Sd Ld (Sd Fv (Sd Ld (Sd Mv ?_))));obtain⟨x19,gx19,hE⟩:=bO hE;refine Sd (ix Z4.c s11_11 gx19) (Sd Fv (Sd Ld ?_));obtain⟨x20,gx20,hE⟩:=bO hE;refine Scd rfl rfl (Z78_walk gx20) ?_;refine Sd Mv (Sd EX (Sd EX ?_));refine DOps.sB (TK rfl) rfl rfl ?_ (by repeat (first|exact Snoc.nil|apply Snoc.cons));refine DOps.sLn (storeLFA (TK rfl) rfl rfl rfl rfl rfl) ?_
      refine Sd As ?_;refine DOps.nil (by decide +kernel) ?_;refine freezeA 12 _ rfl (KA 2 (KA 3 (KA 5 (KA 11 (KA 13 Keeps.nil))))) ?_;refine seqR (S Mv (S NB (nil ?_)));refine cE hE (fun hc22 hE=>?_) (fun hc22 hE=>?_)
      ·refine AWp.draw rfl ?_;refine Sd Mv (Sd Fv (Sd Ld (Sd Fv (Sd Ld (Sd Mv ?_)))));obtain⟨x23,gx23,hE⟩:=bO hE;refine Sd (ix Z4.c s11_11 gx23) (Sd Fv (Sd Ld (Sd Fv (Sd Ld (Sd Mv ?_)))));obtain⟨x24,gx24,hE⟩:=bO hE;refine Sd (ix Z4.c s11_11 gx24) (Sd Fv (Sd Ld ?_));obtain⟨x25,gx25,hE⟩:=bO hE;refine Scd rfl rfl (Z59_walk gx25) ?_;refine Sd BU (Sd BV ?_);obtain⟨x26,gx26,hE⟩:=bO hE;refine DOps.sH (appM (f:=Z2.c) (TK rfl) rfl (TK rfl) (TK rfl) ⟨_,rfl⟩ rfl rfl (by decide) rfl rfl rfl rfl hpG rfl gx26) rfl ?_
       refine DOps.Dh (H.set tk1 (some (.tok 6 x26.l.length))) ?_;refine Sd As ?_;refine DOps.nil (by decide +kernel) ?_;exact hK16 _ x26 Weak.toA hE
      refine AWp.skip ?_;exact hK16 _ s5_10 Weak.toA hE
     rintro s5_17 hE;try dsimp only at hE
     unfold Z110_j16 at hE;refine region ?_;refine S Mv ?_;refine SI ?_;refine S As (nil ?_);exact hK9 _ (n9,s5_17,(s11_11+1)) Weak.toA hE (Nat.lt_succ_self _)
    refine AWp.exit ?_;exact hK5 _ s5_10 Weak.toA hE
 rintro s5_6 hE;try dsimp only at hE
 unfold Z110_j5 at hE;refine seqR (S Mv (S As (nil ?_)));refine AWp.dropTok 4 rfl ?_;refine AWp.ret ?_;repeat (first|refine xBlock_ret ?_|refine xThen_ret ?_)
 obtain rfl:=Option.some.inj hE;refine retQ.retF H rfl ⟨rfl,rfl⟩ ?_
 first|exact Heap.sub_set htk1|(simp only [Heap.set_set]; exact Heap.sub_set htk1)
def Z113_j2  :Option Bool:=some false
def Z113_l5 (a0:(Sl Z6)) (a1:Bs) :Nat->Nat->Option Bool
 | 0,_=>none
 | n5+1,s5_6=>bif (decide (((s5_6:Nat):Int)<((a0.l.length:Nat):Int))) then((a0.l[s5_6]?).bind fun x13=>bif ((x13.FName==a1)) then(some true) else((Z113_l5 a0 a1 n5) (s5_6+1))) else(Z113_j2   )
def Z113 (a0:(Sl Z6)) (a1:Bs):Option Bool:=Z113_l5 a0 a1 (a0.l.length+1) 0
theorem Z113_walk {a0:Sl Z6}{a1:Bs}{w0:Option Nat}{r:Bool}(hE:Z113 a0 a1=some r) (H:Heap) :ACalls Tryz.prog 80 [.d (Sl.d 2 Z6.c w0 a0),.d (.str a1)] H fun v h'=>v=.a (.d (.bool r))/\h'=H:=by
 unfold Z113 at hE;refine ACalls.oW 19 [.tmp 4] Tryz.call80 Tryz.func80 ?_;refine seqR (S As (nil ?_));refine seqJH KeepsT.nil (fun(z:Unit)=>[]) (fun z=>H) (fun z=>Z113_j2 =some r) ?_ ?_
 ·intro K2 hK2;refine seqR (S As (nil ?_));refine block ?_;refine loopH (TA 0 (TA 1 KeepsT.nil)) (fun(z:Nat×Nat)=>[(5,.a (.d (.int .i64 ((z.2:Nat):Int))))]) (fun z=>H) (fun z=>z.1) (fun z=>Z113_l5 a0 a1 z.1 z.2=some r) ((a0.l.length+1),0) hE Weak.toA ?_;rintro ⟨n5,s5_6⟩ hE K5 hK5;try dsimp only at hE
  cases n5 with
  | zero=>cases hE
  | succ n5 =>
    rw [Z113_l5] at hE;refine seqK fun K7 hK7=>?_;refine seqR (S Mv (S Mv ?_));refine sLen (f:=Z6.c) (s:=a0) (TK rfl) rfl rfl rfl rfl fun hL9=>?_;refine S BI (nil ?_);refine cE hE (fun hc10 hE=>?_) (fun hc10 hE=>?_)
    ·try dsimp only at hc10
     have hf10:=of_decide_eq_true hc10;refine sk hK7 ?_;clear hK7 K7;refine seqK fun K11 hK11=>?_;refine block ?_;refine seqR (S Mv (S Mv ?_));obtain⟨x13,gx13,hE⟩:=bO hE;refine S (ix Z6.c s5_6 gx13) (S Fv (S Ld (S Mv (S BS (nil ?_)))));refine cE hE (fun hc14 hE=>?_) (fun hc14 hE=>?_)
     ·refine seqR (S As (nil ?_));exact rt hE
     refine sk hK11 ?_;clear hK11 K11;refine region ?_;refine S Mv ?_;refine SI ?_;refine S As (nil ?_);exact hK5 _ (n5,(s5_6+1)) Weak.toA hE (Nat.lt_succ_self _)
    refine AWp.exit ?_;exact hK2 _ () Weak.toA hE
 rintro _ hE;try dsimp only at hE
 unfold Z113_j2 at hE;refine seqR (S As (nil ?_));exact rt hE
def Z111_j2  :Option Bool:=some false
def Z111_l5 (a0:(Sl Bs)) (a1:Bs) :Nat->Nat->Option Bool
 | 0,_=>none
 | n5+1,s5_6=>bif (decide (((s5_6:Nat):Int)<((a0.l.length:Nat):Int))) then((a0.l[s5_6]?).bind fun x13=>bif ((x13==a1)) then(some true) else((Z111_l5 a0 a1 n5) (s5_6+1))) else(Z111_j2   )
def Z111 (a0:(Sl Bs)) (a1:Bs):Option Bool:=Z111_l5 a0 a1 (a0.l.length+1) 0
theorem Z111_walk {a0:Sl Bs}{a1:Bs}{w0:Option Nat}{r:Bool}(hE:Z111 a0 a1=some r) (H:Heap) :ACalls Tryz.prog 81 [.d (Sl.d 1 strE w0 a0),.d (.str a1)] H fun v h'=>v=.a (.d (.bool r))/\h'=H:=by
 unfold Z111 at hE;refine ACalls.oW 18 [.tmp 4] Tryz.call81 Tryz.func81 ?_;refine seqR (S As (nil ?_));refine seqJH KeepsT.nil (fun(z:Unit)=>[]) (fun z=>H) (fun z=>Z111_j2 =some r) ?_ ?_
 ·intro K2 hK2;refine seqR (S As (nil ?_));refine block ?_;refine loopH (TA 0 (TA 1 KeepsT.nil)) (fun(z:Nat×Nat)=>[(5,.a (.d (.int .i64 ((z.2:Nat):Int))))]) (fun z=>H) (fun z=>z.1) (fun z=>Z111_l5 a0 a1 z.1 z.2=some r) ((a0.l.length+1),0) hE Weak.toA ?_;rintro ⟨n5,s5_6⟩ hE K5 hK5;try dsimp only at hE
  cases n5 with
  | zero=>cases hE
  | succ n5 =>
    rw [Z111_l5] at hE;refine seqK fun K7 hK7=>?_;refine seqR (S Mv (S Mv ?_));refine sLen (f:=strE) (s:=a0) (TK rfl) rfl rfl rfl rfl fun hL9=>?_;refine S BI (nil ?_);refine cE hE (fun hc10 hE=>?_) (fun hc10 hE=>?_)
    ·try dsimp only at hc10
     have hf10:=of_decide_eq_true hc10;refine sk hK7 ?_;clear hK7 K7;refine seqK fun K11 hK11=>?_;refine block ?_;refine seqR (S Mv (S Mv ?_));obtain⟨x13,gx13,hE⟩:=bO hE;refine S (ix strE s5_6 gx13) (S Ld (S Mv (S BS (nil ?_))));refine cE hE (fun hc14 hE=>?_) (fun hc14 hE=>?_)
     ·refine seqR (S As (nil ?_));exact rt hE
     refine sk hK11 ?_;clear hK11 K11;refine region ?_;refine S Mv ?_;refine SI ?_;refine S As (nil ?_);exact hK5 _ (n5,(s5_6+1)) Weak.toA hE (Nat.lt_succ_self _)
    refine AWp.exit ?_;exact hK2 _ () Weak.toA hE
 rintro _ hE;try dsimp only at hE
 unfold Z111_j2 at hE;refine seqR (S As (nil ?_));exact rt hE
end Go.Proofs

namespace Go.Proofs
open Go Go.Ab
open AOps Cert AWp Keeps KeepsT
variable {lou:Lou}
def Z114_j12  (s5_13:(Sl Z2)):Option (Sl Z2):=some s5_13
def Z114_j23 (s9_18:Nat) (k_next_16:(Sl Z2)->Nat->Option (Sl Z2)) (s5_24:(Sl Z2)):Option (Sl Z2):=k_next_16 s5_24 (s9_18+1)
def Z114_l16 (a0:TDef) (a1:TDef) :Nat->(Sl Z2)->Nat->Option (Sl Z2)
 | 0,_,_=>none
 | n16+1,s5_17,s9_18=>bif (decide (((s9_18:Nat):Int)<((a1.FImplements.l.length:Nat):Int))) then((a1.FImplements.l[s9_18]?).bind fun x26=>(Z111 a0.FImplements x26).bind fun x27=>bif (!x27) then((a1.FImplements.l[s9_18]?).bind fun x29=>(appC 88 s5_17 (⟨false,[(Z2.mk (18:Int) a0.FName ([]:Bs) ([]:Bs) ([]:Bs) x29)]⟩:Sl Z2)).bind fun x30=>Z114_j23 s9_18 ((Z114_l16 a0 a1 n16)) x30) else(Z114_j23 s9_18 ((Z114_l16 a0 a1 n16)) s5_17)) else(Z114_j12   s5_17)
def Z114_j10 (a0:TDef) (a1:TDef)  (s5_11:(Sl Z2)):Option (Sl Z2):=Z114_l16 a0 a1 (a1.FImplements.l.length+1) s5_11 0
def Z114_j39 (s8_34:Nat) (k_next_32:(Sl Z2)->Nat->Option (Sl Z2)) (s5_40:(Sl Z2)):Option (Sl Z2):=k_next_32 s5_40 (s8_34+1)
def Z114_l32 (a0:TDef) (a1:TDef) :Nat->(Sl Z2)->Nat->Option (Sl Z2)
 | 0,_,_=>none
 | n32+1,s5_33,s8_34=>bif (decide (((s8_34:Nat):Int)<((a0.FImplements.l.length:Nat):Int))) then((a0.FImplements.l[s8_34]?).bind fun x42=>(Z111 a1.FImplements x42).bind fun x43=>bif (!x43) then((a0.FImplements.l[s8_34]?).bind fun x45=>(appC 88 s5_33 (⟨false,[(Z2.mk (17:Int) a0.FName ([]:Bs) ([]:Bs) x45 ([]:Bs))]⟩:Sl Z2)).bind fun x46=>Z114_j39 s8_34 ((Z114_l32 a0 a1 n32)) x46) else(Z114_j39 s8_34 ((Z114_l32 a0 a1 n32)) s5_33)) else(Z114_j10 a0 a1  s5_33)
def Z114_j5 (a0:TDef) (a1:TDef)  (s5_6:(Sl Z2)):Option (Sl Z2):=(Z112 a0.FInputs a1.FInputs (Z2.mk (0:Int) a0.FName ([]:Bs) ([]:Bs) ([]:Bs) ([]:Bs)) ((13:Int),(14:Int),(15:Int),(16:Int))).bind fun x8=>(appC 88 s5_6 x8).bind fun x9=>Z114_l32 a0 a1 (a0.FImplements.l.length+1) x9 0
def Z114_j55 (s7_50:Nat) (k_next_48:(Sl Z2)->Nat->Option (Sl Z2)) (s5_56:(Sl Z2)):Option (Sl Z2):=k_next_48 s5_56 (s7_50+1)
def Z114_l48 (a0:TDef) (a1:TDef) :Nat->(Sl Z2)->Nat->Option (Sl Z2)
 | 0,_,_=>none
 | n48+1,s5_49,s7_50=>bif (decide (((s7_50:Nat):Int)<((a1.FMembers.l.length:Nat):Int))) then((a1.FMembers.l[s7_50]?).bind fun x58=>(Z113 a0.FMembers x58.FName).bind fun x59=>bif (!x59) then((a1.FMembers.l[s7_50]?).bind fun x61=>(appC 88 s5_49 (⟨false,[(Z2.mk (12:Int) a0.FName x61.FName ([]:Bs) ([]:Bs) ([]:Bs))]⟩:Sl Z2)).bind fun x62=>Z114_j55 s7_50 ((Z114_l48 a0 a1 n48)) x62) else(Z114_j55 s7_50 ((Z114_l48 a0 a1 n48)) s5_49)) else(Z114_j5 a0 a1  s5_49)
def Z114_j3 (a0:TDef) (a1:TDef)  (s5_4:(Sl Z2)):Option (Sl Z2):=Z114_l48 a0 a1 (a1.FMembers.l.length+1) s5_4 0
def Z114_j71 (s6_66:Nat) (k_next_64:(Sl Z2)->Nat->Option (Sl Z2)) (s5_72:(Sl Z2)):Option (Sl Z2):=k_next_64 s5_72 (s6_66+1)
def Z114_l64 (a0:TDef) (a1:TDef) :Nat->(Sl Z2)->Nat->Option (Sl Z2)
 | 0,_,_=>none
 | n64+1,s5_65,s6_66=>bif (decide (((s6_66:Nat):Int)<((a0.FMembers.l.length:Nat):Int))) then((a0.FMembers.l[s6_66]?).bind fun x74=>(Z113 a1.FMembers x74.FName).bind fun x75=>bif (!x75) then((a0.FMembers.l[s6_66]?).bind fun x77=>(appC 88 s5_65 (⟨false,[(Z2.mk (11:Int) a0.FName x77.FName ([]:Bs) ([]:Bs) ([]:Bs))]⟩:Sl Z2)).bind fun x78=>Z114_j71 s6_66 ((Z114_l64 a0 a1 n64)) x78) else(Z114_j71 s6_66 ((Z114_l64 a0 a1 n64)) s5_65)) else(Z114_j3 a0 a1  s5_65)
def Z114 (a0:TDef) (a1:TDef):Option (Sl Z2):=Z114_l64 a0 a1 (a0.FMembers.l.length+1) (Sl.nil:Sl Z2) 0
theorem Z114_walk {a0 a1:TDef}{r:Sl Z2}(hE:Z114 a0 a1=some r) (H:Heap) :ACalls Tryz.prog 35 [.agg (TDef.c a0),.agg (TDef.c a1)] H fun v h'=>v=.a (.d (Sl.d 6 Z2.c none r))/\h'=H:=by
 unfold Z114 at hE;refine ACalls.oW 134 [.tmp 4] Tryz.call35 Tryz.func35 ?_;refine AWp.tok 6 fun tk1 htk1=>?_;refine seqR (S BX (S BX ?_));refine s0 (assignNil (k':=6) rfl) rfl ?_;refine nil ?_;refine seqR (S As (nil ?_));refine AWp.nilTok 5 6 tk1 rfl hpG ?_;refine seqJH (TA 2 (TA 3 KeepsT.nil)) (fun(z:(Sl Z2))=>[(5,.a (.d (Sl.d 6 Z2.c (some tk1) z)))]) (fun z=>(H.set tk1 (some (.tok 6 z.l.length)))) (fun z=>Z114_j3 a0 a1 z=some r) ?_ ?_
 ·intro K3 hK3;refine seqR (S As (nil ?_));refine block ?_;refine loopH (TA 2 (TA 3 KeepsT.nil)) (fun(z:Nat×(Sl Z2)×Nat)=>[(5,.a (.d (Sl.d 6 Z2.c (some tk1) z.2.1))),(6,.a (.d (.int .i64 ((z.2.2:Nat):Int))))]) (fun z=>(H.set tk1 (some (.tok 6 z.2.1.l.length)))) (fun z=>z.1) (fun z=>Z114_l64 a0 a1 z.1 z.2.1 z.2.2=some r) ((a0.FMembers.l.length+1),(Sl.nil:Sl Z2),0) hE Weak.toA ?_;rintro ⟨n64,s5_65,s6_66⟩ hE K64 hK64
  try dsimp only at hE
  cases n64 with
  | zero=>cases hE
  | succ n64 =>
    rw [Z114_l64] at hE;refine seqK fun K67 hK67=>?_;refine seqR (S Mv (S Fv (S Ld ?_)));refine sLen (f:=Z6.c) (s:=a0.FMembers) (TK rfl) rfl rfl rfl rfl fun hL69=>?_;refine S BI (nil ?_);refine cE hE (fun hc70 hE=>?_) (fun hc70 hE=>?_)
    ·try dsimp only at hc70
     have hf70:=of_decide_eq_true hc70;refine sk hK67 ?_;clear hK67 K67;refine seqJH (TA 2 (TA 3 (TA 6 KeepsT.nil))) (fun(z:(Sl Z2))=>[(5,.a (.d (Sl.d 6 Z2.c (some tk1) z)))]) (fun z=>(H.set tk1 (some (.tok 6 z.l.length)))) (fun z=>Z114_j71 s6_66 ((Z114_l64 a0 a1 n64)) z=some r) ?_ ?_
     ·intro K71 hK71;refine block ?_;refine AWp.seqD (Sd Fv (Sd Ld (Sd Fv (Sd Ld (Sd Mv ?_)))));obtain⟨x74,gx74,hE⟩:=bO hE;refine Sd (ix Z6.c s6_66 gx74) (Sd Fv (Sd Ld ?_));obtain⟨x75,gx75,hE⟩:=bO hE;refine Scd rfl rfl (Z113_walk gx75) ?_;refine Sd NB ?_;refine DOps.nil (by decide +kernel) ?_;refine cE hE (fun hc76 hE=>?_) (fun hc76 hE=>?_)
      ·refine AWp.draw rfl ?_;refine Sd Mv (Sd Fv (Sd Ld (Sd Fv (Sd Ld (Sd Mv ?_)))));obtain⟨x77,gx77,hE⟩:=bO hE;refine Sd (ix Z6.c s6_66 gx77) (Sd Fv (Sd Ld (Sd BU (Sd BV ?_))));obtain⟨x78,gx78,hE⟩:=bO hE;refine DOps.sH (appM (f:=Z2.c) (TK rfl) rfl (TK rfl) (TK rfl) ⟨_,rfl⟩ rfl rfl (by decide) rfl rfl rfl rfl hpG rfl gx78) rfl ?_;refine DOps.Dh (H.set tk1 (some (.tok 6 x78.l.length))) ?_;refine Sd As ?_
       refine DOps.nil (by decide +kernel) ?_;exact hK71 _ x78 Weak.toA hE
      refine AWp.skip ?_;exact hK71 _ s5_65 Weak.toA hE
     rintro s5_72 hE;try dsimp only at hE
     unfold Z114_j71 at hE;refine region ?_;refine S Mv ?_;refine SI ?_;refine S As (nil ?_);exact hK64 _ (n64,s5_72,(s6_66+1)) Weak.toA hE (Nat.lt_succ_self _)
    refine AWp.exit ?_;exact hK3 _ s5_65 Weak.toA hE
 rintro s5_4 hE;try dsimp only at hE
 unfold Z114_j3 at hE;refine seqJH (TA 2 (TA 3 KeepsT.nil)) (fun(z:(Sl Z2))=>[(5,.a (.d (Sl.d 6 Z2.c (some tk1) z)))]) (fun z=>(H.set tk1 (some (.tok 6 z.l.length)))) (fun z=>Z114_j5 a0 a1 z=some r) ?_ ?_
 ·intro K5 hK5;refine seqR (S As (nil ?_));refine block ?_;refine loopH (TA 2 (TA 3 KeepsT.nil)) (fun(z:Nat×(Sl Z2)×Nat)=>[(5,.a (.d (Sl.d 6 Z2.c (some tk1) z.2.1))),(7,.a (.d (.int .i64 ((z.2.2:Nat):Int))))]) (fun z=>(H.set tk1 (some (.tok 6 z.2.1.l.length)))) (fun z=>z.1) (fun z=>Z114_l48 a0 a1 z.1 z.2.1 z.2.2=some r) ((a1.FMembers.l.length+1),s5_4,0) hE Weak.toA ?_;rintro ⟨n48,s5_49,s7_50⟩ hE K48 hK48
  try dsimp only at hE
  cases n48 with
  | zero=>cases hE
  | succ n48 =>
    rw [Z114_l48] at hE;refine seqK fun K51 hK51=>?_;refine seqR (S Mv (S Fv (S Ld ?_)));refine sLen (f:=Z6.c) (s:=a1.FMembers) (TK rfl) rfl rfl rfl rfl fun hL53=>?_;refine S BI (nil ?_);refine cE hE (fun hc54 hE=>?_) (fun hc54 hE=>?_)
    ·try dsimp only at hc54
     have hf54:=of_decide_eq_true hc54;refine sk hK51 ?_;clear hK51 K51;refine seqJH (TA 2 (TA 3 (TA 7 KeepsT.nil))) (fun(z:(Sl Z2))=>[(5,.a (.d (Sl.d 6 Z2.c (some tk1) z)))]) (fun z=>(H.set tk1 (some (.tok 6 z.l.length)))) (fun z=>Z114_j55 s7_50 ((Z114_l48 a0 a1 n48)) z=some r) ?_ ?_
     ·intro K55 hK55;refine block ?_;refine AWp.seqD (Sd Fv (Sd Ld (Sd Fv (Sd Ld (Sd Mv ?_)))));obtain⟨x58,gx58,hE⟩:=bO hE;refine Sd (ix Z6.c s7_50 gx58) (Sd Fv (Sd Ld ?_));obtain⟨x59,gx59,hE⟩:=bO hE;refine Scd rfl rfl (Z113_walk gx59) ?_;refine Sd NB ?_;refine DOps.nil (by decide +kernel) ?_;refine cE hE (fun hc60 hE=>?_) (fun hc60 hE=>?_)
      ·refine AWp.draw rfl ?_;refine Sd Mv (Sd Fv (Sd Ld (Sd Fv (Sd Ld (Sd Mv ?_)))));obtain⟨x61,gx61,hE⟩:=bO hE;refine Sd (ix Z6.c s7_50 gx61) (Sd Fv (Sd Ld (Sd BU (Sd BV ?_))));obtain⟨x62,gx62,hE⟩:=bO hE;refine DOps.sH (appM (f:=Z2.c) (TK rfl) rfl (TK rfl) (TK rfl) ⟨_,rfl⟩ rfl rfl (by decide) rfl rfl rfl rfl hpG rfl gx62) rfl ?_;refine DOps.Dh (H.set tk1 (some (.tok 6 x62.l.length))) ?_;refine Sd As ?_
       refine DOps.nil (by decide +kernel) ?_;exact hK55 _ x62 Weak.toA hE
      refine AWp.skip ?_;exact hK55 _ s5_49 Weak.toA hE
     rintro s5_56 hE;try dsimp only at hE
     unfold Z114_j55 at hE;refine region ?_;refine S Mv ?_;refine SI ?_;refine S As (nil ?_);exact hK48 _ (n48,s5_56,(s7_50+1)) Weak.toA hE (Nat.lt_succ_self _)
    refine AWp.exit ?_;exact hK5 _ s5_49 Weak.toA hE
 rintro s5_6 hE;try dsimp only at hE
 unfold Z114_j5 at hE;refine seqR (S Mv (S Fv (S Ld (S Fv (S Ld (S Fv (S Ld (S BU ?_))))))));refine s0 (buildArr Tryz.tab_ok Tryz.underlying143 rfl rfl rfl rfl rfl) rfl ?_;obtain⟨x8,gx8,hE⟩:=bO hE;refine Sc rfl rfl (Z112_walk gx8) ?_;obtain⟨x9,gx9,hE⟩:=bO hE;refine SH (am Z2.c (TK rfl) rfl (TK rfl) (TK rfl) gx9) ?_;refine hq (H.set tk1 (some (.tok 6 x9.l.length))) ?_;refine S As (nil ?_);refine seqJH (TA 2 (TA 3 KeepsT.nil)) (fun(z:(Sl Z2))=>[(5,.a (.d (Sl.d 6 Z2.c (some tk1) z)))]) (fun z=>(H.set tk1 (some (.tok 6 z.l.length)))) (fun z=>Z114_j10 a0 a1 z=some r) ?_ ?_
 ·intro K10 hK10;refine seqR (S As (nil ?_));refine block ?_;refine loopH (TA 2 (TA 3 KeepsT.nil)) (fun(z:Nat×(Sl Z2)×Nat)=>[(5,.a (.d (Sl.d 6 Z2.c (some tk1) z.2.1))),(8,.a (.d (.int .i64 ((z.2.2:Nat):Int))))]) (fun z=>(H.set tk1 (some (.tok 6 z.2.1.l.length)))) (fun z=>z.1) (fun z=>Z114_l32 a0 a1 z.1 z.2.1 z.2.2=some r) ((a0.FImplements.l.length+1),x9,0) hE Weak.toA ?_;rintro ⟨n32,s5_33,s8_34⟩ hE K32 hK32
  try dsimp only at hE
  cases n32 with
  | zero=>cases hE
  | succ n32 =>
    rw [Z114_l32] at hE;refine seqK fun K35 hK35=>?_;refine seqR (S Mv (S Fv (S Ld ?_)));refine sLen (f:=strE) (s:=a0.FImplements) (TK rfl) rfl rfl rfl rfl fun hL37=>?_;refine S BI (nil ?_);refine cE hE (fun hc38 hE=>?_) (fun hc38 hE=>?_)
    ·try dsimp only at hc38
     have hf38:=of_decide_eq_true hc38;refine sk hK35 ?_;clear hK35 K35;refine seqJH (TA 2 (TA 3 (TA 8 KeepsT.nil))) (fun(z:(Sl Z2))=>[(5,.a (.d (Sl.d 6 Z2.c (some tk1) z)))]) (fun z=>(H.set tk1 (some (.tok 6 z.l.length)))) (fun z=>Z114_j39 s8_34 ((Z114_l32 a0 a1 n32)) z=some r) ?_ ?_
     ·intro K39 hK39;refine block ?_;refine AWp.seqD (Sd Fv (Sd Ld (Sd Fv (Sd Ld (Sd Mv ?_)))));obtain⟨x42,gx42,hE⟩:=bO hE;refine Sd (ix strE s8_34 gx42) (Sd Ld ?_);obtain⟨x43,gx43,hE⟩:=bO hE;refine Scd rfl rfl (Z111_walk gx43) ?_;refine Sd NB ?_;refine DOps.nil (by decide +kernel) ?_;refine cE hE (fun hc44 hE=>?_) (fun hc44 hE=>?_)
      ·refine AWp.draw rfl ?_;refine Sd Mv (Sd Fv (Sd Ld (Sd Fv (Sd Ld (Sd Mv ?_)))));obtain⟨x45,gx45,hE⟩:=bO hE;refine Sd (ix strE s8_34 gx45) (Sd Ld (Sd BU (Sd BV ?_)));obtain⟨x46,gx46,hE⟩:=bO hE;refine DOps.sH (appM (f:=Z2.c) (TK rfl) rfl (TK rfl) (TK rfl) ⟨_,rfl⟩ rfl rfl (by decide) rfl rfl rfl rfl hpG rfl gx46) rfl ?_;refine DOps.Dh (H.set tk1 (some (.tok 6 x46.l.length))) ?_;refine Sd As ?_;refine DOps.nil (by decide +kernel) ?_
       exact hK39 _ x46 Weak.toA hE
      refine AWp.skip ?_;exact hK39 _ s5_33 Weak.toA hE
     rintro s5_40 hE;try dsimp only at hE
     unfold Z114_j39 at hE;refine region ?_;refine S Mv ?_;refine SI ?_;refine S As (nil ?_);exact hK32 _ (n32,s5_40,(s8_34+1)) Weak.toA hE (Nat.lt_succ_self _)
    refine AWp.exit ?_;exact hK10 _ s5_33 Weak.toA hE
 rintro s5_11 hE;try dsimp only at hE
 unfold Z114_j10 at hE;refine seqJH KeepsT.nil (fun(z:(Sl Z2))=>[(5,.a (.d (Sl.d 6 Z2.c (some tk1) z)))]) (fun z=>(H.set tk1 (some (.tok 6 z.l.length)))) (fun z=>Z114_j12 z=some r) ?_ ?_
 ·intro K12 hK12;refine seqR (S As (nil ?_));refine block ?_;refine loopH (TA 2 (TA 3 KeepsT.nil)) (fun(z:Nat×(Sl Z2)×Nat)=>[(5,.a (.d (Sl.d 6 Z2.c (some tk1) z.2.1))),(9,.a (.d (.int .i64 ((z.2.2:Nat):Int))))]) (fun z=>(H.set tk1 (some (.tok 6 z.2.1.l.length)))) (fun z=>z.1) (fun z=>Z114_l16 a0 a1 z.1 z.2.1 z.2.2=some r) ((a1.FImplements.l.length+1),s5_11,0) hE Weak.toA ?_;rintro ⟨n16,s5_17,s9_18⟩ hE K16 hK16
  try dsimp only at hE
  cases n16 with
  | zero=>cases hE
  | succ n16 =>
    rw [Z114_l16] at hE;refine seqK fun K19 hK19=>?_;refine seqR (S Mv (S Fv (S Ld ?_)));refine sLen (f:=strE) (s:=a1.FImplements) (TK rfl) rfl rfl rfl rfl fun hL21=>?_;refine S BI (nil ?_);refine cE hE (fun hc22 hE=>?_) (fun hc22 hE=>?_)
    ·try dsimp only at hc22
     have hf22:=of_decide_eq_true hc22;refine sk hK19 ?_;clear hK19 K19;refine seqJH (TA 2 (TA 3 (TA 9 KeepsT.nil))) (fun(z:(Sl Z2))=>[(5,.a (.d (Sl.d 6 Z2.c (some tk1) z)))]) (fun z=>(H.set tk1 (some (.tok 6 z.l.length)))) (fun z=>Z114_j23 s9_18 ((Z114_l16 a0 a1 n16)) z=some r) ?_ ?_
     ·intro K23 hK23;refine block ?_;refine AWp.seqD (Sd Fv (Sd Ld (Sd Fv (Sd Ld (Sd Mv ?_)))));obtain⟨x26,gx26,hE⟩:=bO hE;refine Sd (ix strE s9_18 gx26) (Sd Ld ?_);obtain⟨x27,gx27,hE⟩:=bO hE;refine Scd rfl rfl (Z111_walk gx27) ?_;refine Sd NB ?_;refine DOps.nil (by decide +kernel) ?_;refine cE hE (fun hc28 hE=>?_) (fun hc28 hE=>?_)
      ·refine AWp.draw rfl ?_;refine Sd Mv (Sd Fv (Sd Ld (Sd Fv (Sd Ld (Sd Mv ?_)))));obtain⟨x29,gx29,hE⟩:=bO hE;refine Sd (ix strE s9_18 gx29) (Sd Ld (Sd BU (Sd BV ?_)));obtain⟨x30,gx30,hE⟩:=bO hE;refine DOps.sH (appM (f:=Z2.c) (TK rfl) rfl (TK rfl) (TK rfl) ⟨_,rfl⟩ rfl rfl (by decide) rfl rfl rfl rfl hpG rfl gx30) rfl ?_;refine DOps.Dh (H.set tk1 (some (.tok 6 x30.l.length))) ?_;refine Sd As ?_;refine DOps.nil (by decide +kernel) ?_
       exact hK23 _ x30 Weak.toA hE
      refine AWp.skip ?_;exact hK23 _ s5_17 Weak.toA hE
     rintro s5_24 hE;try dsimp only at hE
     unfold Z114_j23 at hE;refine region ?_;refine S Mv ?_;refine SI ?_;refine S As (nil ?_);exact hK16 _ (n16,s5_24,(s9_18+1)) Weak.toA hE (Nat.lt_succ_self _)
    refine AWp.exit ?_;exact hK12 _ s5_17 Weak.toA hE
 rintro s5_13 hE;try dsimp only at hE
 unfold Z114_j12 at hE;refine seqR (S Mv (S As (nil ?_)));refine AWp.dropTok 4 rfl ?_;refine AWp.ret ?_;repeat (first|refine xBlock_ret ?_|refine xThen_ret ?_)
 obtain rfl:=Option.some.inj hE;refine retQ.retF H rfl ⟨rfl,rfl⟩ ?_
 first|exact Heap.sub_set htk1|(simp only [Heap.set_set]; exact Heap.sub_set htk1)
def Z107_j7  (s5_8:(Sl Z2)):Option (Sl Z2):=some s5_8
def Z107_j18 (s13_13:Nat) (k_next_11:(Sl Z2)->Nat->Option (Sl Z2)) (s5_19:(Sl Z2)):Option (Sl Z2):=k_next_11 s5_19 (s13_13+1)
def Z107_l11 (a0:TDoc) (a1:TDoc) :Nat->(Sl Z2)->Nat->Option (Sl Z2)
 | 0,_,_=>none
 | n11+1,s5_12,s13_13=>bif (decide (((s13_13:Nat):Int)<((a1.FDefs.l.length:Nat):Int))) then((a1.FDefs.l[s13_13]?).bind fun x21=>(Z79 a0 x21.FName).bind fun x22=>bif (!x22.2) then((a1.FDefs.l[s13_13]?).bind fun x25=>(a1.FDefs.l[s13_13]?).bind fun x26=>(Z116 x26.FKind).bind fun x27=>(appC 88 s5_12 (⟨false,[(Z2.mk (2:Int) x25.FName ([]:Bs) ([]:Bs) ([]:Bs) x27)]⟩:Sl Z2)).bind fun x28=>Z107_j18 s13_13 ((Z107_l11 a0 a1 n11)) x28) else(Z107_j18 s13_13 ((Z107_l11 a0 a1 n11)) s5_12)) else(Z107_j7   s5_12)
def Z107_j5 (a0:TDoc) (a1:TDoc)  (s5_6:(Sl Z2)):Option (Sl Z2):=Z107_l11 a0 a1 (a1.FDefs.l.length+1) s5_6 0
def Z107_j37 (s9_32:Nat) (k_next_30:(Sl Z2)->Nat->Option (Sl Z2)) (s5_38:(Sl Z2)):Option (Sl Z2):=k_next_30 s5_38 (s9_32+1)
def Z107_l30 (a0:TDoc) (a1:TDoc) :Nat->(Sl Z2)->Nat->Option (Sl Z2)
 | 0,_,_=>none
 | n30+1,s5_31,s9_32=>bif (decide (((s9_32:Nat):Int)<((a0.FDefs.l.length:Nat):Int))) then((a0.FDefs.l[s9_32]?).bind fun x40=>(Z79 a1 x40.FName).bind fun x42=>bif (x42.2&&(!decide (x40.FKind=x42.1.FKind))) then((Z116 x40.FKind).bind fun x45=>(Z116 x42.1.FKind).bind fun x46=>(appC 88 s5_31 (⟨false,[(Z2.mk (3:Int) x40.FName ([]:Bs) ([]:Bs) x45 x46)]⟩:Sl Z2)).bind fun x47=>Z107_j37 s9_32 ((Z107_l30 a0 a1 n30)) x47) else(bif x42.2 then((Z110 x40 x42.1).bind fun x51=>(appC 88 s5_31 x51).bind fun x52=>(Z114 x40 x42.1).bind fun x53=>(appC 88 x52 x53).bind fun x54=>Z107_j37 s9_32 ((Z107_l30 a0 a1 n30)) x54) else(Z107_j37 s9_32 ((Z107_l30 a0 a1 n30)) s5_31))) else(Z107_j5 a0 a1  s5_31)
def Z107_j3 (a0:TDoc) (a1:TDoc)  (s5_4:(Sl Z2)):Option (Sl Z2):=Z107_l30 a0 a1 (a0.FDefs.l.length+1) s5_4 0
def Z107_j63 (s6_58:Nat) (k_next_56:(Sl Z2)->Nat->Option (Sl Z2)) (s5_64:(Sl Z2)):Option (Sl Z2):=k_next_56 s5_64 (s6_58+1)
def Z107_l56 (a0:TDoc) (a1:TDoc) :Nat->(Sl Z2)->Nat->Option (Sl Z2)
 | 0,_,_=>none
 | n56+1,s5_57,s6_58=>bif (decide (((s6_58:Nat):Int)<((a0.FDefs.l.length:Nat):Int))) then((a0.FDefs.l[s6_58]?).bind fun x66=>(Z79 a1 x66.FName).bind fun x67=>bif (!x67.2) then((a0.FDefs.l[s6_58]?).bind fun x70=>(a0.FDefs.l[s6_58]?).bind fun x71=>(Z116 x71.FKind).bind fun x72=>(appC 88 s5_57 (⟨false,[(Z2.mk (1:Int) x70.FName ([]:Bs) ([]:Bs) x72 ([]:Bs))]⟩:Sl Z2)).bind fun x73=>Z107_j63 s6_58 ((Z107_l56 a0 a1 n56)) x73) else(Z107_j63 s6_58 ((Z107_l56 a0 a1 n56)) s5_57)) else(Z107_j3 a0 a1  s5_57)
def Z107 (a0:TDoc) (a1:TDoc):Option (Sl Z2):=Z107_l56 a0 a1 (a0.FDefs.l.length+1) (Sl.nil:Sl Z2) 0
theorem Z107_walk {a0 a1:TDoc}{r:Sl Z2}(hE:Z107 a0 a1=some r) (H:Heap) :ACalls Tryz.prog 14 [.agg (TDoc.c a0),.agg (TDoc.c a1)] H fun v h'=>v=.a (.d (Sl.d 6 Z2.c none r))/\h'=H:=by
 unfold Z107 at hE;refine ACalls.oW 141 [.tmp 4] Tryz.call14 Tryz.func14 ?_;refine AWp.tok 6 fun tk1 htk1=>?_;refine seqR (S BX (S BX ?_));refine s0 (assignNil (k':=6) rfl) rfl ?_;refine nil ?_;refine seqR (S As (nil ?_));refine AWp.nilTok 5 6 tk1 rfl hpG ?_;refine seqJH (TA 2 (TA 3 KeepsT.nil)) (fun(z:(Sl Z2))=>[(5,.a (.d (Sl.d 6 Z2.c (some tk1) z)))]) (fun z=>(H.set tk1 (some (.tok 6 z.l.length)))) (fun z=>Z107_j3 a0 a1 z=some r) ?_ ?_
 ·intro K3 hK3;refine seqR (S As (nil ?_));refine block ?_;refine loopH (TA 2 (TA 3 KeepsT.nil)) (fun(z:Nat×(Sl Z2)×Nat)=>[(5,.a (.d (Sl.d 6 Z2.c (some tk1) z.2.1))),(6,.a (.d (.int .i64 ((z.2.2:Nat):Int))))]) (fun z=>(H.set tk1 (some (.tok 6 z.2.1.l.length)))) (fun z=>z.1) (fun z=>Z107_l56 a0 a1 z.1 z.2.1 z.2.2=some r) ((a0.FDefs.l.length+1),(Sl.nil:Sl Z2),0) hE Weak.toA ?_;rintro ⟨n56,s5_57,s6_58⟩ hE K56 hK56
  try dsimp only at hE
  cases n56 with
  | zero=>cases hE
  | succ n56 =>
    rw [Z107_l56] at hE;refine seqK fun K59 hK59=>?_;refine seqR (S Mv (S Fv (S Ld ?_)));refine sLen (f:=TDef.c) (s:=a0.FDefs) (TK rfl) rfl rfl rfl rfl fun hL61=>?_;refine S BI (nil ?_);refine cE hE (fun hc62 hE=>?_) (fun hc62 hE=>?_)
    ·try dsimp only at hc62
     have hf62:=of_decide_eq_true hc62;refine sk hK59 ?_;clear hK59 K59;refine seqJH (TA 2 (TA 3 (TA 6 KeepsT.nil))) (fun(z:(Sl Z2))=>[(5,.a (.d (Sl.d 6 Z2.c (some tk1) z)))]) (fun z=>(H.set tk1 (some (.tok 6 z.l.length)))) (fun z=>Z107_j63 s6_58 ((Z107_l56 a0 a1 n56)) z=some r) ?_ ?_
     ·intro K63 hK63;refine block ?_;refine AWp.seqD (Sd Ld (Sd Fv (Sd Ld (Sd Mv ?_))));obtain⟨x66,gx66,hE⟩:=bO hE;refine Sd (ix TDef.c s6_58 gx66) (Sd Fv (Sd Ld ?_));obtain⟨x67,gx67,hE⟩:=bO hE;refine Scd rfl rfl (Z79_walk gx67) ?_;refine Sd Mv (Sd EX (Sd EX ?_));refine DOps.sB (TK rfl) rfl rfl ?_ (by repeat (first|exact Snoc.nil|apply Snoc.cons));refine DOps.sLn (storeLFA (TK rfl) rfl rfl rfl rfl rfl) ?_
      refine Sd As ?_;refine DOps.nil (by decide +kernel) ?_;refine freezeA 7 _ rfl (KA 2 (KA 3 (KA 5 (KA 6 (KA 8 Keeps.nil))))) ?_;refine seqR (S Mv (S NB (nil ?_)));refine cE hE (fun hc69 hE=>?_) (fun hc69 hE=>?_)
      ·refine AWp.draw rfl ?_;refine Sd Mv (Sd Fv (Sd Ld (Sd Mv ?_)));obtain⟨x70,gx70,hE⟩:=bO hE;refine Sd (ix TDef.c s6_58 gx70) (Sd Fv (Sd Ld (Sd Fv (Sd Ld (Sd Mv ?_)))));obtain⟨x71,gx71,hE⟩:=bO hE;refine Sd (ix TDef.c s6_58 gx71) (Sd Fv (Sd Ld ?_));obtain⟨x72,gx72,hE⟩:=bO hE;refine Scd rfl rfl (Z116_walk gx72) ?_;refine Sd BU (Sd BV ?_);obtain⟨x73,gx73,hE⟩:=bO hE;refine DOps.sH (appM (f:=Z2.c) (TK rfl) rfl (TK rfl) (TK rfl) ⟨_,rfl⟩ rfl rfl (by decide) rfl rfl rfl rfl hpG rfl gx73) rfl ?_
       refine DOps.Dh (H.set tk1 (some (.tok 6 x73.l.length))) ?_;refine Sd As ?_;refine DOps.nil (by decide +kernel) ?_;exact hK63 _ x73 Weak.toA hE
      refine AWp.skip ?_;exact hK63 _ s5_57 Weak.toA hE
     rintro s5_64 hE;try dsimp only at hE
     unfold Z107_j63 at hE;refine region ?_;refine S Mv ?_;refine SI ?_;refine S As (nil ?_);exact hK56 _ (n56,s5_64,(s6_58+1)) Weak.toA hE (Nat.lt_succ_self _)
    refine AWp.exit ?_;exact hK3 _ s5_57 Weak.toA hE
 rintro s5_4 hE;try dsimp only at hE
 unfold Z107_j3 at hE;refine seqJH (TA 2 (TA 3 KeepsT.nil)) (fun(z:(Sl Z2))=>[(5,.a (.d (Sl.d 6 Z2.c (some tk1) z)))]) (fun z=>(H.set tk1 (some (.tok 6 z.l.length)))) (fun z=>Z107_j5 a0 a1 z=some r) ?_ ?_
 ·intro K5 hK5;refine seqR (S As (nil ?_));refine block ?_;refine loopH (TA 2 (TA 3 KeepsT.nil)) (fun(z:Nat×(Sl Z2)×Nat)=>[(5,.a (.d (Sl.d 6 Z2.c (some tk1) z.2.1))),(9,.a (.d (.int .i64 ((z.2.2:Nat):Int))))]) (fun z=>(H.set tk1 (some (.tok 6 z.2.1.l.length)))) (fun z=>z.1) (fun z=>Z107_l30 a0 a1 z.1 z.2.1 z.2.2=some r) ((a0.FDefs.l.length+1),s5_4,0) hE Weak.toA ?_;rintro ⟨n30,s5_31,s9_32⟩ hE K30 hK30
  try dsimp only at hE
  cases n30 with
  | zero=>cases hE
  | succ n30 =>
    rw [Z107_l30] at hE;refine seqK fun K33 hK33=>?_;refine seqR (S Mv (S Fv (S Ld ?_)));refine sLen (f:=TDef.c) (s:=a0.FDefs) (TK rfl) rfl rfl rfl rfl fun hL35=>?_;refine S BI (nil ?_);refine cE hE (fun hc36 hE=>?_) (fun hc36 hE=>?_)
    ·try dsimp only at hc36
     have hf36:=of_decide_eq_true hc36;refine sk hK33 ?_;clear hK33 K33;refine seqJH (TA 2 (TA 3 (TA 9 KeepsT.nil))) (fun(z:(Sl Z2))=>[(5,.a (.d (Sl.d 6 Z2.c (some tk1) z)))]) (fun z=>(H.set tk1 (some (.tok 6 z.l.length)))) (fun z=>Z107_j37 s9_32 ((Z107_l30 a0 a1 n30)) z=some r) ?_ ?_
     ·intro K37 hK37;refine block ?_;refine seqR (S Fv (S Ld (S Mv ?_)));obtain⟨x40,gx40,hE⟩:=bO hE;refine S (ix TDef.c s9_32 gx40) (S Ld ?_);refine Sl ?_;refine Sf ?_;refine nil ?_;refine freezeA 10 _ rfl (KA 2 (KA 3 (KA 5 (KA 9 Keeps.nil)))) ?_;refine seqR (S Ld (S Fv (S Ld ?_)));obtain⟨x42,gx42,hE⟩:=bO hE;refine Sc rfl rfl (Z79_walk gx42) ?_;refine S Mv (S EX (S EX ?_));refine Sl ?_;refine Sf ?_
      refine S As (nil ?_);refine freezeA 11 _ rfl (KA 2 (KA 3 (KA 5 (KA 9 (KA 10 (KA 12 Keeps.nil)))))) ?_;refine seqR (S Mv (S Mv (G0 Fv ?_)));refine G1 74 rfl Ld ?_;refine G0 Fv ?_;refine G1 76 rfl Ld ?_;refine G2 75 77 rfl rfl BI ?_;refine S PA (nil ?_);refine cE hE (fun hc44 hE=>?_) (fun hc44 hE=>?_)
      ·refine AWp.draw rfl ?_;refine Sd Mv (Sd Fv (Sd Ld (Sd Fv (Sd Ld ?_))));obtain⟨x45,gx45,hE⟩:=bO hE;refine Scd rfl rfl (Z116_walk gx45) ?_;refine Sd Fv (Sd Ld ?_);obtain⟨x46,gx46,hE⟩:=bO hE;refine Scd rfl rfl (Z116_walk gx46) ?_;refine Sd BU (Sd BV ?_);obtain⟨x47,gx47,hE⟩:=bO hE;refine DOps.sH (appM (f:=Z2.c) (TK rfl) rfl (TK rfl) (TK rfl) ⟨_,rfl⟩ rfl rfl (by decide) rfl rfl rfl rfl hpG rfl gx47) rfl ?_
       refine DOps.Dh (H.set tk1 (some (.tok 6 x47.l.length))) ?_;refine Sd As ?_;refine DOps.nil (by decide +kernel) ?_;exact hK37 _ x47 Weak.toA hE
      refine seqR (S Mv (nil ?_));refine cE hE (fun hc49 hE=>?_) (fun hc49 hE=>?_)
      ·refine seqR (S Mv (S Ld (S Ld ?_)));obtain⟨x51,gx51,hE⟩:=bO hE;refine Sc rfl rfl (Z110_walk gx51) ?_;obtain⟨x52,gx52,hE⟩:=bO hE;refine SH (am Z2.c (TK rfl) rfl (TK rfl) (TK rfl) gx52) ?_;refine hq (H.set tk1 (some (.tok 6 x52.l.length))) ?_;refine S As (nil ?_);refine region ?_;refine S Mv (S Ld (S Ld ?_));obtain⟨x53,gx53,hE⟩:=bO hE;refine Sc rfl rfl (Z114_walk gx53) ?_;obtain⟨x54,gx54,hE⟩:=bO hE
       refine SH (am Z2.c (TK rfl) rfl (TK rfl) (TK rfl) gx54) ?_;refine hq (H.set tk1 (some (.tok 6 x54.l.length))) ?_;refine S As (nil ?_);exact hK37 _ x54 Weak.toA hE
      refine AWp.skip ?_;exact hK37 _ s5_31 Weak.toA hE
     rintro s5_38 hE;try dsimp only at hE
     unfold Z107_j37 at hE;refine region ?_;refine S Mv ?_;refine SI ?_;refine S As (nil ?_);exact hK30 _ (n30,s5_38,(s9_32+1)) Weak.toA hE (Nat.lt_succ_self _)
    refine AWp.exit ?_;exact hK5 _ s5_31 Weak.toA hE
 rintro s5_6 hE;try dsimp only at hE
 unfold Z107_j5 at hE;refine seqJH KeepsT.nil (fun(z:(Sl Z2))=>[(5,.a (.d (Sl.d 6 Z2.c (some tk1) z)))]) (fun z=>(H.set tk1 (some (.tok 6 z.l.length)))) (fun z=>Z107_j7 z=some r) ?_ ?_
 ·intro K7 hK7;refine seqR (S As (nil ?_));refine block ?_;refine loopH (TA 2 (TA 3 KeepsT.nil)) (fun(z:Nat×(Sl Z2)×Nat)=>[(5,.a (.d (Sl.d 6 Z2.c (some tk1) z.2.1))),(13,.a (.d (.int .i64 ((z.2.2:Nat):Int))))]) (fun z=>(H.set tk1 (some (.tok 6 z.2.1.l.length)))) (fun z=>z.1) (fun z=>Z107_l11 a0 a1 z.1 z.2.1 z.2.2=some r) ((a1.FDefs.l.length+1),s5_6,0) hE Weak.toA ?_;rintro ⟨n11,s5_12,s13_13⟩ hE K11 hK11
  try dsimp only at hE
  cases n11 with
  | zero=>cases hE
  | succ n11 =>
    rw [Z107_l11] at hE;refine seqK fun K14 hK14=>?_;refine seqR (S Mv (S Fv (S Ld ?_)));refine sLen (f:=TDef.c) (s:=a1.FDefs) (TK rfl) rfl rfl rfl rfl fun hL16=>?_;refine S BI (nil ?_);refine cE hE (fun hc17 hE=>?_) (fun hc17 hE=>?_)
    ·try dsimp only at hc17
     have hf17:=of_decide_eq_true hc17;refine sk hK14 ?_;clear hK14 K14;refine seqJH (TA 2 (TA 3 (TA 13 KeepsT.nil))) (fun(z:(Sl Z2))=>[(5,.a (.d (Sl.d 6 Z2.c (some tk1) z)))]) (fun z=>(H.set tk1 (some (.tok 6 z.l.length)))) (fun z=>Z107_j18 s13_13 ((Z107_l11 a0 a1 n11)) z=some r) ?_ ?_
     ·intro K18 hK18;refine block ?_;refine AWp.seqD (Sd Ld (Sd Fv (Sd Ld (Sd Mv ?_))));obtain⟨x21,gx21,hE⟩:=bO hE;refine Sd (ix TDef.c s13_13 gx21) (Sd Fv (Sd Ld ?_));obtain⟨x22,gx22,hE⟩:=bO hE;refine Scd rfl rfl (Z79_walk gx22) ?_;refine Sd Mv (Sd EX (Sd EX ?_));refine DOps.sB (TK rfl) rfl rfl ?_ (by repeat (first|exact Snoc.nil|apply Snoc.cons));refine DOps.sLn (storeLFA (TK rfl) rfl rfl rfl rfl rfl) ?_
      refine Sd As ?_;refine DOps.nil (by decide +kernel) ?_;refine freezeA 14 _ rfl (KA 2 (KA 3 (KA 5 (KA 13 (KA 15 Keeps.nil))))) ?_;refine seqR (S Mv (S NB (nil ?_)));refine cE hE (fun hc24 hE=>?_) (fun hc24 hE=>?_)
      ·refine AWp.draw rfl ?_;refine Sd Mv (Sd Fv (Sd Ld (Sd Mv ?_)));obtain⟨x25,gx25,hE⟩:=bO hE;refine Sd (ix TDef.c s13_13 gx25) (Sd Fv (Sd Ld (Sd Fv (Sd Ld (Sd Mv ?_)))));obtain⟨x26,gx26,hE⟩:=bO hE;refine Sd (ix TDef.c s13_13 gx26) (Sd Fv (Sd Ld ?_));obtain⟨x27,gx27,hE⟩:=bO hE;refine Scd rfl rfl (Z116_walk gx27) ?_;refine Sd BU (Sd BV ?_);obtain⟨x28,gx28,hE⟩:=bO hE;refine DOps.sH (appM (f:=Z2.c) (TK rfl) rfl (TK rfl) (TK rfl) ⟨_,rfl⟩ rfl rfl (by decide) rfl rfl rfl rfl hpG rfl gx28) rfl ?_
       refine DOps.Dh (H.set tk1 (some (.tok 6 x28.l.length))) ?_;refine Sd As ?_;refine DOps.nil (by decide +kernel) ?_;exact hK18 _ x28 Weak.toA hE
      refine AWp.skip ?_;exact hK18 _ s5_12 Weak.toA hE
     rintro s5_19 hE;try dsimp only at hE
     unfold Z107_j18 at hE;refine region ?_;refine S Mv ?_;refine SI ?_;refine S As (nil ?_);exact hK11 _ (n11,s5_19,(s13_13+1)) Weak.toA hE (Nat.lt_succ_self _)
    refine AWp.exit ?_;exact hK7 _ s5_12 Weak.toA hE
 rintro s5_8 hE;try dsimp only at hE
 unfold Z107_j7 at hE;refine seqR (S Mv (S As (nil ?_)));refine AWp.dropTok 4 rfl ?_;refine AWp.ret ?_;repeat (first|refine xBlock_ret ?_|refine xThen_ret ?_)
 obtain rfl:=Option.some.inj hE;refine retQ.retF H rfl ⟨rfl,rfl⟩ ?_
 first|exact Heap.sub_set htk1|(simp only [Heap.set_set]; exact Heap.sub_set htk1)
section
variable [IsLoud lou]
def Z30 (a0:TDoc) (a1:TDoc):Option Bool:=(Z32 a0).bind fun x4=>guardO (!(!x4)) (Z32 a1) false fun x5=>bif ((!x4)||(!x5)) then((Z31 ).bind fun x8=>some x8) else((Z10 a0 a1).bind fun x10=>(Z107 a0 a1).bind fun x11=>(Z108 x10 x11).bind fun x12=>guardO (x12) (Z31 ) false fun x13=>some (x12&&x13))
theorem Z30_walk {a0 a1:TDoc}{oT:Ab.Obj}{gT:Nat}{r:Bool}(hE:Z30 a0 a1=some r) (H:Heap) (hgT:H gT=some oT) (hoT:IsTab Tryz.prog oT):ACalls Tryz.prog 4 [.agg (TDoc.c a0),.agg (TDoc.c a1)] H fun v h'=>v=.a (.d (.bool r))/\h'=H:=by
 unfold Z30 at hE;refine ACalls.oW 24 [.tmp 4] Tryz.call4 Tryz.func4 ?_;refine seqR (S BX (S BX (S As (nil ?_))));refine seqK fun K2 hK2=>?_;refine seqR (S Ld ?_);obtain⟨x4,gx4,hE⟩:=bO hE;refine Sc rfl rfl (Z32_walk gx4) ?_;refine S NB (S Mv (G0 Ld ?_));obtain⟨x5,gx5,hE⟩:=gO hE;refine Gc1 9 rfl rfl rfl rfl rfl (fun hC=>Z32_walk (gx5 hC)) ?_;refine G1 10 rfl NB ?_;refine S PO (nil ?_);refine cE hE (fun hc6 hE=>?_) (fun hc6 hE=>?_)
 ·refine seqR ?_;obtain⟨x8,gx8,hE⟩:=bO hE;refine s0 (callR rfl rfl (Z31_walk (gT:=gT) (oT:=oT) gx8 _ hpG (by assumption))) rfl ?_;refine S As (nil ?_);exact rt hE
 refine sk hK2 ?_;clear hK2 K2;refine AWp.seqD (Sd Ld (Sd Ld ?_));obtain⟨x10,gx10,hE⟩:=bO hE;refine DOps.s0 (callR rfl rfl (Z10_walk (gT:=gT) (oT:=oT) gx10 _ hpG (by assumption))) rfl ?_;refine Sd Ld (Sd Ld ?_);obtain⟨x11,gx11,hE⟩:=bO hE;refine Scd rfl rfl (Z107_walk gx11) ?_;obtain⟨x12,gx12,hE⟩:=bO hE;refine Scd rfl rfl (Z108_walk gx12) ?_;refine Sd Mv ?_;obtain⟨x13,gx13,hE⟩:=gO hE;refine DOps.gC rfl rfl (fun hC=>callR rfl rfl (Z31_walk (gT:=gT) (oT:=oT) (gx13 hC) _ hpG (by assumption))) rfl ?_
 refine Sd PA (Sd As ?_);refine DOps.nil (by decide +kernel) ?_;exact rt hE
end
end Go.Proofs

namespace Go.Proofs
open Go Go.Ab
def Z42_q (a0:Int):Bool:=((((decide ((65:Int)<=a0))&&(decide (a0<=(90:Int))))||((decide ((97:Int)<=a0))&&(decide (a0<=(122:Int)))))||(decide (a0=(95:Int))))
theorem Z42_eq (a0:Int):Z42 a0=some (Z42_q a0):=by
 unfold Z42 Z42_q;all_goals rfl
def Z38_q (a0:Int):Bool:=((decide ((48:Int)<=a0))&&(decide (a0<=(57:Int))))
theorem Z38_eq (a0:Int):Z38 a0=some (Z38_q a0):=by
 unfold Z38 Z38_q;all_goals rfl
def Z35_q10 :List UInt8->Nat->Unit ⊕ Bool
 | [],s3_11=>Sum.inl ()
 | h10::r10,s3_11=>on (h10) fun x18=>on (Z42_q ((x18.toNat:Nat):Int)) fun x19=>on (bif ((!x19)&&!(decide (((s3_11:Nat):Int)=(0:Int)))) then h10 else(0:UInt8)) fun x20=>on (bif ((!x19)&&!(decide (((s3_11:Nat):Int)=(0:Int)))) then Z38_q ((x20.toNat:Nat):Int) else false) fun x21=>bif ((!x19)&&((decide (((s3_11:Nat):Int)=(0:Int)))||(!x21))) then(Sum.inr false) else(Z35_q10  (r10) (s3_11+1) )
theorem Z35_l10_qe {a0:Bs}  (Kb10:(Unit ⊕ Bool)->Option Bool) (hend:∀(n10:Nat) (s3_11:Nat),Z35_j7   =Kb10 (Sum.inl ())) (hret:∀e:Bool,some e=Kb10 (Sum.inr e)):∀(n10:Nat) (s3_11:Nat),(0<n10/\a0.length<s3_11+n10)->Z35_l10 a0 n10 s3_11=Kb10 (Z35_q10  (a0.drop s3_11) s3_11 ):=by
 intro n10;induction n10 with
 | zero=>intro s3_11 hn; exact absurd hn.1 (by omega)
 | succ n10 ih10 =>
  intro s3_11 hn;rw [Z35_l10];by_cases hlt:s3_11<a0.length
  ·obtain⟨h10,hh10⟩:=Qa hlt;rw [Q.drop_of hh10,Z35_q10];refine QT hlt ?_;refine Q.bindP hh10 fun x18 hx_x18=>?_;refine Q.bindP (Z42_eq _) fun x19 hx_x19=>?_;refine Q.guardP hh10 fun x20 hx_x20=>?_;refine Q.guardP (Z38_eq _) fun x21 hx_x21=>?_;refine Q.condP ?_ ?_
   ·all_goals exact hret _
   all_goals exact ih10 _ ⟨by omega,by omega⟩
  rw [dL (by omega),Z35_q10];refine QF hlt ?_;exact hend n10 s3_11
def Z35_q (a0:Bs):Bool:=bif ((decide (((a0.length:Nat):Int)<(1:Int)))||(decide ((64:Int)<((a0.length:Nat):Int)))) then(false) else(on (Z35_q10  a0 0 ) fun o10=>match o10 with|Sum.inl _=>(on (()) fun _=>true)|Sum.inr e10=>(e10))
theorem Z35_eq (a0:Bs):Z35 a0=some (Z35_q a0):=by
 unfold Z35 Z35_q;refine Q.condP ?_ ?_
 ·all_goals rfl
 refine Q.wrapPP fun Kb10 hKb10=>?_;refine Z35_l10_qe  Kb10 ?_ ?_ _ _ ⟨Nat.succ_pos _,by omega⟩
 ·intro n10 s3_11;refine Qe (hKb10 _) ?_;try dsimp only
  refine Q.wrapPP fun Kj7 hKj7=>?_;have hj7:Z35_j7  =Kj7 ():=by
   refine Qe (hKj7 _) ?_;unfold Z35_j7;all_goals rfl
  all_goals exact hj7
 intro e10;refine Qe (hKb10 _) ?_;try dsimp only
 all_goals rfl
def Z47_q7 (k_rec_160:Z7->Option Int):List Z7->Int->Option (Int)
 | [],s3_8=>some s3_8
 | h7::r7,s3_8=>on (h7) fun x15=>(k_rec_160 x15).bind fun x16=>(addC s3_8 x16).bind fun x17=>Z47_q7 k_rec_160 (r7) x17
theorem Z47_l7_qe {a0:Z7}{k_rec_160:Z7->Option Int}  (Kb7:(Int)->Option Int) (hend:∀(n7:Nat) (s3_8:Int) (s4_9:Nat),Z47_j3   s3_8=Kb7 s3_8):∀(n7:Nat) (s3_8:Int) (s4_9:Nat),(0<n7/\a0.FItems.l.length<s4_9+n7)->Z47_l7 a0 k_rec_160 n7 s3_8 s4_9=Option.bind (Z47_q7 k_rec_160 (a0.FItems.l.drop s4_9) s3_8) Kb7:=by
 intro n7;induction n7 with
 | zero=>intro s3_8 s4_9 hn; exact absurd hn.1 (by omega)
 | succ n7 ih7 =>
  intro s3_8 s4_9 hn;rw [Z47_l7];by_cases hlt:s4_9<a0.FItems.l.length
  ·obtain⟨h7,hh7⟩:=Qa hlt;rw [Q.drop_of hh7,Z47_q7];refine QT hlt ?_;refine Q.bindPO hh7 fun x15 hx_x15=>?_;refine Q.bindO rfl fun x16=>?_;refine Q.bindO rfl fun x17=>?_;all_goals exact ih7 _ _ ⟨by omega,by omega⟩
  rw [dL (by omega),Z47_q7];refine QF hlt ?_;exact hend n7 s3_8 s4_9
def Z47_qn:Nat->Z7->Option Int
 | 0,_=>none
 | n+1,a0=>Option.bind (Z47_q7 (Z47_qn n) a0.FItems.l (1:Int)) fun s3_8=>on (s3_8) fun s3_4=>some s3_4
theorem Z47_qall:∀n:Nat,Z47_n n=Z47_qn n:=by
 intro n;induction n with
 | zero=>exact(by funext a0; first|rfl|(rw [Z47_n,Z47_qn]))
 | succ n ih =>
  funext a0
  refine Qs ?_;rw [Z47_n,Z47_qn];try rw [ih]
  refine Q.wrapOO fun Kb7 hKb7=>?_;refine Z47_l7_qe  Kb7 ?_ _ _ _ ⟨Nat.succ_pos _,by omega⟩;intro n7 s3_8 s4_9;refine Qe (hKb7 _) ?_;refine Q.wrapPO fun Kj3 hKj3=>?_;have hj3:∀(s3_4:Int),Z47_j3  s3_4=Kj3 s3_4:=by
   intro s3_4;refine Qe (hKj3 _) ?_;unfold Z47_j3;all_goals rfl
  all_goals exact hj3 _
def Z47_q (a0:Z7):Option Int:=Z47_qn F0 a0
theorem Z47_eq (a0:Z7):Z47 a0=Z47_q a0:=by
 unfold Z47 Z47_q; rw [(Z47_qall F0)]
def Z44_q8 (k_rec_161:Z7->Option Int):List Z7->Int->Option (Int)
 | [],s3_9=>some s3_9
 | h8::r8,s3_9=>on (h8) fun x16=>(k_rec_161 x16).bind fun x17=>Z44_q8 k_rec_161 (r8) (if x17>s3_9 then x17 else s3_9)
theorem Z44_l8_qe {a0:Z7}{k_rec_161:Z7->Option Int}  (Kb8:(Int)->Option Int) (hend:∀(n8:Nat) (s3_9:Int) (s4_10:Nat),Z44_j3   s3_9=Kb8 s3_9):∀(n8:Nat) (s3_9:Int) (s4_10:Nat),(0<n8/\a0.FItems.l.length<s4_10+n8)->Z44_l8 a0 k_rec_161 n8 s3_9 s4_10=Option.bind (Z44_q8 k_rec_161 (a0.FItems.l.drop s4_10) s3_9) Kb8:=by
 intro n8;induction n8 with
 | zero=>intro s3_9 s4_10 hn; exact absurd hn.1 (by omega)
 | succ n8 ih8 =>
  intro s3_9 s4_10 hn;rw [Z44_l8];by_cases hlt:s4_10<a0.FItems.l.length
  ·obtain⟨h8,hh8⟩:=Qa hlt;rw [Q.drop_of hh8,Z44_q8];refine QT hlt ?_;refine Q.bindPO hh8 fun x16 hx_x16=>?_;refine Q.bindO rfl fun x17=>?_;all_goals exact ih8 _ _ ⟨by omega,by omega⟩
  rw [dL (by omega),Z44_q8];refine QF hlt ?_;exact hend n8 s3_9 s4_10
def Z44_qn:Nat->Z7->Option Int
 | 0,_=>none
 | n+1,a0=>Option.bind (Z44_q8 (Z44_qn n) a0.FItems.l (0:Int)) fun s3_9=>on (s3_9) fun s3_4=>(addC s3_4 (1:Int)).bind fun x6=>some x6
theorem Z44_qall:∀n:Nat,Z44_n n=Z44_qn n:=by
 intro n;induction n with
 | zero=>exact(by funext a0; first|rfl|(rw [Z44_n,Z44_qn]))
 | succ n ih =>
  funext a0
  refine Qs ?_;rw [Z44_n,Z44_qn];try rw [ih]
  refine Q.wrapOO fun Kb8 hKb8=>?_;refine Z44_l8_qe  Kb8 ?_ _ _ _ ⟨Nat.succ_pos _,by omega⟩;intro n8 s3_9 s4_10;refine Qe (hKb8 _) ?_;refine Q.wrapPO fun Kj3 hKj3=>?_;have hj3:∀(s3_4:Int),Z44_j3  s3_4=Kj3 s3_4:=by
   intro s3_4;refine Qe (hKj3 _) ?_;unfold Z44_j3;refine Q.bindO rfl fun x6=>?_;all_goals rfl
  all_goals exact hj3 _
def Z44_q (a0:Z7):Option Int:=Z44_qn F0 a0
theorem Z44_eq (a0:Z7):Z44 a0=Z44_q a0:=by
 unfold Z44 Z44_q; rw [(Z44_qall F0)]
def Z52_q13 (a0:(Sl Bs)) (h5:Bs):Nat->Nat->Option (Unit ⊕ Bool)
 | 0,s4_14=>some (Sum.inl ())
 | r13+1,s4_14=>on (h5) fun x20=>(a0.l[s4_14]?).bind fun x21=>bif ((x20==x21)) then(some (Sum.inr true)) else(Z52_q13 a0 h5 (r13) (s4_14+1) )
theorem Z52_l13_qe {a0:(Sl Bs)}{s3_6:Nat}{k_next_5:Nat->Option Bool}{h5:Bs}(hh5:a0.l[s3_6]?=some h5) (Kb13:(Unit ⊕ Bool)->Option Bool) (hend:∀(n13:Nat) (s4_14:Nat),Z52_j11 s3_6 k_next_5 =Kb13 (Sum.inl ())) (hret:∀e:Bool,some e=Kb13 (Sum.inr e)):∀(n13:Nat) (s4_14:Nat),(0<n13/\s3_6<s4_14+n13)->Z52_l13 a0 s3_6 k_next_5 n13 s4_14=Option.bind (Z52_q13 a0 h5 (s3_6-s4_14) s4_14 ) Kb13:=by
 intro n13;induction n13 with
 | zero=>intro s4_14 hn; exact absurd hn.1 (by omega)
 | succ n13 ih13 =>
  intro s4_14 hn;rw [Z52_l13];by_cases hlt:s4_14<s3_6
  ·rw [show s3_6-s4_14=(s3_6-(s4_14+1))+1 by omega,Z52_q13];refine QT hlt ?_;refine Q.bindPO hh5 fun x20 hx_x20=>?_;refine Q.bindO rfl fun x21=>?_;refine Q.condO ?_ ?_
   ·all_goals exact hret _
   all_goals exact ih13 _ ⟨by omega,by omega⟩
  rw [show s3_6-s4_14=0 by omega,Z52_q13];refine QF hlt ?_;exact hend n13 s4_14
def Z52_q5 (a0:(Sl Bs)):List Bs->Nat->Option (Unit ⊕ Bool)
 | [],s3_6=>some (Sum.inl ())
 | h5::r5,s3_6=>Option.bind (Z52_q13 a0 h5 s3_6 0 ) fun o13=>match o13 with|Sum.inl _=>(on (()) fun _=>Z52_q5 a0 (r5) (s3_6+1) )|Sum.inr e13=>(some (Sum.inr e13))
theorem Z52_l5_qe {a0:(Sl Bs)}  (Kb5:(Unit ⊕ Bool)->Option Bool) (hend:∀(n5:Nat) (s3_6:Nat),Z52_j2   =Kb5 (Sum.inl ())) (hret:∀e:Bool,some e=Kb5 (Sum.inr e)):∀(n5:Nat) (s3_6:Nat),(0<n5/\a0.l.length<s3_6+n5)->Z52_l5 a0 n5 s3_6=Option.bind (Z52_q5 a0 (a0.l.drop s3_6) s3_6 ) Kb5:=by
 intro n5;induction n5 with
 | zero=>intro s3_6 hn; exact absurd hn.1 (by omega)
 | succ n5 ih5 =>
  intro s3_6 hn;rw [Z52_l5];by_cases hlt:s3_6<a0.l.length
  ·obtain⟨h5,hh5⟩:=Qa hlt;rw [Q.drop_of hh5,Z52_q5];refine QT hlt ?_;refine Q.wrapOO fun Kb13 hKb13=>?_;refine Z52_l13_qe hh5 Kb13 ?_ ?_ _ _ ⟨Nat.succ_pos _,by omega⟩
   ·intro n13 s4_14;refine Qe (hKb13 _) ?_;try dsimp only
    refine Q.wrapPO fun Kj11 hKj11=>?_;have hj11:Z52_j11 s3_6 (Z52_l5 a0 n5) =Kj11 ():=by
     refine Qe (hKj11 _) ?_;unfold Z52_j11;all_goals exact ih5 _ ⟨by omega,by omega⟩
    all_goals exact hj11
   intro e13;refine Qe (hKb13 _) ?_;try dsimp only
   all_goals exact hret _
  rw [dL (by omega),Z52_q5];refine QF hlt ?_;exact hend n5 s3_6
def Z52_q (a0:(Sl Bs)):Option Bool:=Option.bind (Z52_q5 a0 a0.l 0 ) fun o5=>match o5 with|Sum.inl _=>(on (()) fun _=>some false)|Sum.inr e5=>(some e5)
theorem Z52_eq (a0:(Sl Bs)):Z52 a0=Z52_q a0:=by
 unfold Z52 Z52_q;refine Qs ?_;refine Q.wrapOO fun Kb5 hKb5=>?_;refine Z52_l5_qe  Kb5 ?_ ?_ _ _ ⟨Nat.succ_pos _,by omega⟩
 ·intro n5 s3_6;refine Qe (hKb5 _) ?_;try dsimp only
  refine Q.wrapPO fun Kj2 hKj2=>?_;have hj2:Z52_j2  =Kj2 ():=by
   refine Qe (hKj2 _) ?_;unfold Z52_j2;all_goals rfl
  all_goals exact hj2
 intro e5;refine Qe (hKb5 _) ?_;try dsimp only
 all_goals rfl
def Z50_q (a0:Z7) (a1:Bool):Option Bool:=bif (decide (a0.FKind=(0:Int))) then(some ((((decide (a0.FInt=(0:Int)))&&((a0.FText==([]:Bs))))&&(decide (((a0.FItems.l.length:Nat):Int)=(0:Int))))&&(decide (((a0.FKeys.l.length:Nat):Int)=(0:Int))))) else(bif (decide (a0.FKind=(1:Int))) then(some (((((decide (a0.FInt=(0:Int)))||(decide (a0.FInt=(1:Int))))&&((a0.FText==([]:Bs))))&&(decide (((a0.FItems.l.length:Nat):Int)=(0:Int))))&&(decide (((a0.FKeys.l.length:Nat):Int)=(0:Int))))) else(bif (decide (a0.FKind=(2:Int))) then(some ((((a0.FText==([]:Bs)))&&(decide (((a0.FItems.l.length:Nat):Int)=(0:Int))))&&(decide (((a0.FKeys.l.length:Nat):Int)=(0:Int))))) else(bif (decide (a0.FKind=(3:Int))) then(some (((decide (a0.FInt=(0:Int)))&&(decide (((a0.FItems.l.length:Nat):Int)=(0:Int))))&&(decide (((a0.FKeys.l.length:Nat):Int)=(0:Int))))) else(bif (decide (a0.FKind=(4:Int))) then(on (bif (((decide (a0.FInt=(0:Int)))&&(decide (((a0.FItems.l.length:Nat):Int)=(0:Int))))&&(decide (((a0.FKeys.l.length:Nat):Int)=(0:Int)))) then Z35_q a0.FText else false) fun x19=>some (((((((decide (a0.FInt=(0:Int)))&&(decide (((a0.FItems.l.length:Nat):Int)=(0:Int))))&&(decide (((a0.FKeys.l.length:Nat):Int)=(0:Int))))&&x19)&&(!(a0.FText==([116,114,117,101]:Bs))))&&(!(a0.FText==([102,97,108,115,101]:Bs))))&&(!(a0.FText==([110,117,108,108]:Bs))))) else(bif (decide (a0.FKind=(5:Int))) then(some (((decide (a0.FInt=(0:Int)))&&((a0.FText==([]:Bs))))&&(decide (((a0.FKeys.l.length:Nat):Int)=(0:Int))))) else(bif (decide (a0.FKind=(6:Int))) then(guardO ((((decide (a0.FInt=(0:Int)))&&((a0.FText==([]:Bs))))&&(decide (((a0.FKeys.l.length:Nat):Int)=((a0.FItems.l.length:Nat):Int))))) (Z52_q a0.FKeys) false fun x26=>some ((((decide (a0.FInt=(0:Int)))&&((a0.FText==([]:Bs))))&&(decide (((a0.FKeys.l.length:Nat):Int)=((a0.FItems.l.length:Nat):Int))))&&(!x26))) else(bif (decide (a0.FKind=(7:Int))) then(on (bif (((a1&&(decide (a0.FInt=(0:Int))))&&(decide (((a0.FItems.l.length:Nat):Int)=(0:Int))))&&(decide (((a0.FKeys.l.length:Nat):Int)=(0:Int)))) then Z35_q a0.FText else false) fun x30=>some ((((a1&&(decide (a0.FInt=(0:Int))))&&(decide (((a0.FItems.l.length:Nat):Int)=(0:Int))))&&(decide (((a0.FKeys.l.length:Nat):Int)=(0:Int))))&&x30)) else(some false))))))))
theorem Z50_eq (a0:Z7) (a1:Bool):Z50 a0 a1=Z50_q a0 a1:=by
 unfold Z50 Z50_q;refine Qs ?_;refine Q.condO ?_ ?_
 ·all_goals rfl
 refine Q.condO ?_ ?_
 ·all_goals rfl
 refine Q.condO ?_ ?_
 ·all_goals rfl
 refine Q.condO ?_ ?_
 ·all_goals rfl
 refine Q.condO ?_ ?_
 ·refine Q.guardPO (Z35_eq _) fun x19 hx_x19=>?_;all_goals rfl
 refine Q.condO ?_ ?_
 ·all_goals rfl
 refine Q.condO ?_ ?_
 ·refine Q.guardOO (Z52_eq _) fun x26=>?_;all_goals rfl
 refine Q.condO ?_ ?_
 ·refine Q.guardPO (Z35_eq _) fun x30 hx_x30=>?_;all_goals rfl
 all_goals rfl
def Z53_q24 (a1:Bool):List Bs->Unit ⊕ Bool
 | []=>Sum.inl ()
 | h24::r24=>on (bif a1 then h24 else([]:Bs)) fun x32=>on (bif a1 then Z35_q x32 else false) fun x33=>bif (a1&&(!x33)) then(Sum.inr false) else(Z53_q24 a1 (r24) )
theorem Z53_l24_qe {a0:Z7}{a1:Bool}{k_rec_162:Z7->Bool->Option Bool}  (Kb24:(Unit ⊕ Bool)->Option Bool) (hend:∀(n24:Nat) (s5_25:Nat),Z53_j7 a0 a1 k_rec_162 =Kb24 (Sum.inl ())) (hret:∀e:Bool,some e=Kb24 (Sum.inr e)):∀(n24:Nat) (s5_25:Nat),(0<n24/\a0.FKeys.l.length<s5_25+n24)->Z53_l24 a0 a1 k_rec_162 n24 s5_25=Kb24 (Z53_q24 a1 (a0.FKeys.l.drop s5_25) ):=by
 intro n24;induction n24 with
 | zero=>intro s5_25 hn; exact absurd hn.1 (by omega)
 | succ n24 ih24 =>
  intro s5_25 hn;rw [Z53_l24];by_cases hlt:s5_25<a0.FKeys.l.length
  ·obtain⟨h24,hh24⟩:=Qa hlt;rw [Q.drop_of hh24,Z53_q24];refine QT hlt ?_;refine Q.guardP hh24 fun x32 hx_x32=>?_;refine Q.guardP (Z35_eq _) fun x33 hx_x33=>?_;refine Q.condP ?_ ?_
   ·all_goals exact hret _
   all_goals exact ih24 _ ⟨by omega,by omega⟩
  rw [dL (by omega),Z53_q24];refine QF hlt ?_;exact hend n24 s5_25
def Z53_q11 (a1:Bool) (k_rec_162:Z7->Bool->Option Bool):List Z7->Option (Unit ⊕ Bool)
 | []=>some (Sum.inl ())
 | h11::r11=>on (h11) fun x19=>(k_rec_162 x19 a1).bind fun x20=>bif (!x20) then(some (Sum.inr false)) else(Z53_q11 a1 k_rec_162 (r11) )
theorem Z53_l11_qe {a0:Z7}{a1:Bool}{k_rec_162:Z7->Bool->Option Bool}  (Kb11:(Unit ⊕ Bool)->Option Bool) (hend:∀(n11:Nat) (s6_12:Nat),Z53_j8   =Kb11 (Sum.inl ())) (hret:∀e:Bool,some e=Kb11 (Sum.inr e)):∀(n11:Nat) (s6_12:Nat),(0<n11/\a0.FItems.l.length<s6_12+n11)->Z53_l11 a0 a1 k_rec_162 n11 s6_12=Option.bind (Z53_q11 a1 k_rec_162 (a0.FItems.l.drop s6_12) ) Kb11:=by
 intro n11;induction n11 with
 | zero=>intro s6_12 hn; exact absurd hn.1 (by omega)
 | succ n11 ih11 =>
  intro s6_12 hn;rw [Z53_l11];by_cases hlt:s6_12<a0.FItems.l.length
  ·obtain⟨h11,hh11⟩:=Qa hlt;rw [Q.drop_of hh11,Z53_q11];refine QT hlt ?_;refine Q.bindPO hh11 fun x19 hx_x19=>?_;refine Q.bindO rfl fun x20=>?_;refine Q.condO ?_ ?_
   ·all_goals exact hret _
   all_goals exact ih11 _ ⟨by omega,by omega⟩
  rw [dL (by omega),Z53_q11];refine QF hlt ?_;exact hend n11 s6_12
def Z53_qn:Nat->Z7->Bool->Option Bool
 | 0,_,_=>none
 | n+1,a0,a1=>(Z50_q a0 a1).bind fun x4=>bif (!x4) then(some false) else(on (Z53_q24 a1 a0.FKeys.l ) fun o24=>match o24 with|Sum.inl _=>(on (()) fun _=>Option.bind (Z53_q11 a1 (Z53_qn n) a0.FItems.l ) fun o11=>match o11 with|Sum.inl _=>(on (()) fun _=>some true)|Sum.inr e11=>(some e11))|Sum.inr e24=>(some e24))
theorem Z53_qall:∀n:Nat,Z53_n n=Z53_qn n:=by
 intro n;induction n with
 | zero=>exact(by funext a0 a1; first|rfl|(rw [Z53_n,Z53_qn]))
 | succ n ih =>
  funext a0 a1
  refine Qs ?_;rw [Z53_n,Z53_qn];try rw [ih]
  refine Q.bindO (Z50_eq _ _) fun x4=>?_;refine Q.condO ?_ ?_
  ·all_goals rfl
  refine Q.wrapPO fun Kb24 hKb24=>?_;refine Z53_l24_qe  Kb24 ?_ ?_ _ _ ⟨Nat.succ_pos _,by omega⟩
  ·intro n24 s5_25;refine Qe (hKb24 _) ?_;try dsimp only
   refine Q.wrapPO fun Kj7 hKj7=>?_;have hj7:Z53_j7 a0 a1 (Z53_qn n) =Kj7 ():=by
    refine Qe (hKj7 _) ?_;unfold Z53_j7;refine Q.wrapOO fun Kb11 hKb11=>?_;refine Z53_l11_qe  Kb11 ?_ ?_ _ _ ⟨Nat.succ_pos _,by omega⟩
    ·intro n11 s6_12;refine Qe (hKb11 _) ?_;try dsimp only
     refine Q.wrapPO fun Kj8 hKj8=>?_;have hj8:Z53_j8  =Kj8 ():=by
      refine Qe (hKj8 _) ?_;unfold Z53_j8;all_goals rfl
     all_goals exact hj8
    intro e11;refine Qe (hKb11 _) ?_;try dsimp only
    all_goals rfl
   all_goals exact hj7
  intro e24;refine Qe (hKb24 _) ?_;try dsimp only
  all_goals rfl
def Z53_q (a0:Z7) (a1:Bool):Option Bool:=Z53_qn F0 a0 a1
theorem Z53_eq (a0:Z7) (a1:Bool):Z53 a0 a1=Z53_q a0 a1:=by
 unfold Z53 Z53_q; rw [(Z53_qall F0)]
def Z45_q (a0:Z7):Option Bool:=(Z47_q a0).bind fun x3=>guardO ((decide (x3<=(4096:Int)))) (Z44_q a0) (0:Int) fun x4=>guardO (((decide (x3<=(4096:Int)))&&(decide (x4<=(24:Int))))) (Z53_q a0 true) false fun x5=>some (((decide (x3<=(4096:Int)))&&(decide (x4<=(24:Int))))&&x5)
theorem Z45_eq (a0:Z7):Z45 a0=Z45_q a0:=by
 unfold Z45 Z45_q;refine Qs ?_;refine Q.bindO (Z47_eq _) fun x3=>?_;refine Q.guardOO (Z44_eq _) fun x4=>?_;refine Q.guardOO (Z53_eq _ _) fun x5=>?_;all_goals rfl
def Z66_q5 (k_rec_157:Z7->Option Bool):List Z7->Option (Unit ⊕ Bool)
 | []=>some (Sum.inl ())
 | h5::r5=>on (h5) fun x13=>(k_rec_157 x13).bind fun x14=>bif (!x14) then(some (Sum.inr false)) else(Z66_q5 k_rec_157 (r5) )
theorem Z66_l5_qe {a0:Z7}{k_rec_157:Z7->Option Bool}  (Kb5:(Unit ⊕ Bool)->Option Bool) (hend:∀(n5:Nat) (s3_6:Nat),Z66_j2 a0  =Kb5 (Sum.inl ())) (hret:∀e:Bool,some e=Kb5 (Sum.inr e)):∀(n5:Nat) (s3_6:Nat),(0<n5/\a0.FItems.l.length<s3_6+n5)->Z66_l5 a0 k_rec_157 n5 s3_6=Option.bind (Z66_q5 k_rec_157 (a0.FItems.l.drop s3_6) ) Kb5:=by
 intro n5;induction n5 with
 | zero=>intro s3_6 hn; exact absurd hn.1 (by omega)
 | succ n5 ih5 =>
  intro s3_6 hn;rw [Z66_l5];by_cases hlt:s3_6<a0.FItems.l.length
  ·obtain⟨h5,hh5⟩:=Qa hlt;rw [Q.drop_of hh5,Z66_q5];refine QT hlt ?_;refine Q.bindPO hh5 fun x13 hx_x13=>?_;refine Q.bindO rfl fun x14=>?_;refine Q.condO ?_ ?_
   ·all_goals exact hret _
   all_goals exact ih5 _ ⟨by omega,by omega⟩
  rw [dL (by omega),Z66_q5];refine QF hlt ?_;exact hend n5 s3_6
def Z66_qn:Nat->Z7->Option Bool
 | 0,_=>none
 | n+1,a0=>Option.bind (Z66_q5 (Z66_qn n) a0.FItems.l ) fun o5=>match o5 with|Sum.inl _=>(on (()) fun _=>some (!decide (a0.FKind=(7:Int))))|Sum.inr e5=>(some e5)
theorem Z66_qall:∀n:Nat,Z66_n n=Z66_qn n:=by
 intro n;induction n with
 | zero=>exact(by funext a0; first|rfl|(rw [Z66_n,Z66_qn]))
 | succ n ih =>
  funext a0
  refine Qs ?_;rw [Z66_n,Z66_qn];try rw [ih]
  refine Q.wrapOO fun Kb5 hKb5=>?_;refine Z66_l5_qe  Kb5 ?_ ?_ _ _ ⟨Nat.succ_pos _,by omega⟩
  ·intro n5 s3_6;refine Qe (hKb5 _) ?_;try dsimp only
   refine Q.wrapPO fun Kj2 hKj2=>?_;have hj2:Z66_j2 a0 =Kj2 ():=by
    refine Qe (hKj2 _) ?_;unfold Z66_j2;all_goals rfl
   all_goals exact hj2
  intro e5;refine Qe (hKb5 _) ?_;try dsimp only
  all_goals rfl
def Z66_q (a0:Z7):Option Bool:=Z66_qn F0 a0
theorem Z66_eq (a0:Z7):Z66 a0=Z66_q a0:=by
 unfold Z66 Z66_q; rw [(Z66_qall F0)]
def Z68_q25 (h10:TDir):List TArg->Option (Unit ⊕ Bool)
 | []=>some (Sum.inl ())
 | h25::r25=>on (h10) fun x34=>on (h25) fun x35=>on (Z35_q x35.FName) fun x37=>guardO (!(!x37)) (Z45_q x35.FValue) false fun x38=>guardO (!((!x37)||(!x38))) (Z66_q x35.FValue) false fun x39=>bif (((!x37)||(!x38))||(!x39)) then(some (Sum.inr false)) else(Z68_q25 h10 (r25) )
theorem Z68_l25_qe {a0:(Sl TDir)}{s3_11:Nat}{k_next_10:Nat->Option Bool}{h10:TDir}(hh10:a0.l[s3_11]?=some h10) (Kb25:(Unit ⊕ Bool)->Option Bool) (hend:∀(n25:Nat) (s4_26:Nat),Z68_j16 s3_11 k_next_10 =Kb25 (Sum.inl ())) (hret:∀e:Bool,some e=Kb25 (Sum.inr e)):∀(n25:Nat) (s4_26:Nat),(0<n25/\h10.FArgs.l.length<s4_26+n25)->Z68_l25 a0 s3_11 k_next_10 n25 s4_26=Option.bind (Z68_q25 h10 (h10.FArgs.l.drop s4_26) ) Kb25:=by
 intro n25;induction n25 with
 | zero=>intro s4_26 hn; exact absurd hn.1 (by omega)
 | succ n25 ih25 =>
  intro s4_26 hn;rw [Z68_l25];refine Q.preB hh10 fun x29 hx_x29=>?_;subst hx_x29;by_cases hlt:s4_26<x29.FArgs.l.length
  ·obtain⟨h25,hh25⟩:=Qa hlt;rw [Q.drop_of hh25,Z68_q25];refine QT hlt ?_;refine Q.bindPO hh10 fun x34 hx_x34=>?_;refine Q.bindPO (by first|exact hh25|(simp only [hx_x34]; exact hh25)|(simp only [hx_x34] at hh25 ⊢; exact hh25)) fun x35 hx_x35=>?_;refine Q.bindPO (Z35_eq _) fun x37 hx_x37=>?_;refine Q.guardOO (Z45_eq _) fun x38=>?_;refine Q.guardOO (Z66_eq _) fun x39=>?_;refine Q.condO ?_ ?_
   ·all_goals exact hret _
   all_goals exact ih25 _ ⟨by omega,by omega⟩
  rw [dL (by omega),Z68_q25];refine QF hlt ?_;exact hend n25 s4_26
def Z68_q10 :List TDir->Option (Unit ⊕ Bool)
 | []=>some (Sum.inl ())
 | h10::r10=>on (h10) fun x19=>on (Z35_q x19.FName) fun x20=>on (bif !(!x20) then h10 else TDir.zero) fun x21=>bif ((!x20)||(decide ((16:Int)<((x21.FArgs.l.length:Nat):Int)))) then(some (Sum.inr false)) else(Option.bind (Z68_q25 h10 h10.FArgs.l ) fun o25=>match o25 with|Sum.inl _=>(on (()) fun _=>Z68_q10  (r10) )|Sum.inr e25=>(some (Sum.inr e25)))
theorem Z68_l10_qe {a0:(Sl TDir)}  (Kb10:(Unit ⊕ Bool)->Option Bool) (hend:∀(n10:Nat) (s3_11:Nat),Z68_j7   =Kb10 (Sum.inl ())) (hret:∀e:Bool,some e=Kb10 (Sum.inr e)):∀(n10:Nat) (s3_11:Nat),(0<n10/\a0.l.length<s3_11+n10)->Z68_l10 a0 n10 s3_11=Option.bind (Z68_q10  (a0.l.drop s3_11) ) Kb10:=by
 intro n10;induction n10 with
 | zero=>intro s3_11 hn; exact absurd hn.1 (by omega)
 | succ n10 ih10 =>
  intro s3_11 hn;rw [Z68_l10];by_cases hlt:s3_11<a0.l.length
  ·obtain⟨h10,hh10⟩:=Qa hlt;rw [Q.drop_of hh10,Z68_q10];refine QT hlt ?_;refine Q.bindPO hh10 fun x19 hx_x19=>?_;refine Q.bindPO (Z35_eq _) fun x20 hx_x20=>?_;refine Q.guardPO hh10 fun x21 hx_x21=>?_;refine Q.condO ?_ ?_
   ·all_goals exact hret _
   refine Q.wrapOO fun Kb25 hKb25=>?_;refine Z68_l25_qe hh10 Kb25 ?_ ?_ _ _ ⟨by rw [hh10]; exact Nat.succ_pos _,by rw [hh10]; simp only [Option.elim]; omega⟩
   ·intro n25 s4_26;refine Qe (hKb25 _) ?_;try dsimp only
    refine Q.wrapPO fun Kj16 hKj16=>?_;have hj16:Z68_j16 s3_11 (Z68_l10 a0 n10) =Kj16 ():=by
     refine Qe (hKj16 _) ?_;unfold Z68_j16;all_goals exact ih10 _ ⟨by omega,by omega⟩
    all_goals exact hj16
   intro e25;refine Qe (hKb25 _) ?_;try dsimp only
   all_goals exact hret _
  rw [dL (by omega),Z68_q10];refine QF hlt ?_;exact hend n10 s3_11
def Z68_q (a0:(Sl TDir)):Option Bool:=bif (decide ((16:Int)<((a0.l.length:Nat):Int))) then(some false) else(Option.bind (Z68_q10  a0.l ) fun o10=>match o10 with|Sum.inl _=>(on (()) fun _=>some true)|Sum.inr e10=>(some e10))
theorem Z68_eq (a0:(Sl TDir)):Z68 a0=Z68_q a0:=by
 unfold Z68 Z68_q;refine Qs ?_;refine Q.condO ?_ ?_
 ·all_goals rfl
 refine Q.wrapOO fun Kb10 hKb10=>?_;refine Z68_l10_qe  Kb10 ?_ ?_ _ _ ⟨Nat.succ_pos _,by omega⟩
 ·intro n10 s3_11;refine Qe (hKb10 _) ?_;try dsimp only
  refine Q.wrapPO fun Kj7 hKj7=>?_;have hj7:Z68_j7  =Kj7 ():=by
   refine Qe (hKj7 _) ?_;unfold Z68_j7;all_goals rfl
  all_goals exact hj7
 intro e10;refine Qe (hKb10 _) ?_;try dsimp only
 all_goals rfl
def Z60_q10 (a0:TRef):List Int->Nat->Option (Unit ⊕ Bool)
 | [],s3_11=>some (Sum.inl ())
 | h10::r10,s3_11=>on (h10) fun x19=>on (bif (!decide (x19=(1:Int))) then h10 else(0:Int)) fun x20=>bif ((!decide (x19=(1:Int)))&&(!decide (x20=(2:Int)))) then(some (Sum.inr false)) else(on (bif (decide ((0:Int)<((s3_11:Nat):Int))) then h10 else(0:Int)) fun x24=>guardO (((decide ((0:Int)<((s3_11:Nat):Int)))&&(decide (x24=(1:Int))))) (subC ((s3_11:Nat):Int) (1:Int)) (0:Int) fun x25=>guardO (((decide ((0:Int)<((s3_11:Nat):Int)))&&(decide (x24=(1:Int))))) (idxC a0.FWraps.l x25) (0:Int) fun x26=>bif (((decide ((0:Int)<((s3_11:Nat):Int)))&&(decide (x24=(1:Int))))&&(decide (x26=(1:Int)))) then(some (Sum.inr false)) else(Z60_q10 a0 (r10) (s3_11+1) ))
theorem Z60_l10_qe {a0:TRef}  (Kb10:(Unit ⊕ Bool)->Option Bool) (hend:∀(n10:Nat) (s3_11:Nat),Z60_j7   =Kb10 (Sum.inl ())) (hret:∀e:Bool,some e=Kb10 (Sum.inr e)):∀(n10:Nat) (s3_11:Nat),(0<n10/\a0.FWraps.l.length<s3_11+n10)->Z60_l10 a0 n10 s3_11=Option.bind (Z60_q10 a0 (a0.FWraps.l.drop s3_11) s3_11 ) Kb10:=by
 intro n10;induction n10 with
 | zero=>intro s3_11 hn; exact absurd hn.1 (by omega)
 | succ n10 ih10 =>
  intro s3_11 hn;rw [Z60_l10];by_cases hlt:s3_11<a0.FWraps.l.length
  ·obtain⟨h10,hh10⟩:=Qa hlt;rw [Q.drop_of hh10,Z60_q10];refine QT hlt ?_;refine Q.bindPO hh10 fun x19 hx_x19=>?_;refine Q.guardPO hh10 fun x20 hx_x20=>?_;refine Q.condO ?_ ?_
   ·all_goals exact hret _
   refine Q.guardPO hh10 fun x24 hx_x24=>?_;refine Q.guardOO rfl fun x25=>?_;refine Q.guardOO rfl fun x26=>?_;refine Q.condO ?_ ?_
   ·all_goals exact hret _
   all_goals exact ih10 _ ⟨by omega,by omega⟩
  rw [dL (by omega),Z60_q10];refine QF hlt ?_;exact hend n10 s3_11
def Z60_q (a0:TRef):Option Bool:=on (Z35_q a0.FName) fun x4=>bif ((!x4)||(decide ((24:Int)<((a0.FWraps.l.length:Nat):Int)))) then(some false) else(Option.bind (Z60_q10 a0 a0.FWraps.l 0 ) fun o10=>match o10 with|Sum.inl _=>(on (()) fun _=>some true)|Sum.inr e10=>(some e10))
theorem Z60_eq (a0:TRef):Z60 a0=Z60_q a0:=by
 unfold Z60 Z60_q;refine Qs ?_;refine Q.bindPO (Z35_eq _) fun x4 hx_x4=>?_;refine Q.condO ?_ ?_
 ·all_goals rfl
 refine Q.wrapOO fun Kb10 hKb10=>?_;refine Z60_l10_qe  Kb10 ?_ ?_ _ _ ⟨Nat.succ_pos _,by omega⟩
 ·intro n10 s3_11;refine Qe (hKb10 _) ?_;try dsimp only
  refine Q.wrapPO fun Kj7 hKj7=>?_;have hj7:Z60_j7  =Kj7 ():=by
   refine Qe (hKj7 _) ?_;unfold Z60_j7;all_goals rfl
  all_goals exact hj7
 intro e10;refine Qe (hKb10 _) ?_;try dsimp only
 all_goals rfl
def Z72_q (a0:Z7):Bool:=(((((decide (a0.FKind=(0:Int)))&&(decide (a0.FInt=(0:Int))))&&((a0.FText==([]:Bs))))&&(decide (((a0.FItems.l.length:Nat):Int)=(0:Int))))&&(decide (((a0.FKeys.l.length:Nat):Int)=(0:Int))))
theorem Z72_eq (a0:Z7):Z72 a0=some (Z72_q a0):=by
 unfold Z72 Z72_q;all_goals rfl
def Z70_q10 :List Z5->Option (Unit ⊕ Bool)
 | []=>some (Sum.inl ())
 | h10::r10=>on (h10) fun x18=>on (Z35_q x18.FName) fun x21=>guardO (!(!x21)) (Z60_q x18.FType) false fun x22=>guardO (!((!x21)||(!x22))) (Z68_q x18.FDirs) false fun x23=>bif (((!x21)||(!x22))||(!x23)) then(some (Sum.inr false)) else(guardO (x18.FHas) (Z45_q x18.FDefault) false fun x27=>guardO ((x18.FHas&&!(!x27))) (Z66_q x18.FDefault) false fun x28=>on (bif (!(x18.FHas&&((!x27)||(!x28)))&&(!x18.FHas)) then Z72_q x18.FDefault else false) fun x29=>bif ((x18.FHas&&((!x27)||(!x28)))||((!x18.FHas)&&(!x29))) then(some (Sum.inr false)) else(Z70_q10  (r10) ))
theorem Z70_l10_qe {a0:(Sl Z5)}  (Kb10:(Unit ⊕ Bool)->Option Bool) (hend:∀(n10:Nat) (s3_11:Nat),Z70_j7   =Kb10 (Sum.inl ())) (hret:∀e:Bool,some e=Kb10 (Sum.inr e)):∀(n10:Nat) (s3_11:Nat),(0<n10/\a0.l.length<s3_11+n10)->Z70_l10 a0 n10 s3_11=Option.bind (Z70_q10  (a0.l.drop s3_11) ) Kb10:=by
 intro n10;induction n10 with
 | zero=>intro s3_11 hn; exact absurd hn.1 (by omega)
 | succ n10 ih10 =>
  intro s3_11 hn;rw [Z70_l10];by_cases hlt:s3_11<a0.l.length
  ·obtain⟨h10,hh10⟩:=Qa hlt;rw [Q.drop_of hh10,Z70_q10];refine QT hlt ?_;refine Q.bindPO hh10 fun x18 hx_x18=>?_;refine Q.bindPO (Z35_eq _) fun x21 hx_x21=>?_;refine Q.guardOO (Z60_eq _) fun x22=>?_;refine Q.guardOO (Z68_eq _) fun x23=>?_;refine Q.condO ?_ ?_
   ·all_goals exact hret _
   refine Q.guardOO (Z45_eq _) fun x27=>?_;refine Q.guardOO (Z66_eq _) fun x28=>?_;refine Q.guardPO (Z72_eq _) fun x29 hx_x29=>?_;refine Q.condO ?_ ?_
   ·all_goals exact hret _
   all_goals exact ih10 _ ⟨by omega,by omega⟩
  rw [dL (by omega),Z70_q10];refine QF hlt ?_;exact hend n10 s3_11
def Z70_q (a0:(Sl Z5)):Option Bool:=bif (decide ((16:Int)<((a0.l.length:Nat):Int))) then(some false) else(Option.bind (Z70_q10  a0.l ) fun o10=>match o10 with|Sum.inl _=>(on (()) fun _=>some true)|Sum.inr e10=>(some e10))
theorem Z70_eq (a0:(Sl Z5)):Z70 a0=Z70_q a0:=by
 unfold Z70 Z70_q;refine Qs ?_;refine Q.condO ?_ ?_
 ·all_goals rfl
 refine Q.wrapOO fun Kb10 hKb10=>?_;refine Z70_l10_qe  Kb10 ?_ ?_ _ _ ⟨Nat.succ_pos _,by omega⟩
 ·intro n10 s3_11;refine Qe (hKb10 _) ?_;try dsimp only
  refine Q.wrapPO fun Kj7 hKj7=>?_;have hj7:Z70_j7  =Kj7 ():=by
   refine Qe (hKj7 _) ?_;unfold Z70_j7;all_goals rfl
  all_goals exact hj7
 intro e10;refine Qe (hKb10 _) ?_;try dsimp only
 all_goals rfl
def Z69_q10 :List Z4->Option (Unit ⊕ Bool)
 | []=>some (Sum.inl ())
 | h10::r10=>on (h10) fun x18=>on (Z35_q x18.FName) fun x19=>on (bif !(!x19) then h10 else Z4.zero) fun x20=>guardO (!(!x19)) (Z70_q x20.FArgs) false fun x21=>on (bif !((!x19)||(!x21)) then h10 else Z4.zero) fun x22=>guardO (!((!x19)||(!x21))) (Z60_q x22.FType) false fun x23=>on (bif !(((!x19)||(!x21))||(!x23)) then h10 else Z4.zero) fun x24=>guardO (!(((!x19)||(!x21))||(!x23))) (Z68_q x24.FDirs) false fun x25=>bif ((((!x19)||(!x21))||(!x23))||(!x25)) then(some (Sum.inr false)) else(Z69_q10  (r10) )
theorem Z69_l10_qe {a0:(Sl Z4)}  (Kb10:(Unit ⊕ Bool)->Option Bool) (hend:∀(n10:Nat) (s3_11:Nat),Z69_j7   =Kb10 (Sum.inl ())) (hret:∀e:Bool,some e=Kb10 (Sum.inr e)):∀(n10:Nat) (s3_11:Nat),(0<n10/\a0.l.length<s3_11+n10)->Z69_l10 a0 n10 s3_11=Option.bind (Z69_q10  (a0.l.drop s3_11) ) Kb10:=by
 intro n10;induction n10 with
 | zero=>intro s3_11 hn; exact absurd hn.1 (by omega)
 | succ n10 ih10 =>
  intro s3_11 hn;rw [Z69_l10];by_cases hlt:s3_11<a0.l.length
  ·obtain⟨h10,hh10⟩:=Qa hlt;rw [Q.drop_of hh10,Z69_q10];refine QT hlt ?_;refine Q.bindPO hh10 fun x18 hx_x18=>?_;refine Q.bindPO (Z35_eq _) fun x19 hx_x19=>?_;refine Q.guardPO hh10 fun x20 hx_x20=>?_;refine Q.guardOO (Z70_eq _) fun x21=>?_;refine Q.guardPO hh10 fun x22 hx_x22=>?_;refine Q.guardOO (Z60_eq _) fun x23=>?_;refine Q.guardPO hh10 fun x24 hx_x24=>?_;refine Q.guardOO (Z68_eq _) fun x25=>?_
   refine Q.condO ?_ ?_
   ·all_goals exact hret _
   all_goals exact ih10 _ ⟨by omega,by omega⟩
  rw [dL (by omega),Z69_q10];refine QF hlt ?_;exact hend n10 s3_11
def Z69_q (a0:(Sl Z4)):Option Bool:=bif ((decide (((a0.l.length:Nat):Int)<(1:Int)))||(decide ((64:Int)<((a0.l.length:Nat):Int)))) then(some false) else(Option.bind (Z69_q10  a0.l ) fun o10=>match o10 with|Sum.inl _=>(on (()) fun _=>some true)|Sum.inr e10=>(some e10))
theorem Z69_eq (a0:(Sl Z4)):Z69 a0=Z69_q a0:=by
 unfold Z69 Z69_q;refine Qs ?_;refine Q.condO ?_ ?_
 ·all_goals rfl
 refine Q.wrapOO fun Kb10 hKb10=>?_;refine Z69_l10_qe  Kb10 ?_ ?_ _ _ ⟨Nat.succ_pos _,by omega⟩
 ·intro n10 s3_11;refine Qe (hKb10 _) ?_;try dsimp only
  refine Q.wrapPO fun Kj7 hKj7=>?_;have hj7:Z69_j7  =Kj7 ():=by
   refine Qe (hKj7 _) ?_;unfold Z69_j7;all_goals rfl
  all_goals exact hj7
 intro e10;refine Qe (hKb10 _) ?_;try dsimp only
 all_goals rfl
def Z71_q10 (a1:Bool):List Z6->Option (Unit ⊕ Bool)
 | []=>some (Sum.inl ())
 | h10::r10=>on (h10) fun x18=>on (Z35_q x18.FName) fun x19=>on (bif !(!x19) then h10 else Z6.zero) fun x20=>guardO (!(!x19)) (Z68_q x20.FDirs) false fun x21=>on (bif (!((!x19)||(!x21))&&a1) then h10 else Z6.zero) fun x22=>bif (((!x19)||(!x21))||(a1&&(decide ((0:Int)<((x22.FDirs.l.length:Nat):Int))))) then(some (Sum.inr false)) else(Z71_q10 a1 (r10) )
theorem Z71_l10_qe {a0:(Sl Z6)}{a1:Bool}  (Kb10:(Unit ⊕ Bool)->Option Bool) (hend:∀(n10:Nat) (s5_11:Nat),Z71_j7   =Kb10 (Sum.inl ())) (hret:∀e:Bool,some e=Kb10 (Sum.inr e)):∀(n10:Nat) (s5_11:Nat),(0<n10/\a0.l.length<s5_11+n10)->Z71_l10 a0 a1 n10 s5_11=Option.bind (Z71_q10 a1 (a0.l.drop s5_11) ) Kb10:=by
 intro n10;induction n10 with
 | zero=>intro s5_11 hn; exact absurd hn.1 (by omega)
 | succ n10 ih10 =>
  intro s5_11 hn;rw [Z71_l10];by_cases hlt:s5_11<a0.l.length
  ·obtain⟨h10,hh10⟩:=Qa hlt;rw [Q.drop_of hh10,Z71_q10];refine QT hlt ?_;refine Q.bindPO hh10 fun x18 hx_x18=>?_;refine Q.bindPO (Z35_eq _) fun x19 hx_x19=>?_;refine Q.guardPO hh10 fun x20 hx_x20=>?_;refine Q.guardOO (Z68_eq _) fun x21=>?_;refine Q.guardPO hh10 fun x22 hx_x22=>?_;refine Q.condO ?_ ?_
   ·all_goals exact hret _
   all_goals exact ih10 _ ⟨by omega,by omega⟩
  rw [dL (by omega),Z71_q10];refine QF hlt ?_;exact hend n10 s5_11
def Z71_q (a0:(Sl Z6)) (a1:Bool):Option Bool:=bif ((decide (((a0.l.length:Nat):Int)<(1:Int)))||(decide ((64:Int)<((a0.l.length:Nat):Int)))) then(some false) else(Option.bind (Z71_q10 a1 a0.l ) fun o10=>match o10 with|Sum.inl _=>(on (()) fun _=>some true)|Sum.inr e10=>(some e10))
theorem Z71_eq (a0:(Sl Z6)) (a1:Bool):Z71 a0 a1=Z71_q a0 a1:=by
 unfold Z71 Z71_q;refine Qs ?_;refine Q.condO ?_ ?_
 ·all_goals rfl
 refine Q.wrapOO fun Kb10 hKb10=>?_;refine Z71_l10_qe  Kb10 ?_ ?_ _ _ ⟨Nat.succ_pos _,by omega⟩
 ·intro n10 s5_11;refine Qe (hKb10 _) ?_;try dsimp only
  refine Q.wrapPO fun Kj7 hKj7=>?_;have hj7:Z71_j7  =Kj7 ():=by
   refine Qe (hKj7 _) ?_;unfold Z71_j7;all_goals rfl
  all_goals exact hj7
 intro e10;refine Qe (hKb10 _) ?_;try dsimp only
 all_goals rfl
def Z67_q34 :List Bs->Unit ⊕ Bool
 | []=>Sum.inl ()
 | h34::r34=>on (h34) fun x42=>on (Z35_q x42) fun x43=>bif (!x43) then(Sum.inr false) else(Z67_q34  (r34) )
theorem Z67_l34_qe {a0:TDef}  (Kb34:(Unit ⊕ Bool)->Option Bool) (hend:∀(n34:Nat) (s3_35:Nat),Z67_j8 a0  =Kb34 (Sum.inl ())) (hret:∀e:Bool,some e=Kb34 (Sum.inr e)):∀(n34:Nat) (s3_35:Nat),(0<n34/\a0.FImplements.l.length<s3_35+n34)->Z67_l34 a0 n34 s3_35=Kb34 (Z67_q34  (a0.FImplements.l.drop s3_35) ):=by
 intro n34;induction n34 with
 | zero=>intro s3_35 hn; exact absurd hn.1 (by omega)
 | succ n34 ih34 =>
  intro s3_35 hn;rw [Z67_l34];by_cases hlt:s3_35<a0.FImplements.l.length
  ·obtain⟨h34,hh34⟩:=Qa hlt;rw [Q.drop_of hh34,Z67_q34];refine QT hlt ?_;refine Q.bindP hh34 fun x42 hx_x42=>?_;refine Q.bindP (Z35_eq _) fun x43 hx_x43=>?_;refine Q.condP ?_ ?_
   ·all_goals exact hret _
   all_goals exact ih34 _ ⟨by omega,by omega⟩
  rw [dL (by omega),Z67_q34];refine QF hlt ?_;exact hend n34 s3_35
def Z67_q (a0:TDef):Option Bool:=on (Z35_q a0.FName) fun x4=>guardO (!(!x4)) (Z68_q a0.FDirs) false fun x5=>bif (((!x4)||(!x5))||(decide ((64:Int)<((a0.FImplements.l.length:Nat):Int)))) then(some false) else(on (Z67_q34  a0.FImplements.l ) fun o34=>match o34 with|Sum.inl _=>(on (()) fun _=>bif (decide (a0.FKind=(1:Int))) then((Z69_q a0.FFields).bind fun x15=>some ((x15&&(decide (((a0.FMembers.l.length:Nat):Int)=(0:Int))))&&(decide (((a0.FInputs.l.length:Nat):Int)=(0:Int))))) else(bif (decide (a0.FKind=(2:Int))) then(guardO ((decide (((a0.FImplements.l.length:Nat):Int)=(0:Int)))) (Z69_q a0.FFields) false fun x19=>some ((((decide (((a0.FImplements.l.length:Nat):Int)=(0:Int)))&&x19)&&(decide (((a0.FMembers.l.length:Nat):Int)=(0:Int))))&&(decide (((a0.FInputs.l.length:Nat):Int)=(0:Int))))) else(bif (decide (a0.FKind=(3:Int))) then(guardO (((decide (((a0.FImplements.l.length:Nat):Int)=(0:Int)))&&(decide (((a0.FFields.l.length:Nat):Int)=(0:Int))))) (Z71_q a0.FMembers true) false fun x23=>some ((((decide (((a0.FImplements.l.length:Nat):Int)=(0:Int)))&&(decide (((a0.FFields.l.length:Nat):Int)=(0:Int))))&&x23)&&(decide (((a0.FInputs.l.length:Nat):Int)=(0:Int))))) else(bif (decide (a0.FKind=(4:Int))) then(guardO (((decide (((a0.FImplements.l.length:Nat):Int)=(0:Int)))&&(decide (((a0.FFields.l.length:Nat):Int)=(0:Int))))) (Z71_q a0.FMembers false) false fun x27=>some ((((decide (((a0.FImplements.l.length:Nat):Int)=(0:Int)))&&(decide (((a0.FFields.l.length:Nat):Int)=(0:Int))))&&x27)&&(decide (((a0.FInputs.l.length:Nat):Int)=(0:Int))))) else(bif (decide (a0.FKind=(5:Int))) then(guardO (((((decide (((a0.FImplements.l.length:Nat):Int)=(0:Int)))&&(decide (((a0.FFields.l.length:Nat):Int)=(0:Int))))&&(decide (((a0.FMembers.l.length:Nat):Int)=(0:Int))))&&(decide ((0:Int)<((a0.FInputs.l.length:Nat):Int))))) (Z70_q a0.FInputs) false fun x31=>some (((((decide (((a0.FImplements.l.length:Nat):Int)=(0:Int)))&&(decide (((a0.FFields.l.length:Nat):Int)=(0:Int))))&&(decide (((a0.FMembers.l.length:Nat):Int)=(0:Int))))&&(decide ((0:Int)<((a0.FInputs.l.length:Nat):Int))))&&x31)) else(some false))))))|Sum.inr e34=>(some e34))
theorem Z67_eq (a0:TDef):Z67 a0=Z67_q a0:=by
 unfold Z67 Z67_q;refine Qs ?_;refine Q.bindPO (Z35_eq _) fun x4 hx_x4=>?_;refine Q.guardOO (Z68_eq _) fun x5=>?_;refine Q.condO ?_ ?_
 ·all_goals rfl
 refine Q.wrapPO fun Kb34 hKb34=>?_;refine Z67_l34_qe  Kb34 ?_ ?_ _ _ ⟨Nat.succ_pos _,by omega⟩
 ·intro n34 s3_35;refine Qe (hKb34 _) ?_;try dsimp only
  refine Q.wrapPO fun Kj8 hKj8=>?_;have hj8:Z67_j8 a0 =Kj8 ():=by
   refine Qe (hKj8 _) ?_;unfold Z67_j8;refine Q.condO ?_ ?_
   ·refine Q.bindO (Z69_eq _) fun x15=>?_;all_goals rfl
   refine Q.condO ?_ ?_
   ·refine Q.guardOO (Z69_eq _) fun x19=>?_;all_goals rfl
   refine Q.condO ?_ ?_
   ·refine Q.guardOO (Z71_eq _ _) fun x23=>?_;all_goals rfl
   refine Q.condO ?_ ?_
   ·refine Q.guardOO (Z71_eq _ _) fun x27=>?_;all_goals rfl
   refine Q.condO ?_ ?_
   ·refine Q.guardOO (Z70_eq _) fun x31=>?_;all_goals rfl
   all_goals rfl
  all_goals exact hj8
 intro e34;refine Qe (hKb34 _) ?_;try dsimp only
 all_goals rfl
def Z64_q10 :List TDef->Option (Unit ⊕ Bool)
 | []=>some (Sum.inl ())
 | h10::r10=>on (h10) fun x18=>(Z67_q x18).bind fun x19=>bif (!x19) then(some (Sum.inr false)) else(Z64_q10  (r10) )
theorem Z64_l10_qe {a0:TDoc}  (Kb10:(Unit ⊕ Bool)->Option Bool) (hend:∀(n10:Nat) (s3_11:Nat),Z64_j7   =Kb10 (Sum.inl ())) (hret:∀e:Bool,some e=Kb10 (Sum.inr e)):∀(n10:Nat) (s3_11:Nat),(0<n10/\a0.FDefs.l.length<s3_11+n10)->Z64_l10 a0 n10 s3_11=Option.bind (Z64_q10  (a0.FDefs.l.drop s3_11) ) Kb10:=by
 intro n10;induction n10 with
 | zero=>intro s3_11 hn; exact absurd hn.1 (by omega)
 | succ n10 ih10 =>
  intro s3_11 hn;rw [Z64_l10];by_cases hlt:s3_11<a0.FDefs.l.length
  ·obtain⟨h10,hh10⟩:=Qa hlt;rw [Q.drop_of hh10,Z64_q10];refine QT hlt ?_;refine Q.bindPO hh10 fun x18 hx_x18=>?_;refine Q.bindO (Z67_eq _) fun x19=>?_;refine Q.condO ?_ ?_
   ·all_goals exact hret _
   all_goals exact ih10 _ ⟨by omega,by omega⟩
  rw [dL (by omega),Z64_q10];refine QF hlt ?_;exact hend n10 s3_11
def Z64_q (a0:TDoc):Option Bool:=bif ((decide (((a0.FDefs.l.length:Nat):Int)<(1:Int)))||(decide ((64:Int)<((a0.FDefs.l.length:Nat):Int)))) then(some false) else(Option.bind (Z64_q10  a0.FDefs.l ) fun o10=>match o10 with|Sum.inl _=>(on (()) fun _=>some true)|Sum.inr e10=>(some e10))
theorem Z64_eq (a0:TDoc):Z64 a0=Z64_q a0:=by
 unfold Z64 Z64_q;refine Qs ?_;refine Q.condO ?_ ?_
 ·all_goals rfl
 refine Q.wrapOO fun Kb10 hKb10=>?_;refine Z64_l10_qe  Kb10 ?_ ?_ _ _ ⟨Nat.succ_pos _,by omega⟩
 ·intro n10 s3_11;refine Qe (hKb10 _) ?_;try dsimp only
  refine Q.wrapPO fun Kj7 hKj7=>?_;have hj7:Z64_j7  =Kj7 ():=by
   refine Qe (hKj7 _) ?_;unfold Z64_j7;all_goals rfl
  all_goals exact hj7
 intro e10;refine Qe (hKb10 _) ?_;try dsimp only
 all_goals rfl
def Z54_q23 (a1:Int):List Bs->Int->Option (Int)
 | [],s5_24=>some s5_24
 | h23::r23,s5_24=>bif (decide (s5_24<=a1)) then((addC s5_24 (1:Int)).bind fun x31=>on (h23) fun x32=>(addC x31 ((x32.length:Nat):Int)).bind fun x34=>Z54_q23 a1 (r23) x34) else(some s5_24)
theorem Z54_l23_qe {a0:Z7}{a1:Int}{k_rec_122:Z7->Int->Option Int}  (Kb23:(Int)->Option Int) (hend:∀(n23:Nat) (s5_24:Int) (s6_25:Nat),Z54_j5 a0 a1 k_rec_122 s5_24=Kb23 s5_24):∀(n23:Nat) (s5_24:Int) (s6_25:Nat),(0<n23/\a0.FKeys.l.length<s6_25+n23)->Z54_l23 a0 a1 k_rec_122 n23 s5_24 s6_25=Option.bind (Z54_q23 a1 (a0.FKeys.l.drop s6_25) s5_24) Kb23:=by
 intro n23;induction n23 with
 | zero=>intro s5_24 s6_25 hn; exact absurd hn.1 (by omega)
 | succ n23 ih23 =>
  intro s5_24 s6_25 hn;rw [Z54_l23];by_cases hlt:s6_25<a0.FKeys.l.length
  ·obtain⟨h23,hh23⟩:=Qa hlt;rw [Q.drop_of hh23,Z54_q23];refine Q.condAT (Q.ltT hlt) ?_;refine Q.condO ?_ ?_
   ·refine Q.bindO rfl fun x31=>?_;refine Q.bindPO hh23 fun x32 hx_x32=>?_;refine Q.bindO rfl fun x34=>?_;all_goals exact ih23 _ _ ⟨by omega,by omega⟩
   all_goals exact hend n23 s5_24 s6_25
  rw [dL (by omega),Z54_q23];refine Q.condAF (Q.ltF hlt) ?_;exact hend n23 s5_24 s6_25
def Z54_q11 (a1:Int) (k_rec_122:Z7->Int->Option Int):List Z7->Int->Option (Int)
 | [],s5_12=>some s5_12
 | h11::r11,s5_12=>bif (decide (s5_12<=a1)) then(on (h11) fun x19=>(k_rec_122 x19 a1).bind fun x20=>(addC s5_12 x20).bind fun x21=>Z54_q11 a1 k_rec_122 (r11) x21) else(some s5_12)
theorem Z54_l11_qe {a0:Z7}{a1:Int}{k_rec_122:Z7->Int->Option Int}  (Kb11:(Int)->Option Int) (hend:∀(n11:Nat) (s5_12:Int) (s7_13:Nat),Z54_j7   s5_12=Kb11 s5_12):∀(n11:Nat) (s5_12:Int) (s7_13:Nat),(0<n11/\a0.FItems.l.length<s7_13+n11)->Z54_l11 a0 a1 k_rec_122 n11 s5_12 s7_13=Option.bind (Z54_q11 a1 k_rec_122 (a0.FItems.l.drop s7_13) s5_12) Kb11:=by
 intro n11;induction n11 with
 | zero=>intro s5_12 s7_13 hn; exact absurd hn.1 (by omega)
 | succ n11 ih11 =>
  intro s5_12 s7_13 hn;rw [Z54_l11];by_cases hlt:s7_13<a0.FItems.l.length
  ·obtain⟨h11,hh11⟩:=Qa hlt;rw [Q.drop_of hh11,Z54_q11];refine Q.condAT (Q.ltT hlt) ?_;refine Q.condO ?_ ?_
   ·refine Q.bindPO hh11 fun x19 hx_x19=>?_;refine Q.bindO rfl fun x20=>?_;refine Q.bindO rfl fun x21=>?_;all_goals exact ih11 _ _ ⟨by omega,by omega⟩
   all_goals exact hend n11 s5_12 s7_13
  rw [dL (by omega),Z54_q11];refine Q.condAF (Q.ltF hlt) ?_;exact hend n11 s5_12 s7_13
def Z54_qn:Nat->Z7->Int->Option Int
 | 0,_,_=>none
 | n+1,a0,a1=>(addC (1:Int) ((a0.FText.length:Nat):Int)).bind fun x4=>Option.bind (Z54_q23 a1 a0.FKeys.l x4) fun s5_24=>on (s5_24) fun s5_6=>Option.bind (Z54_q11 a1 (Z54_qn n) a0.FItems.l s5_6) fun s5_12=>on (s5_12) fun s5_8=>some s5_8
theorem Z54_qall:∀n:Nat,Z54_n n=Z54_qn n:=by
 intro n;induction n with
 | zero=>exact(by funext a0 a1; first|rfl|(rw [Z54_n,Z54_qn]))
 | succ n ih =>
  funext a0 a1
  refine Qs ?_;rw [Z54_n,Z54_qn];try rw [ih]
  refine Q.bindO rfl fun x4=>?_;refine Q.wrapOO fun Kb23 hKb23=>?_;refine Z54_l23_qe  Kb23 ?_ _ _ _ ⟨Nat.succ_pos _,by omega⟩;intro n23 s5_24 s6_25;refine Qe (hKb23 _) ?_;refine Q.wrapPO fun Kj5 hKj5=>?_;have hj5:∀(s5_6:Int),Z54_j5 a0 a1 (Z54_qn n) s5_6=Kj5 s5_6:=by
   intro s5_6;refine Qe (hKj5 _) ?_;unfold Z54_j5;refine Q.wrapOO fun Kb11 hKb11=>?_;refine Z54_l11_qe  Kb11 ?_ _ _ _ ⟨Nat.succ_pos _,by omega⟩;intro n11 s5_12 s7_13;refine Qe (hKb11 _) ?_;refine Q.wrapPO fun Kj7 hKj7=>?_;have hj7:∀(s5_8:Int),Z54_j7  s5_8=Kj7 s5_8:=by
    intro s5_8;refine Qe (hKj7 _) ?_;unfold Z54_j7;all_goals rfl
   all_goals exact hj7 _
  all_goals exact hj5 _
def Z54_q (a0:Z7) (a1:Int):Option Int:=Z54_qn F0 a0 a1
theorem Z54_eq (a0:Z7) (a1:Int):Z54 a0 a1=Z54_q a0 a1:=by
 unfold Z54 Z54_q; rw [(Z54_qall F0)]
def Z73_q19 (a1:Int) (h7:TDir):List TArg->Int->Option (Int)
 | [],s5_20=>some s5_20
 | h19::r19,s5_20=>bif (decide (s5_20<=a1)) then((addC s5_20 (1:Int)).bind fun x28=>on (h7) fun x29=>on (h19) fun x30=>(Z54_q x30.FValue a1).bind fun x31=>(addC x28 x31).bind fun x32=>Z73_q19 a1 h7 (r19) x32) else(some s5_20)
theorem Z73_l19_qe {a0:(Sl TDir)}{a1:Int}{s6_9:Nat}{k_next_7:Int->Nat->Option Int}{h7:TDir}(hh7:a0.l[s6_9]?=some h7) (Kb19:(Int)->Option Int) (hend:∀(n19:Nat) (s5_20:Int) (s7_21:Nat),Z73_j14 s6_9 k_next_7 s5_20=Kb19 s5_20):∀(n19:Nat) (s5_20:Int) (s7_21:Nat),(0<n19/\h7.FArgs.l.length<s7_21+n19)->Z73_l19 a0 a1 s6_9 k_next_7 n19 s5_20 s7_21=Option.bind (Z73_q19 a1 h7 (h7.FArgs.l.drop s7_21) s5_20) Kb19:=by
 intro n19;induction n19 with
 | zero=>intro s5_20 s7_21 hn; exact absurd hn.1 (by omega)
 | succ n19 ih19 =>
  intro s5_20 s7_21 hn;rw [Z73_l19];refine Q.preB hh7 fun x24 hx_x24=>?_;subst hx_x24;by_cases hlt:s7_21<x24.FArgs.l.length
  ·obtain⟨h19,hh19⟩:=Qa hlt;rw [Q.drop_of hh19,Z73_q19];refine Q.condAT (Q.ltT hlt) ?_;refine Q.condO ?_ ?_
   ·refine Q.bindO rfl fun x28=>?_;refine Q.bindPO hh7 fun x29 hx_x29=>?_;refine Q.bindPO (by first|exact hh19|(simp only [hx_x29]; exact hh19)|(simp only [hx_x29] at hh19 ⊢; exact hh19)) fun x30 hx_x30=>?_;refine Q.bindO (Z54_eq _ _) fun x31=>?_;refine Q.bindO rfl fun x32=>?_;all_goals exact ih19 _ _ ⟨by omega,by omega⟩
   all_goals exact hend n19 s5_20 s7_21
  rw [dL (by omega),Z73_q19];refine Q.condAF (Q.ltF hlt) ?_;exact hend n19 s5_20 s7_21
def Z73_q7 (a1:Int):List TDir->Int->Option (Int)
 | [],s5_8=>some s5_8
 | h7::r7,s5_8=>bif (decide (s5_8<=a1)) then((addC s5_8 (1:Int)).bind fun x17=>Option.bind (Z73_q19 a1 h7 h7.FArgs.l x17) fun s5_20=>on (s5_20) fun s5_15=>Z73_q7 a1 (r7) s5_15) else(some s5_8)
theorem Z73_l7_qe {a0:(Sl TDir)}{a1:Int}  (Kb7:(Int)->Option Int) (hend:∀(n7:Nat) (s5_8:Int) (s6_9:Nat),Z73_j3   s5_8=Kb7 s5_8):∀(n7:Nat) (s5_8:Int) (s6_9:Nat),(0<n7/\a0.l.length<s6_9+n7)->Z73_l7 a0 a1 n7 s5_8 s6_9=Option.bind (Z73_q7 a1 (a0.l.drop s6_9) s5_8) Kb7:=by
 intro n7;induction n7 with
 | zero=>intro s5_8 s6_9 hn; exact absurd hn.1 (by omega)
 | succ n7 ih7 =>
  intro s5_8 s6_9 hn;rw [Z73_l7];by_cases hlt:s6_9<a0.l.length
  ·obtain⟨h7,hh7⟩:=Qa hlt;rw [Q.drop_of hh7,Z73_q7];refine Q.condAT (Q.ltT hlt) ?_;refine Q.condO ?_ ?_
   ·refine Q.bindO rfl fun x17=>?_;refine Q.wrapOO fun Kb19 hKb19=>?_;refine Z73_l19_qe hh7 Kb19 ?_ _ _ _ ⟨by rw [hh7]; exact Nat.succ_pos _,by rw [hh7]; simp only [Option.elim]; omega⟩;intro n19 s5_20 s7_21;refine Qe (hKb19 _) ?_;refine Q.wrapPO fun Kj14 hKj14=>?_;have hj14:∀(s5_15:Int),Z73_j14 s6_9 (Z73_l7 a0 a1 n7) s5_15=Kj14 s5_15:=by
     intro s5_15;refine Qe (hKj14 _) ?_;unfold Z73_j14;all_goals exact ih7 _ _ ⟨by omega,by omega⟩
    all_goals exact hj14 _
   all_goals exact hend n7 s5_8 s6_9
  rw [dL (by omega),Z73_q7];refine Q.condAF (Q.ltF hlt) ?_;exact hend n7 s5_8 s6_9
def Z73_q (a0:(Sl TDir)) (a1:Int):Option Int:=Option.bind (Z73_q7 a1 a0.l (0:Int)) fun s5_8=>on (s5_8) fun s5_4=>some s5_4
theorem Z73_eq (a0:(Sl TDir)) (a1:Int):Z73 a0 a1=Z73_q a0 a1:=by
 unfold Z73 Z73_q;refine Qs ?_;refine Q.wrapOO fun Kb7 hKb7=>?_;refine Z73_l7_qe  Kb7 ?_ _ _ _ ⟨Nat.succ_pos _,by omega⟩;intro n7 s5_8 s6_9;refine Qe (hKb7 _) ?_;refine Q.wrapPO fun Kj3 hKj3=>?_;have hj3:∀(s5_4:Int),Z73_j3  s5_4=Kj3 s5_4:=by
  intro s5_4;refine Qe (hKj3 _) ?_;unfold Z73_j3;all_goals rfl
 all_goals exact hj3 _
end Go.Proofs
