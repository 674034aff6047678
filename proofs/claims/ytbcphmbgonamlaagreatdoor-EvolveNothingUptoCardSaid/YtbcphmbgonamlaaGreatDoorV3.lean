import Derived.Test.YtbcphmbgonamlaaGreatDoorV2
set_option maxRecDepth 100000
set_option maxHeartbeats 2000000
set_option linter.unusedVariables false
set_option linter.unusedSimpArgs false
namespace Go.Proofs
open Go Go.Ab
open AOps Cert AWp Keeps KeepsT
variable {lou:Lou}
def Z96_j16  (s10_17:(Sl Z6)):Option (Sl Z6):=some s10_17
def Z96_j27 (s14_22:Nat) (k_next_20:(Sl Z6)->Nat->Option (Sl Z6)) (s10_28:(Sl Z6)):Option (Sl Z6):=k_next_20 s10_28 (s14_22+1)
def Z96_l20 (a2:Z7) (x4:Bs) (x6:(Z7×Bool)) :Nat->(Sl Z6)->Nat->Option (Sl Z6)
 | 0,_,_=>none
 | n20+1,s10_21,s14_22=>bif (decide (((s14_22:Nat):Int)<((x6.1.FArgs.l.length:Nat):Int))) then((x6.1.FArgs.l[s14_22]?).bind fun x30=>(Z76 a2.FArgs x30.FName).bind fun x31=>guardO ((!x31.2)) (x6.1.FArgs.l[s14_22]?) Z9.zero fun x33=>guardO ((!x31.2)) (Z52 x33.FType) false fun x34=>guardO (((!x31.2)&&x34)) (x6.1.FArgs.l[s14_22]?) Z9.zero fun x35=>bif (((!x31.2)&&x34)&&(!x35.FHas)) then((catC x4 ([40]:Bs)).bind fun x37=>(x6.1.FArgs.l[s14_22]?).bind fun x38=>(catC x37 x38.FName).bind fun x39=>(catC x39 ([41]:Bs)).bind fun x40=>(appC 24 s10_21 (⟨false,[(Z6.mk (22:Int) x40)]⟩:Sl Z6)).bind fun x41=>Z96_j27 s14_22 ((Z96_l20 a2 x4 x6 n20)) x41) else(Z96_j27 s14_22 ((Z96_l20 a2 x4 x6 n20)) s10_21)) else(Z96_j16   s10_21)
def Z96_j14 (a2:Z7) (x4:Bs) (x6:(Z7×Bool))  (s10_15:(Sl Z6)):Option (Sl Z6):=Z96_l20 a2 x4 x6 (x6.1.FArgs.l.length+1) s10_15 0
def Z96_j50 (s11_45:Nat) (k_next_43:(Sl Z6)->Nat->Option (Sl Z6)) (s10_51:(Sl Z6)):Option (Sl Z6):=k_next_43 s10_51 (s11_45+1)
def Z96_l43 (a2:Z7) (x4:Bs) (x6:(Z7×Bool)) :Nat->(Sl Z6)->Nat->Option (Sl Z6)
 | 0,_,_=>none
 | n43+1,s10_44,s11_45=>bif (decide (((s11_45:Nat):Int)<((a2.FArgs.l.length:Nat):Int))) then((a2.FArgs.l[s11_45]?).bind fun x53=>(Z76 x6.1.FArgs x53.FName).bind fun x54=>guardO (!(!x54.2)) (a2.FArgs.l[s11_45]?) Z9.zero fun x56=>guardO (!(!x54.2)) (Z55 x54.1.FType x56.FType) false fun x57=>bif ((!x54.2)||(!x57)) then((catC x4 ([40]:Bs)).bind fun x59=>(a2.FArgs.l[s11_45]?).bind fun x60=>(catC x59 x60.FName).bind fun x61=>(catC x61 ([41]:Bs)).bind fun x62=>(appC 24 s10_44 (⟨false,[(Z6.mk (22:Int) x62)]⟩:Sl Z6)).bind fun x63=>Z96_j50 s11_45 ((Z96_l43 a2 x4 x6 n43)) x63) else(Z96_j50 s11_45 ((Z96_l43 a2 x4 x6 n43)) s10_44)) else(Z96_j14 a2 x4 x6  s10_44)
def Z96_j12 (a2:Z7) (x4:Bs) (x6:(Z7×Bool))  (s10_13:(Sl Z6)):Option (Sl Z6):=Z96_l43 a2 x4 x6 (a2.FArgs.l.length+1) s10_13 0
def Z96 (a0:TDoc) (a1:TDef) (a2:Z7):Option (Sl Z6):=(catC a1.FName ([46]:Bs)).bind fun x3=>(catC x3 a2.FName).bind fun x4=>(Z74 a1 a2.FName).bind fun x6=>bif (!x6.2) then(some (⟨false,[(Z6.mk (20:Int) x4)]⟩:Sl Z6)) else((Z95 a0 x6.1.FType a2.FType).bind fun x65=>bif (!x65) then((appC 24 (Sl.nil:Sl Z6) (⟨false,[(Z6.mk (10:Int) x4)]⟩:Sl Z6)).bind fun x67=>Z96_j12 a2 x4 x6  x67) else(Z96_j12 a2 x4 x6  (Sl.nil:Sl Z6)))
theorem Z96_walk {a0:TDoc}{a1:TDef}{a2:Z7}{r:Sl Z6}(hE:Z96 a0 a1 a2=some r) (H:Heap) :ACalls Tryz.prog 132 [.agg (TDoc.c a0),.agg (TDef.c a1),.agg (Z7.c a2)] H fun v h'=>v=.a (.d (Sl.d 2 Z6.c none r))/\h'=H:=by
 unfold Z96 at hE;refine ACalls.oW 148 [.tmp 6] Tryz.call132 Tryz.func132 ?_;refine AWp.tok 2 fun tk1 htk1=>?_;refine seqR (S BX (S BX (S BX ?_)));refine s0 (assignNil (k':=2) rfl) rfl ?_;refine nil ?_;refine seqR (S Fv (S Ld ?_));obtain⟨x3,gx3,hE⟩:=bO hE;refine s0 (catM rfl rfl gx3) rfl ?_;refine S Fv (S Ld ?_);obtain⟨x4,gx4,hE⟩:=bO hE;refine s0 (catM rfl rfl gx4) rfl ?_;refine S As (nil ?_);refine seqR (S Ld (S Fv (S Ld ?_)))
 obtain⟨x6,gx6,hE⟩:=bO hE;refine Sc rfl rfl (Z74_walk gx6) ?_;refine S Mv (S EX (S EX ?_));refine Sl ?_;refine Sf ?_;refine S As (nil ?_);refine freezeA 8 _ rfl (KA 3 (KA 5 (KA 7 (KA 9 Keeps.nil)))) ?_;refine seqK fun K7 hK7=>?_;refine seqR (S Mv (S NB (nil ?_)));refine cE hE (fun hc9 hE=>?_) (fun hc9 hE=>?_)
 ·refine seqR (S Mv (S BU (S BV (S As (nil ?_)))));refine AWp.ret ?_;repeat (first|refine xBlock_ret ?_|refine xThen_ret ?_)
  obtain rfl:=Option.some.inj hE;refine retQ.retF H rfl ⟨rfl,rfl⟩ ?_
  first|exact Heap.sub_set htk1|(simp only [Heap.set_set]; exact Heap.sub_set htk1)
 refine sk hK7 ?_;clear hK7 K7;refine seqR (S As (nil ?_));refine AWp.nilTok 10 2 tk1 rfl hpG ?_;refine seqJH (TA 5 (TA 7 (TA 8 KeepsT.nil))) (fun(z:(Sl Z6))=>[(10,.a (.d (Sl.d 2 Z6.c (some tk1) z)))]) (fun z=>(H.set tk1 (some (.tok 2 z.l.length)))) (fun z=>Z96_j12 a2 x4 x6 z=some r) ?_ ?_
 ·intro K12 hK12;refine seqR (S Ld (S Fv (S Ld (S Fv (S Ld ?_)))));obtain⟨x65,gx65,hE⟩:=bO hE;refine Sc rfl rfl (Z95_walk gx65) ?_;refine S NB (nil ?_);refine cE hE (fun hc66 hE=>?_) (fun hc66 hE=>?_)
  ·refine region ?_;refine S Mv (S Mv (S BU (S BV ?_)));obtain⟨x67,gx67,hE⟩:=bO hE;refine SH (am Z6.c (TK rfl) rfl (TK rfl) (TK rfl) gx67) ?_;refine hq (H.set tk1 (some (.tok 2 x67.l.length))) ?_;refine S As (nil ?_);exact hK12 _ x67 Weak.toA hE
  refine AWp.skip ?_;exact hK12 _ (Sl.nil:Sl Z6) Weak.toA hE
 rintro s10_13 hE;try dsimp only at hE
 unfold Z96_j12 at hE;refine seqJH (TA 5 (TA 7 (TA 8 KeepsT.nil))) (fun(z:(Sl Z6))=>[(10,.a (.d (Sl.d 2 Z6.c (some tk1) z)))]) (fun z=>(H.set tk1 (some (.tok 2 z.l.length)))) (fun z=>Z96_j14 a2 x4 x6 z=some r) ?_ ?_
 ·intro K14 hK14;refine seqR (S As (nil ?_));refine block ?_;refine loopH (TA 5 (TA 7 (TA 8 KeepsT.nil))) (fun(z:Nat×(Sl Z6)×Nat)=>[(10,.a (.d (Sl.d 2 Z6.c (some tk1) z.2.1))),(11,.a (.d (.int .i64 ((z.2.2:Nat):Int))))]) (fun z=>(H.set tk1 (some (.tok 2 z.2.1.l.length)))) (fun z=>z.1) (fun z=>Z96_l43 a2 x4 x6 z.1 z.2.1 z.2.2=some r) ((a2.FArgs.l.length+1),s10_13,0) hE Weak.toA ?_;rintro ⟨n43,s10_44,s11_45⟩ hE K43 hK43
  try dsimp only at hE
  cases n43 with
  | zero=>cases hE
  | succ n43 =>
    rw [Z96_l43] at hE;refine seqK fun K46 hK46=>?_;refine seqR (S Mv (S Fv (S Ld ?_)));refine sLen (f:=Z9.c) (s:=a2.FArgs) (TK rfl) rfl rfl rfl rfl fun hL48=>?_;refine S BI (nil ?_);refine cE hE (fun hc49 hE=>?_) (fun hc49 hE=>?_)
    ·try dsimp only at hc49
     have hf49:=of_decide_eq_true hc49;refine sk hK46 ?_;clear hK46 K46;refine seqJH (TA 5 (TA 7 (TA 8 (TA 11 KeepsT.nil)))) (fun(z:(Sl Z6))=>[(10,.a (.d (Sl.d 2 Z6.c (some tk1) z)))]) (fun z=>(H.set tk1 (some (.tok 2 z.l.length)))) (fun z=>Z96_j50 s11_45 ((Z96_l43 a2 x4 x6 n43)) z=some r) ?_ ?_
     ·intro K50 hK50;refine block ?_;refine AWp.seqD (Sd Fv (Sd Ld (Sd Fv (Sd Ld (Sd Mv ?_)))));obtain⟨x53,gx53,hE⟩:=bO hE;refine Sd (ix Z9.c s11_45 gx53) (Sd Fv (Sd Ld ?_));obtain⟨x54,gx54,hE⟩:=bO hE;refine Scd rfl rfl (Z76_walk gx54) ?_;refine Sd Mv (Sd EX (Sd EX ?_));refine DOps.sB (TK rfl) rfl rfl ?_ (by repeat (first|exact Snoc.nil|apply Snoc.cons));refine DOps.sLn (storeLFA (TK rfl) rfl rfl rfl rfl rfl) ?_
      refine Sd As ?_;refine DOps.nil (by decide +kernel) ?_;refine freezeA 12 _ rfl (KA 5 (KA 7 (KA 8 (KA 10 (KA 11 (KA 13 Keeps.nil)))))) ?_;refine AWp.seqD (Sd Mv (Sd NB (Sd Mv (G0d Fv ?_))));refine G1d 69 rfl Ld ?_;refine G0d Fv ?_;refine G1d 71 rfl Ld ?_;refine G0d Mv ?_;obtain⟨x56,gx56,hE⟩:=gO hE;refine DOps.gC rfl rfl (fun hC=>ungdA (k:=72) rfl (ungdA (k:=73) rfl (idxMn (f:=Z9.c) (n:=s11_45) (TK rfl) rfl (TK rfl) rfl rfl rfl (gx56 hC)))) rfl ?_
      refine G1d 74 rfl Fv ?_;refine G1d 75 rfl Ld ?_;obtain⟨x57,gx57,hE⟩:=gO hE;refine Gc2d 70 76 rfl rfl rfl rfl rfl rfl (fun hC=>Z55_walk (gx57 hC)) ?_;refine G1d 77 rfl NB ?_;refine Sd PO ?_;refine DOps.nil (by decide +kernel) ?_;refine cE hE (fun hc58 hE=>?_) (fun hc58 hE=>?_)
      ·refine region ?_;refine S Mv (S Mv ?_);obtain⟨x59,gx59,hE⟩:=bO hE;refine s0 (catM rfl rfl gx59) rfl ?_;refine S Fv (S Ld (S Mv ?_));obtain⟨x60,gx60,hE⟩:=bO hE;refine S (ix Z9.c s11_45 gx60) (S Fv (S Ld ?_));obtain⟨x61,gx61,hE⟩:=bO hE;refine s0 (catM rfl rfl gx61) rfl ?_;obtain⟨x62,gx62,hE⟩:=bO hE;refine s0 (catM rfl rfl gx62) rfl ?_;refine S BU (S BV ?_);obtain⟨x63,gx63,hE⟩:=bO hE;refine SH (am Z6.c (TK rfl) rfl (TK rfl) (TK rfl) gx63) ?_
       refine hq (H.set tk1 (some (.tok 2 x63.l.length))) ?_;refine S As (nil ?_);exact hK50 _ x63 Weak.toA hE
      refine AWp.skip ?_;exact hK50 _ s10_44 Weak.toA hE
     rintro s10_51 hE;try dsimp only at hE
     unfold Z96_j50 at hE;refine region ?_;refine S Mv ?_;refine SI ?_;refine S As (nil ?_);exact hK43 _ (n43,s10_51,(s11_45+1)) Weak.toA hE (Nat.lt_succ_self _)
    refine AWp.exit ?_;exact hK14 _ s10_44 Weak.toA hE
 rintro s10_15 hE;try dsimp only at hE
 unfold Z96_j14 at hE;refine seqJH KeepsT.nil (fun(z:(Sl Z6))=>[(10,.a (.d (Sl.d 2 Z6.c (some tk1) z)))]) (fun z=>(H.set tk1 (some (.tok 2 z.l.length)))) (fun z=>Z96_j16 z=some r) ?_ ?_
 ·intro K16 hK16;refine seqR (S As (nil ?_));refine block ?_;refine loopH (TA 5 (TA 7 (TA 8 KeepsT.nil))) (fun(z:Nat×(Sl Z6)×Nat)=>[(10,.a (.d (Sl.d 2 Z6.c (some tk1) z.2.1))),(14,.a (.d (.int .i64 ((z.2.2:Nat):Int))))]) (fun z=>(H.set tk1 (some (.tok 2 z.2.1.l.length)))) (fun z=>z.1) (fun z=>Z96_l20 a2 x4 x6 z.1 z.2.1 z.2.2=some r) ((x6.1.FArgs.l.length+1),s10_15,0) hE Weak.toA ?_;rintro ⟨n20,s10_21,s14_22⟩ hE K20 hK20
  try dsimp only at hE
  cases n20 with
  | zero=>cases hE
  | succ n20 =>
    rw [Z96_l20] at hE;refine seqK fun K23 hK23=>?_;refine seqR (S Mv (S Fv (S Ld ?_)));refine sLen (f:=Z9.c) (s:=x6.1.FArgs) (TK rfl) rfl rfl rfl rfl fun hL25=>?_;refine S BI (nil ?_);refine cE hE (fun hc26 hE=>?_) (fun hc26 hE=>?_)
    ·try dsimp only at hc26
     have hf26:=of_decide_eq_true hc26;refine sk hK23 ?_;clear hK23 K23;refine seqJH (TA 5 (TA 7 (TA 8 (TA 14 KeepsT.nil)))) (fun(z:(Sl Z6))=>[(10,.a (.d (Sl.d 2 Z6.c (some tk1) z)))]) (fun z=>(H.set tk1 (some (.tok 2 z.l.length)))) (fun z=>Z96_j27 s14_22 ((Z96_l20 a2 x4 x6 n20)) z=some r) ?_ ?_
     ·intro K27 hK27;refine block ?_;refine AWp.seqD (Sd Fv (Sd Ld (Sd Fv (Sd Ld (Sd Mv ?_)))));obtain⟨x30,gx30,hE⟩:=bO hE;refine Sd (ix Z9.c s14_22 gx30) (Sd Fv (Sd Ld ?_));obtain⟨x31,gx31,hE⟩:=bO hE;refine Scd rfl rfl (Z76_walk gx31) ?_;refine Sd Mv (Sd EX (Sd EX ?_));refine DOps.sB (TK rfl) rfl rfl ?_ (by repeat (first|exact Snoc.nil|apply Snoc.cons));refine DOps.sLn (storeLFA (TK rfl) rfl rfl rfl rfl rfl) ?_
      refine Sd As ?_;refine DOps.nil (by decide +kernel) ?_;refine freezeA 15 _ rfl (KA 5 (KA 7 (KA 8 (KA 10 (KA 14 (KA 16 Keeps.nil)))))) ?_;refine seqR (S Mv (S NB (S Mv (G0 Fv ?_))));refine G1 116 rfl Ld ?_;refine G0 Mv ?_;obtain⟨x33,gx33,hE⟩:=gO hE;refine gC rfl rfl (fun hC=>ungdA (k:=117) rfl (ungdA (k:=118) rfl (idxMn (f:=Z9.c) (n:=s14_22) (TK rfl) rfl (TK rfl) rfl rfl rfl (gx33 hC)))) rfl ?_
      refine G1 119 rfl Fv ?_;refine G1 120 rfl Ld ?_;obtain⟨x34,gx34,hE⟩:=gO hE;refine Gc1 121 rfl rfl rfl rfl rfl (fun hC=>Z52_walk (gx34 hC)) ?_;refine S PA (S Mv (G0 Fv ?_));refine G1 125 rfl Ld ?_;refine G0 Mv ?_;obtain⟨x35,gx35,hE⟩:=gO hE;refine gC rfl rfl (fun hC=>ungdA (k:=126) rfl (ungdA (k:=127) rfl (idxMn (f:=Z9.c) (n:=s14_22) (TK rfl) rfl (TK rfl) rfl rfl rfl (gx35 hC)))) rfl ?_;refine G1 128 rfl Fv ?_
      refine G1 129 rfl Ld ?_;refine G1 130 rfl NB ?_;refine S PA (nil ?_);refine cE hE (fun hc36 hE=>?_) (fun hc36 hE=>?_)
      ·refine region ?_;refine S Mv (S Mv ?_);obtain⟨x37,gx37,hE⟩:=bO hE;refine s0 (catM rfl rfl gx37) rfl ?_;refine S Fv (S Ld (S Mv ?_));obtain⟨x38,gx38,hE⟩:=bO hE;refine S (ix Z9.c s14_22 gx38) (S Fv (S Ld ?_));obtain⟨x39,gx39,hE⟩:=bO hE;refine s0 (catM rfl rfl gx39) rfl ?_;obtain⟨x40,gx40,hE⟩:=bO hE;refine s0 (catM rfl rfl gx40) rfl ?_;refine S BU (S BV ?_);obtain⟨x41,gx41,hE⟩:=bO hE;refine SH (am Z6.c (TK rfl) rfl (TK rfl) (TK rfl) gx41) ?_
       refine hq (H.set tk1 (some (.tok 2 x41.l.length))) ?_;refine S As (nil ?_);exact hK27 _ x41 Weak.toA hE
      refine AWp.skip ?_;exact hK27 _ s10_21 Weak.toA hE
     rintro s10_28 hE;try dsimp only at hE
     unfold Z96_j27 at hE;refine region ?_;refine S Mv ?_;refine SI ?_;refine S As (nil ?_);exact hK20 _ (n20,s10_28,(s14_22+1)) Weak.toA hE (Nat.lt_succ_self _)
    refine AWp.exit ?_;exact hK16 _ s10_21 Weak.toA hE
 rintro s10_17 hE;try dsimp only at hE
 unfold Z96_j16 at hE;refine seqR (S Mv (S As (nil ?_)));refine AWp.dropTok 6 rfl ?_;refine AWp.ret ?_;repeat (first|refine xBlock_ret ?_|refine xThen_ret ?_)
 obtain rfl:=Option.some.inj hE;refine retQ.retF H rfl ⟨rfl,rfl⟩ ?_
 first|exact Heap.sub_set htk1|(simp only [Heap.set_set]; exact Heap.sub_set htk1)
def Z101_j3  (s5_4:(Sl Z6)):Option (Sl Z6):=some s5_4
def Z101_j14 (s6_9:Nat) (k_next_7:(Sl Z6)->Nat->Option (Sl Z6)) (s5_15:(Sl Z6)):Option (Sl Z6):=k_next_7 s5_15 (s6_9+1)
def Z101_l30 (a0:TDoc) (a1:TDef) (s6_9:Nat) (x28:(TDef×Bool)) (k_next_7:(Sl Z6)->Nat->Option (Sl Z6)):Nat->(Sl Z6)->Nat->Option (Sl Z6)
 | 0,_,_=>none
 | n30+1,s5_31,s10_32=>bif (decide (((s10_32:Nat):Int)<((x28.1.FFields.l.length:Nat):Int))) then((x28.1.FFields.l[s10_32]?).bind fun x38=>(Z96 a0 a1 x38).bind fun x39=>(appC 24 s5_31 x39).bind fun x40=>(Z101_l30 a0 a1 s6_9 x28 k_next_7 n30) x40 (s10_32+1)) else(Z101_j14 s6_9 k_next_7 s5_31)
def Z101_j19 (a0:TDoc) (a1:TDef) (s5_8:(Sl Z6)) (s6_9:Nat) (k_next_7:(Sl Z6)->Nat->Option (Sl Z6)) (s7_20:Int):Option (Sl Z6):=bif (!decide (s7_20=(0:Int))) then((appC 24 s5_8 (⟨false,[(Z6.mk s7_20 a1.FName)]⟩:Sl Z6)).bind fun x25=>Z101_j14 s6_9 k_next_7 x25) else((a1.FImplements.l[s6_9]?).bind fun x27=>(Z75 a0 x27).bind fun x28=>Z101_l30 a0 a1 s6_9 x28 k_next_7 (x28.1.FFields.l.length+1) s5_8 0)
def Z101_l7 (a0:TDoc) (a1:TDef) :Nat->(Sl Z6)->Nat->Option (Sl Z6)
 | 0,_,_=>none
 | n7+1,s5_8,s6_9=>bif (decide (((s6_9:Nat):Int)<((a1.FImplements.l.length:Nat):Int))) then((a1.FImplements.l[s6_9]?).bind fun x17=>(Z99 a0 x17 (2:Int)).bind fun x18=>guardO ((decide (x18=(0:Int)))) (partC a1.FImplements none (some ((s6_9:Nat):Int))) (Sl.nil:Sl Bs) fun x42=>guardO ((decide (x18=(0:Int)))) (a1.FImplements.l[s6_9]?) ([]:Bs) fun x43=>guardO ((decide (x18=(0:Int)))) (Z98 x42 x43) false fun x44=>bif ((decide (x18=(0:Int)))&&x44) then(Z101_j19 a0 a1 s5_8 s6_9 ((Z101_l7 a0 a1 n7)) (7:Int)) else(Z101_j19 a0 a1 s5_8 s6_9 ((Z101_l7 a0 a1 n7)) x18)) else(Z101_j3   s5_8)
def Z101 (a0:TDoc) (a1:TDef):Option (Sl Z6):=Z101_l7 a0 a1 (a1.FImplements.l.length+1) (Sl.nil:Sl Z6) 0
theorem Z101_walk {a0:TDoc}{a1:TDef}{r:Sl Z6}(hE:Z101 a0 a1=some r) (H:Heap) :ACalls Tryz.prog 63 [.agg (TDoc.c a0),.agg (TDef.c a1)] H fun v h'=>v=.a (.d (Sl.d 2 Z6.c none r))/\h'=H:=by
 unfold Z101 at hE;refine ACalls.oW 76 [.tmp 4] Tryz.call63 Tryz.func63 ?_;refine AWp.tok 2 fun tk1 htk1=>?_;refine seqR (S BX (S BX ?_));refine s0 (assignNil (k':=2) rfl) rfl ?_;refine nil ?_;refine seqR (S As (nil ?_));refine AWp.nilTok 5 2 tk1 rfl hpG ?_;refine seqJH KeepsT.nil (fun(z:(Sl Z6))=>[(5,.a (.d (Sl.d 2 Z6.c (some tk1) z)))]) (fun z=>(H.set tk1 (some (.tok 2 z.l.length)))) (fun z=>Z101_j3 z=some r) ?_ ?_
 ·intro K3 hK3;refine seqR (S As (nil ?_));refine block ?_;refine loopH (TA 2 (TA 3 KeepsT.nil)) (fun(z:Nat×(Sl Z6)×Nat)=>[(5,.a (.d (Sl.d 2 Z6.c (some tk1) z.2.1))),(6,.a (.d (.int .i64 ((z.2.2:Nat):Int))))]) (fun z=>(H.set tk1 (some (.tok 2 z.2.1.l.length)))) (fun z=>z.1) (fun z=>Z101_l7 a0 a1 z.1 z.2.1 z.2.2=some r) ((a1.FImplements.l.length+1),(Sl.nil:Sl Z6),0) hE Weak.toA ?_;rintro ⟨n7,s5_8,s6_9⟩ hE K7 hK7
  try dsimp only at hE
  cases n7 with
  | zero=>cases hE
  | succ n7 =>
    rw [Z101_l7] at hE;refine seqK fun K10 hK10=>?_;refine seqR (S Mv (S Fv (S Ld ?_)));refine sLen (f:=strE) (s:=a1.FImplements) (TK rfl) rfl rfl rfl rfl fun hL12=>?_;refine S BI (nil ?_);refine cE hE (fun hc13 hE=>?_) (fun hc13 hE=>?_)
    ·try dsimp only at hc13
     have hf13:=of_decide_eq_true hc13;refine sk hK10 ?_;clear hK10 K10;refine seqJH (TA 2 (TA 3 (TA 6 KeepsT.nil))) (fun(z:(Sl Z6))=>[(5,.a (.d (Sl.d 2 Z6.c (some tk1) z)))]) (fun z=>(H.set tk1 (some (.tok 2 z.l.length)))) (fun z=>Z101_j14 s6_9 ((Z101_l7 a0 a1 n7)) z=some r) ?_ ?_
     ·intro K14 hK14;refine block ?_;refine AWp.seqD (Sd Ld (Sd Fv (Sd Ld (Sd Mv ?_))));obtain⟨x17,gx17,hE⟩:=bO hE;refine Sd (ix strE s6_9 gx17) (Sd Ld ?_);obtain⟨x18,gx18,hE⟩:=bO hE;refine Scd rfl rfl (Z99_walk gx18) ?_;refine Sd As ?_;refine DOps.nil (by decide +kernel) ?_;refine seqJH (TA 2 (TA 3 (TA 5 (TA 6 KeepsT.nil)))) (fun(z:Int)=>[(7,.a (.d (.int .i64 z)))]) (fun z=>(H.set tk1 (some (.tok 2 s5_8.l.length)))) (fun z=>Z101_j19 a0 a1 s5_8 s6_9 ((Z101_l7 a0 a1 n7)) z=some r) ?_ ?_
      ·intro K19 hK19;refine AWp.seqD (Sd Mv (Sd BI (Sd Mv (G0d Fv ?_))));refine G1d 28 rfl Ld ?_;refine G0d Mv ?_;obtain⟨x42,gx42,hE⟩:=gO hE;refine DOps.gC rfl rfl (fun hC=>ungdA (k:=29) rfl (ungdA (k:=30) rfl (partM (f:=strE) (l:=none) (r:=(some ((s6_9:Nat):Int))) (TK rfl) rfl (TK rfl) rfl rfl trivial rfl (gx42 hC)))) rfl ?_;refine G0d Fv ?_;refine G1d 32 rfl Ld ?_;refine G0d Mv ?_;obtain⟨x43,gx43,hE⟩:=gO hE
       refine DOps.gC rfl rfl (fun hC=>ungdA (k:=33) rfl (ungdA (k:=34) rfl (idxMn (f:=strE) (n:=s6_9) (TK rfl) rfl (TK rfl) rfl rfl rfl (gx43 hC)))) rfl ?_;refine G1d 35 rfl Ld ?_;obtain⟨x44,gx44,hE⟩:=gO hE;refine Gc2d 31 36 rfl rfl rfl rfl rfl rfl (fun hC=>Z98_walk (gx44 hC)) ?_;refine Sd PA ?_;refine DOps.nil (by decide +kernel) ?_;refine cE hE (fun hc45 hE=>?_) (fun hc45 hE=>?_)
       ·refine region ?_;refine S As (nil ?_);exact hK19 _ (7:Int) Weak.toA hE
       refine AWp.skip ?_;exact hK19 _ x18 Weak.toA hE
      rintro s7_20 hE;try dsimp only at hE
      unfold Z101_j19 at hE;refine seqK fun K21 hK21=>?_;refine seqR (S Mv (S BI (nil ?_)));refine cE hE (fun hc23 hE=>?_) (fun hc23 hE=>?_)
      ·refine seqR (S Mv (S Mv (S Fv (S Ld (S BU (S BV ?_))))));obtain⟨x25,gx25,hE⟩:=bO hE;refine SH (am Z6.c (TK rfl) rfl (TK rfl) (TK rfl) gx25) ?_;refine hq (H.set tk1 (some (.tok 2 x25.l.length))) ?_;refine S As (nil ?_);refine AWp.exit ?_;exact hK14 _ x25 Weak.toA hE
      refine sk hK21 ?_;clear hK21 K21;refine AWp.seqD (Sd Ld (Sd Fv (Sd Ld (Sd Mv ?_))));obtain⟨x27,gx27,hE⟩:=bO hE;refine Sd (ix strE s6_9 gx27) (Sd Ld ?_);obtain⟨x28,gx28,hE⟩:=bO hE;refine Scd rfl rfl (Z75_walk gx28) ?_;refine Sd Mv (Sd EX (Sd EX ?_));refine DOps.sB (TK rfl) rfl rfl ?_ (by repeat (first|exact Snoc.nil|apply Snoc.cons));refine DOps.sLn (storeLFA (TK rfl) rfl rfl rfl rfl rfl) ?_;refine Sd As ?_
      refine DOps.nil (by decide +kernel) ?_;refine freezeA 8 _ rfl (KA 2 (KA 3 (KA 5 (KA 6 Keeps.nil)))) ?_;refine seqR (S As (nil ?_));refine block ?_;refine loopH (TA 2 (TA 3 (TA 6 (TA 8 KeepsT.nil)))) (fun(z:Nat×(Sl Z6)×Nat)=>[(5,.a (.d (Sl.d 2 Z6.c (some tk1) z.2.1))),(10,.a (.d (.int .i64 ((z.2.2:Nat):Int))))]) (fun z=>(H.set tk1 (some (.tok 2 z.2.1.l.length)))) (fun z=>z.1) (fun z=>Z101_l30 a0 a1 s6_9 x28 ((Z101_l7 a0 a1 n7)) z.1 z.2.1 z.2.2=some r) ((x28.1.FFields.l.length+1),s5_8,0) hE Weak.toA ?_
      rintro ⟨n30,s5_31,s10_32⟩ hE K30 hK30;try dsimp only at hE
      cases n30 with
      | zero=>cases hE
      | succ n30 =>
        rw [Z101_l30] at hE;refine seqK fun K33 hK33=>?_;refine seqR (S Mv (S Fv (S Ld ?_)));refine sLen (f:=Z7.c) (s:=x28.1.FFields) (TK rfl) rfl rfl rfl rfl fun hL35=>?_;refine S BI (nil ?_);refine cE hE (fun hc36 hE=>?_) (fun hc36 hE=>?_)
        ·try dsimp only at hc36
         have hf36:=of_decide_eq_true hc36;refine sk hK33 ?_;clear hK33 K33;refine seqK fun K37 hK37=>?_;refine block ?_;refine AWp.draw rfl ?_;refine Sd Mv (Sd Ld (Sd Ld (Sd Fv (Sd Ld (Sd Mv ?_)))));obtain⟨x38,gx38,hE⟩:=bO hE;refine Sd (ix Z7.c s10_32 gx38) (Sd Ld ?_);obtain⟨x39,gx39,hE⟩:=bO hE;refine Scd rfl rfl (Z96_walk gx39) ?_;obtain⟨x40,gx40,hE⟩:=bO hE;refine DOps.sH (appM (f:=Z6.c) (TK rfl) rfl (TK rfl) (TK rfl) ⟨_,rfl⟩ rfl rfl (by decide) rfl rfl rfl rfl hpG rfl gx40) rfl ?_
         refine DOps.Dh (H.set tk1 (some (.tok 2 x40.l.length))) ?_;refine Sd As ?_;refine DOps.nil (by decide +kernel) ?_;refine hK37 _ ?_;clear hK37 K37;refine region ?_;refine S Mv ?_;refine SI ?_;refine S As (nil ?_);exact hK30 _ (n30,x40,(s10_32+1)) Weak.toA hE (Nat.lt_succ_self _)
        refine AWp.exit ?_;exact hK14 _ s5_31 Weak.toA hE
     rintro s5_15 hE;try dsimp only at hE
     unfold Z101_j14 at hE;refine region ?_;refine S Mv ?_;refine SI ?_;refine S As (nil ?_);exact hK7 _ (n7,s5_15,(s6_9+1)) Weak.toA hE (Nat.lt_succ_self _)
    refine AWp.exit ?_;exact hK3 _ s5_8 Weak.toA hE
 rintro s5_4 hE;try dsimp only at hE
 unfold Z101_j3 at hE;refine seqR (S Mv (S As (nil ?_)));refine AWp.dropTok 4 rfl ?_;refine AWp.ret ?_;repeat (first|refine xBlock_ret ?_|refine xThen_ret ?_)
 obtain rfl:=Option.some.inj hE;refine retQ.retF H rfl ⟨rfl,rfl⟩ ?_
 first|exact Heap.sub_set htk1|(simp only [Heap.set_set]; exact Heap.sub_set htk1)
def Z102_j3  (s5_4:(Sl Z6)):Option (Sl Z6):=some s5_4
def Z102_j14 (s6_9:Nat) (k_next_7:(Sl Z6)->Nat->Option (Sl Z6)) (s5_15:(Sl Z6)):Option (Sl Z6):=k_next_7 s5_15 (s6_9+1)
def Z102_j20 (a1:TDef) (s5_8:(Sl Z6)) (s6_9:Nat) (x17:Z10) (k_next_7:(Sl Z6)->Nat->Option (Sl Z6)) (s8_21:Int):Option (Sl Z6):=bif (!decide (s8_21=(0:Int))) then((catC a1.FName ([46]:Bs)).bind fun x24=>(catC x24 x17.FName).bind fun x25=>(appC 24 s5_8 (⟨false,[(Z6.mk s8_21 x25)]⟩:Sl Z6)).bind fun x26=>Z102_j14 s6_9 k_next_7 x26) else(Z102_j14 s6_9 k_next_7 s5_8)
def Z102_l7 (a0:TDoc) (a1:TDef) :Nat->(Sl Z6)->Nat->Option (Sl Z6)
 | 0,_,_=>none
 | n7+1,s5_8,s6_9=>bif (decide (((s6_9:Nat):Int)<((a1.FMembers.l.length:Nat):Int))) then((a1.FMembers.l[s6_9]?).bind fun x17=>(Z99 a0 x17.FName (1:Int)).bind fun x19=>guardO ((decide (x19=(0:Int)))) (partC a1.FMembers none (some ((s6_9:Nat):Int))) (Sl.nil:Sl Z10) fun x28=>guardO ((decide (x19=(0:Int)))) (Z100 (TDef.mk (0:Int) ([]:Bs) (Sl.nil:Sl Bs) (Sl.nil:Sl TDir) (Sl.nil:Sl Z7) x28 (Sl.nil:Sl Z9)) x17.FName) false fun x29=>bif ((decide (x19=(0:Int)))&&x29) then(Z102_j20 a1 s5_8 s6_9 x17 ((Z102_l7 a0 a1 n7)) (7:Int)) else(Z102_j20 a1 s5_8 s6_9 x17 ((Z102_l7 a0 a1 n7)) x19)) else(Z102_j3   s5_8)
def Z102 (a0:TDoc) (a1:TDef):Option (Sl Z6):=Z102_l7 a0 a1 (a1.FMembers.l.length+1) (Sl.nil:Sl Z6) 0
theorem Z102_walk {a0:TDoc}{a1:TDef}{r:Sl Z6}(hE:Z102 a0 a1=some r) (H:Heap) :ACalls Tryz.prog 64 [.agg (TDoc.c a0),.agg (TDef.c a1)] H fun v h'=>v=.a (.d (Sl.d 2 Z6.c none r))/\h'=H:=by
 unfold Z102 at hE;refine ACalls.oW 49 [.tmp 4] Tryz.call64 Tryz.func64 ?_;refine AWp.tok 2 fun tk1 htk1=>?_;refine seqR (S BX (S BX ?_));refine s0 (assignNil (k':=2) rfl) rfl ?_;refine nil ?_;refine seqR (S As (nil ?_));refine AWp.nilTok 5 2 tk1 rfl hpG ?_;refine seqJH KeepsT.nil (fun(z:(Sl Z6))=>[(5,.a (.d (Sl.d 2 Z6.c (some tk1) z)))]) (fun z=>(H.set tk1 (some (.tok 2 z.l.length)))) (fun z=>Z102_j3 z=some r) ?_ ?_
 ·intro K3 hK3;refine seqR (S As (nil ?_));refine block ?_;refine loopH (TA 2 (TA 3 KeepsT.nil)) (fun(z:Nat×(Sl Z6)×Nat)=>[(5,.a (.d (Sl.d 2 Z6.c (some tk1) z.2.1))),(6,.a (.d (.int .i64 ((z.2.2:Nat):Int))))]) (fun z=>(H.set tk1 (some (.tok 2 z.2.1.l.length)))) (fun z=>z.1) (fun z=>Z102_l7 a0 a1 z.1 z.2.1 z.2.2=some r) ((a1.FMembers.l.length+1),(Sl.nil:Sl Z6),0) hE Weak.toA ?_;rintro ⟨n7,s5_8,s6_9⟩ hE K7 hK7
  try dsimp only at hE
  cases n7 with
  | zero=>cases hE
  | succ n7 =>
    rw [Z102_l7] at hE;refine seqK fun K10 hK10=>?_;refine seqR (S Mv (S Fv (S Ld ?_)));refine sLen (f:=Z10.c) (s:=a1.FMembers) (TK rfl) rfl rfl rfl rfl fun hL12=>?_;refine S BI (nil ?_);refine cE hE (fun hc13 hE=>?_) (fun hc13 hE=>?_)
    ·try dsimp only at hc13
     have hf13:=of_decide_eq_true hc13;refine sk hK10 ?_;clear hK10 K10;refine seqJH (TA 2 (TA 3 (TA 6 KeepsT.nil))) (fun(z:(Sl Z6))=>[(5,.a (.d (Sl.d 2 Z6.c (some tk1) z)))]) (fun z=>(H.set tk1 (some (.tok 2 z.l.length)))) (fun z=>Z102_j14 s6_9 ((Z102_l7 a0 a1 n7)) z=some r) ?_ ?_
     ·intro K14 hK14;refine block ?_;refine seqR (S Fv (S Ld (S Mv ?_)));obtain⟨x17,gx17,hE⟩:=bO hE;refine S (ix Z10.c s6_9 gx17) (S Fv (S Ld (S As (nil ?_))));refine seqR (S Ld (S Mv ?_));obtain⟨x19,gx19,hE⟩:=bO hE;refine Sc rfl rfl (Z99_walk gx19) ?_;refine S As (nil ?_);refine seqJH (TA 2 (TA 3 (TA 5 (TA 6 (TA 7 KeepsT.nil))))) (fun(z:Int)=>[(8,.a (.d (.int .i64 z)))]) (fun z=>(H.set tk1 (some (.tok 2 s5_8.l.length)))) (fun z=>Z102_j20 a1 s5_8 s6_9 x17 ((Z102_l7 a0 a1 n7)) z=some r) ?_ ?_
      ·intro K20 hK20;refine seqR (S Mv (S BI (S Mv (G0 Fv ?_))));refine G1 28 rfl Ld ?_;refine G0 Mv ?_;obtain⟨x28,gx28,hE⟩:=gO hE;refine gC rfl rfl (fun hC=>ungdA (k:=29) rfl (ungdA (k:=30) rfl (partM (f:=Z10.c) (l:=none) (r:=(some ((s6_9:Nat):Int))) (TK rfl) rfl (TK rfl) rfl rfl trivial rfl (gx28 hC)))) rfl ?_;refine G1 31 rfl BU ?_;refine G0 Mv ?_;obtain⟨x29,gx29,hE⟩:=gO hE;refine Gc2 32 33 rfl rfl rfl rfl rfl rfl (fun hC=>Z100_walk (gx29 hC)) ?_
       refine S PA (nil ?_);refine cE hE (fun hc30 hE=>?_) (fun hc30 hE=>?_)
       ·refine region ?_;refine S As (nil ?_);exact hK20 _ (7:Int) Weak.toA hE
       refine AWp.skip ?_;exact hK20 _ x19 Weak.toA hE
      rintro s8_21 hE;try dsimp only at hE
      unfold Z102_j20 at hE;refine seqR (S Mv (S BI (nil ?_)));refine cE hE (fun hc23 hE=>?_) (fun hc23 hE=>?_)
      ·refine region ?_;refine S Mv (S Mv (S Fv (S Ld ?_)));obtain⟨x24,gx24,hE⟩:=bO hE;refine s0 (catM rfl rfl gx24) rfl ?_;refine S Mv ?_;obtain⟨x25,gx25,hE⟩:=bO hE;refine s0 (catM rfl rfl gx25) rfl ?_;refine S BU (S BV ?_);obtain⟨x26,gx26,hE⟩:=bO hE;refine SH (am Z6.c (TK rfl) rfl (TK rfl) (TK rfl) gx26) ?_;refine hq (H.set tk1 (some (.tok 2 x26.l.length))) ?_;refine S As (nil ?_);exact hK14 _ x26 Weak.toA hE
      refine AWp.skip ?_;exact hK14 _ s5_8 Weak.toA hE
     rintro s5_15 hE;try dsimp only at hE
     unfold Z102_j14 at hE;refine region ?_;refine S Mv ?_;refine SI ?_;refine S As (nil ?_);exact hK7 _ (n7,s5_15,(s6_9+1)) Weak.toA hE (Nat.lt_succ_self _)
    refine AWp.exit ?_;exact hK3 _ s5_8 Weak.toA hE
 rintro s5_4 hE;try dsimp only at hE
 unfold Z102_j3 at hE;refine seqR (S Mv (S As (nil ?_)));refine AWp.dropTok 4 rfl ?_;refine AWp.ret ?_;repeat (first|refine xBlock_ret ?_|refine xThen_ret ?_)
 obtain rfl:=Option.some.inj hE;refine retQ.retF H rfl ⟨rfl,rfl⟩ ?_
 first|exact Heap.sub_set htk1|(simp only [Heap.set_set]; exact Heap.sub_set htk1)
end Go.Proofs

namespace Go.Proofs
open Go Go.Ab
open AOps Cert AWp Keeps KeepsT
variable {lou:Lou}
def Z92_j3  (s3_4:(Sl Z6)):Option (Sl Z6):=some s3_4
def Z92_j14 (s4_9:Nat) (k_next_7:(Sl Z6)->Nat->Option (Sl Z6)) (s3_15:(Sl Z6)):Option (Sl Z6):=k_next_7 s3_15 (s4_9+1)
def Z92_l7 (a0:TDoc) :Nat->(Sl Z6)->Nat->Option (Sl Z6)
 | 0,_,_=>none
 | n7+1,s3_8,s4_9=>bif (decide (((s4_9:Nat):Int)<((a0.FDefs.l.length:Nat):Int))) then((a0.FDefs.l[s4_9]?).bind fun x17=>bif (decide (x17.FKind=(1:Int))) then((a0.FDefs.l[s4_9]?).bind fun x20=>(Z101 a0 x20).bind fun x21=>(appC 24 s3_8 x21).bind fun x22=>Z92_j14 s4_9 ((Z92_l7 a0 n7)) x22) else(bif (decide (x17.FKind=(3:Int))) then((a0.FDefs.l[s4_9]?).bind fun x25=>(Z102 a0 x25).bind fun x26=>(appC 24 s3_8 x26).bind fun x27=>Z92_j14 s4_9 ((Z92_l7 a0 n7)) x27) else(Z92_j14 s4_9 ((Z92_l7 a0 n7)) s3_8))) else(Z92_j3   s3_8)
def Z92 (a0:TDoc):Option (Sl Z6):=Z92_l7 a0 (a0.FDefs.l.length+1) (Sl.nil:Sl Z6) 0
theorem Z92_walk {a0:TDoc}{r:Sl Z6}(hE:Z92 a0=some r) (H:Heap) :ACalls Tryz.prog 24 [.agg (TDoc.c a0)] H fun v h'=>v=.a (.d (Sl.d 2 Z6.c none r))/\h'=H:=by
 unfold Z92 at hE;refine ACalls.oW 41 [.tmp 2] Tryz.call24 Tryz.func24 ?_;refine AWp.tok 2 fun tk1 htk1=>?_;refine seqR (S BX ?_);refine s0 (assignNil (k':=2) rfl) rfl ?_;refine nil ?_;refine seqR (S As (nil ?_));refine AWp.nilTok 3 2 tk1 rfl hpG ?_;refine seqJH KeepsT.nil (fun(z:(Sl Z6))=>[(3,.a (.d (Sl.d 2 Z6.c (some tk1) z)))]) (fun z=>(H.set tk1 (some (.tok 2 z.l.length)))) (fun z=>Z92_j3 z=some r) ?_ ?_
 ·intro K3 hK3;refine seqR (S As (nil ?_));refine block ?_;refine loopH (TA 1 KeepsT.nil) (fun(z:Nat×(Sl Z6)×Nat)=>[(3,.a (.d (Sl.d 2 Z6.c (some tk1) z.2.1))),(4,.a (.d (.int .i64 ((z.2.2:Nat):Int))))]) (fun z=>(H.set tk1 (some (.tok 2 z.2.1.l.length)))) (fun z=>z.1) (fun z=>Z92_l7 a0 z.1 z.2.1 z.2.2=some r) ((a0.FDefs.l.length+1),(Sl.nil:Sl Z6),0) hE Weak.toA ?_;rintro ⟨n7,s3_8,s4_9⟩ hE K7 hK7;try dsimp only at hE
  cases n7 with
  | zero=>cases hE
  | succ n7 =>
    rw [Z92_l7] at hE;refine seqK fun K10 hK10=>?_;refine seqR (S Mv (S Fv (S Ld ?_)));refine sLen (f:=TDef.c) (s:=a0.FDefs) (TK rfl) rfl rfl rfl rfl fun hL12=>?_;refine S BI (nil ?_);refine cE hE (fun hc13 hE=>?_) (fun hc13 hE=>?_)
    ·try dsimp only at hc13
     have hf13:=of_decide_eq_true hc13;refine sk hK10 ?_;clear hK10 K10;refine seqJH (TA 1 (TA 4 KeepsT.nil)) (fun(z:(Sl Z6))=>[(3,.a (.d (Sl.d 2 Z6.c (some tk1) z)))]) (fun z=>(H.set tk1 (some (.tok 2 z.l.length)))) (fun z=>Z92_j14 s4_9 ((Z92_l7 a0 n7)) z=some r) ?_ ?_
     ·intro K14 hK14;refine block ?_;refine seqR (S Fv (S Ld (S Mv ?_)));obtain⟨x17,gx17,hE⟩:=bO hE;refine S (ix TDef.c s4_9 gx17) (S Fv (S Ld (nil ?_)));refine block ?_;refine seqR (S BI (S As (nil ?_)));refine cE hE (fun hc19 hE=>?_) (fun hc19 hE=>?_)
      ·refine AWp.draw rfl ?_;refine Sd Mv (Sd Ld (Sd Fv (Sd Ld (Sd Mv ?_))));obtain⟨x20,gx20,hE⟩:=bO hE;refine Sd (ix TDef.c s4_9 gx20) (Sd Ld ?_);obtain⟨x21,gx21,hE⟩:=bO hE;refine Scd rfl rfl (Z101_walk gx21) ?_;obtain⟨x22,gx22,hE⟩:=bO hE;refine DOps.sH (appM (f:=Z6.c) (TK rfl) rfl (TK rfl) (TK rfl) ⟨_,rfl⟩ rfl rfl (by decide) rfl rfl rfl rfl hpG rfl gx22) rfl ?_;refine DOps.Dh (H.set tk1 (some (.tok 2 x22.l.length))) ?_
       refine Sd As ?_;refine DOps.nil (by decide +kernel) ?_;exact hK14 _ x22 Weak.toA hE
      refine seqR (S BI (S As (nil ?_)));refine cE hE (fun hc24 hE=>?_) (fun hc24 hE=>?_)
      ·refine AWp.draw rfl ?_;refine Sd Mv (Sd Ld (Sd Fv (Sd Ld (Sd Mv ?_))));obtain⟨x25,gx25,hE⟩:=bO hE;refine Sd (ix TDef.c s4_9 gx25) (Sd Ld ?_);obtain⟨x26,gx26,hE⟩:=bO hE;refine Scd rfl rfl (Z102_walk gx26) ?_;obtain⟨x27,gx27,hE⟩:=bO hE;refine DOps.sH (appM (f:=Z6.c) (TK rfl) rfl (TK rfl) (TK rfl) ⟨_,rfl⟩ rfl rfl (by decide) rfl rfl rfl rfl hpG rfl gx27) rfl ?_;refine DOps.Dh (H.set tk1 (some (.tok 2 x27.l.length))) ?_
       refine Sd As ?_;refine DOps.nil (by decide +kernel) ?_;exact hK14 _ x27 Weak.toA hE
      refine AWp.skip ?_;exact hK14 _ s3_8 Weak.toA hE
     rintro s3_15 hE;try dsimp only at hE
     unfold Z92_j14 at hE;refine region ?_;refine S Mv ?_;refine SI ?_;refine S As (nil ?_);exact hK7 _ (n7,s3_15,(s4_9+1)) Weak.toA hE (Nat.lt_succ_self _)
    refine AWp.exit ?_;exact hK3 _ s3_8 Weak.toA hE
 rintro s3_4 hE;try dsimp only at hE
 unfold Z92_j3 at hE;refine seqR (S Mv (S As (nil ?_)));refine AWp.dropTok 2 rfl ?_;refine AWp.ret ?_;repeat (first|refine xBlock_ret ?_|refine xThen_ret ?_)
 obtain rfl:=Option.some.inj hE;refine retQ.retF H rfl ⟨rfl,rfl⟩ ?_
 first|exact Heap.sub_set htk1|(simp only [Heap.set_set]; exact Heap.sub_set htk1)
def Z46_j3  (s3_4:(Sl Z12)):Option (Sl Z12):=some s3_4
def Z46_l7 (a0:(Sl Z12)) (k_rec_316:Z12->Option Z12):Nat->(Sl Z12)->Nat->Option (Sl Z12)
 | 0,_,_=>none
 | n7+1,s3_8,s4_9=>bif (decide (((s4_9:Nat):Int)<((a0.l.length:Nat):Int))) then((a0.l[s4_9]?).bind fun x15=>(k_rec_316 x15).bind fun x16=>(appC 80 s3_8 (⟨false,[x16]⟩:Sl Z12)).bind fun x17=>(Z46_l7 a0 k_rec_316 n7) x17 (s4_9+1)) else(Z46_j3   s3_8)
mutual
def r02_Copy_n:Nat->Z12->Option Z12
 | 0,_=>none
 | n+1,a0=>((Z46_n n) a0.FItems).bind fun x3=>(appC 16 (⟨false,[]⟩:Sl Bs) a0.FKeys).bind fun x4=>some (Z12.mk a0.FKind a0.FInt a0.FText x3.nl x3.l x4)
def Z46_n:Nat->(Sl Z12)->Option (Sl Z12)
 | 0,_=>none
 | n+1,a0=>Z46_l7 a0 (r02_Copy_n n) (a0.l.length+1) (Sl.nil:Sl Z12) 0
end
theorem r02_Copy_step (n:Nat) (ih_316:∀{a0 r:Z12},r02_Copy_n n a0=some r->∀(H:Heap),ACalls Tryz.prog 316 [.agg (Z12.c a0)] H fun v h'=>v=.a (.agg (Z12.c r))/\h'=H) (ih_346:∀{a0:Sl Z12}{w0:Option Nat}{r:Sl Z12},Z46_n n a0=some r->∀(H:Heap),ACalls Tryz.prog 346 [.d (Sl.d 5 Z12.c w0 a0)] H fun v h'=>v=.a (.d (Sl.d 5 Z12.c none r))/\h'=H):∀{a0 r:Z12},r02_Copy_n (n+1) a0=some r->∀(H:Heap),ACalls Tryz.prog 316 [.agg (Z12.c a0)] H fun v h'=>v=.a (.agg (Z12.c r))/\h'=H:=by
 intro a0   r hE H ;rw [r02_Copy_n] at hE;refine ACalls.oW 17 [.cell 2 104] Tryz.call316 Tryz.func316 ?_;refine seqR (S BX ?_);refine Sl ?_;refine nil ?_;refine AWp.seqD (Sd Fv (Sd Ld (Sd Fv (Sd Ld (Sd Fv (Sd Ld (Sd Fv ?_)))))));refine DOps.s0 (loadV (TK rfl) rfl rfl (congrArg (fun x=>some (A.d x)) (Z12.FItemsD_eq _))) rfl ?_;obtain⟨x3,gx3,hE⟩:=bO hE;refine Scd rfl rfl (ih_346 gx3) ?_;refine DOps.s0 (buildSliceF (TK rfl) rfl (TK rfl) rfl rfl rfl rfl rfl rfl) rfl ?_
 refine Sd Fv (Sd Ld ?_);obtain⟨x4,gx4,hE⟩:=bO hE;refine DOps.s0 (appFM (f:=strE) (TK rfl) rfl (TK rfl) (TK rfl) ⟨_,rfl⟩ rfl rfl (by decide) rfl rfl rfl (by intro q h; cases h<;>decide) rfl rfl gx4) rfl ?_;refine Sd BU ?_;refine DOps.sLn (storeLFA (TK rfl) rfl rfl rfl rfl rfl) ?_;refine DOps.nil (by decide +kernel) ?_;refine AWp.relocal 0 (Z12.c (Z12.mk a0.FKind a0.FInt a0.FText x3.nl x3.l x4)) rfl (fun j w cs hh hx=>by rw [Z12.cu_eq]; exact hx) ?_
 exact rt hE
theorem Z46_step (n:Nat) (ih_316:∀{a0 r:Z12},r02_Copy_n n a0=some r->∀(H:Heap),ACalls Tryz.prog 316 [.agg (Z12.c a0)] H fun v h'=>v=.a (.agg (Z12.c r))/\h'=H) (ih_346:∀{a0:Sl Z12}{w0:Option Nat}{r:Sl Z12},Z46_n n a0=some r->∀(H:Heap),ACalls Tryz.prog 346 [.d (Sl.d 5 Z12.c w0 a0)] H fun v h'=>v=.a (.d (Sl.d 5 Z12.c none r))/\h'=H):∀{a0:Sl Z12}{w0:Option Nat}{r:Sl Z12},Z46_n (n+1) a0=some r->∀(H:Heap),ACalls Tryz.prog 346 [.d (Sl.d 5 Z12.c w0 a0)] H fun v h'=>v=.a (.d (Sl.d 5 Z12.c none r))/\h'=H:=by
 intro a0 w0  r hE H ;rw [Z46_n] at hE;refine ACalls.oW 20 [.tmp 2] Tryz.call346 Tryz.func346 ?_;refine AWp.tok 5 fun tk1 htk1=>?_;refine seqR ?_;refine s0 (assignNil (k':=5) rfl) rfl ?_;refine nil ?_;refine seqR (S As (nil ?_));refine AWp.nilTok 3 5 tk1 rfl hpG ?_;refine seqJH KeepsT.nil (fun(z:(Sl Z12))=>[(3,.a (.d (Sl.d 5 Z12.c (some tk1) z)))]) (fun z=>(H.set tk1 (some (.tok 5 z.l.length)))) (fun z=>Z46_j3 z=some r) ?_ ?_
 ·intro K3 hK3;refine seqR (S As (nil ?_));refine block ?_;refine loopH (TA 0 KeepsT.nil) (fun(z:Nat×(Sl Z12)×Nat)=>[(3,.a (.d (Sl.d 5 Z12.c (some tk1) z.2.1))),(4,.a (.d (.int .i64 ((z.2.2:Nat):Int))))]) (fun z=>(H.set tk1 (some (.tok 5 z.2.1.l.length)))) (fun z=>z.1) (fun z=>Z46_l7 a0 (r02_Copy_n n) z.1 z.2.1 z.2.2=some r) ((a0.l.length+1),(Sl.nil:Sl Z12),0) hE Weak.toA ?_;rintro ⟨n7,s3_8,s4_9⟩ hE K7 hK7
  try dsimp only at hE
  cases n7 with
  | zero=>cases hE
  | succ n7 =>
    rw [Z46_l7] at hE;refine seqK fun K10 hK10=>?_;refine seqR (S Mv (S Mv ?_));refine sLen (f:=Z12.c) (s:=a0) (TK rfl) rfl rfl rfl rfl fun hL12=>?_;refine S BI (nil ?_);refine cE hE (fun hc13 hE=>?_) (fun hc13 hE=>?_)
    ·try dsimp only at hc13
     have hf13:=of_decide_eq_true hc13;refine sk hK10 ?_;clear hK10 K10;refine seqK fun K14 hK14=>?_;refine block ?_;refine region ?_;refine S Mv (S Mv (S Mv ?_));obtain⟨x15,gx15,hE⟩:=bO hE;refine S (ix Z12.c s4_9 gx15) (S Ld ?_);obtain⟨x16,gx16,hE⟩:=bO hE;refine Sc rfl rfl (ih_316 gx16) ?_;refine S BV ?_;obtain⟨x17,gx17,hE⟩:=bO hE;refine SH (am Z12.c (TK rfl) rfl (TK rfl) (TK rfl) gx17) ?_;refine hq (H.set tk1 (some (.tok 5 x17.l.length))) ?_
     refine S As (nil ?_);refine hK14 _ ?_;clear hK14 K14;refine region ?_;refine S Mv ?_;refine SI ?_;refine S As (nil ?_);exact hK7 _ (n7,x17,(s4_9+1)) Weak.toA hE (Nat.lt_succ_self _)
    refine AWp.exit ?_;exact hK3 _ s3_8 Weak.toA hE
 rintro s3_4 hE;try dsimp only at hE
 unfold Z46_j3 at hE;refine seqR (S Mv (S As (nil ?_)));refine AWp.dropTok 2 rfl ?_;refine AWp.ret ?_;repeat (first|refine xBlock_ret ?_|refine xThen_ret ?_)
 obtain rfl:=Option.some.inj hE;refine retQ.retF H rfl ⟨rfl,rfl⟩ ?_
 first|exact Heap.sub_set htk1|(simp only [Heap.set_set]; exact Heap.sub_set htk1)
theorem r02_Copy_all:∀(n:Nat),(∀{a0 r:Z12},r02_Copy_n n a0=some r->∀(H:Heap),ACalls Tryz.prog 316 [.agg (Z12.c a0)] H fun v h'=>v=.a (.agg (Z12.c r))/\h'=H)/\(∀{a0:Sl Z12}{w0:Option Nat}{r:Sl Z12},Z46_n n a0=some r->∀(H:Heap),ACalls Tryz.prog 346 [.d (Sl.d 5 Z12.c w0 a0)] H fun v h'=>v=.a (.d (Sl.d 5 Z12.c none r))/\h'=H)
 | 0=>⟨fun hE=>by first|cases hE|(rw [r02_Copy_n] at hE; cases hE),fun hE=>by first|cases hE|(rw [Z46_n] at hE; cases hE)⟩
 | n+1=>⟨r02_Copy_step n (r02_Copy_all n).1 (r02_Copy_all n).2,Z46_step n (r02_Copy_all n).1 (r02_Copy_all n).2⟩
def r02_Copy (a0:Z12):Option Z12:=r02_Copy_n F0 a0
theorem r02_Copy_walk {a0 r:Z12}(hE:r02_Copy a0=some r) (H:Heap) :ACalls Tryz.prog 316 [.agg (Z12.c a0)] H fun v h'=>v=.a (.agg (Z12.c r))/\h'=H:=(r02_Copy_all F0).1 hE H 
def Z43_j6  (y7_l0:Z12):Option (Z12×Bool):=some ((Z12.mk (0:Int) (0:Int) ([]:Bs) true ([]) (Sl.nil:Sl Bs)),false)
def Z43_l10 (a0:Z12) (a1:Bs) :Nat->Nat->Z12->Option (Z12×Bool)
 | 0,_,_=>none
 | n10+1,s6_11,y12_l0=>bif (decide (((s6_11:Nat):Int)<((a0.FKeys.l.length:Nat):Int))) then((a0.FKeys.l[s6_11]?).bind fun x19=>bif ((x19==a1)) then(bif (decide (((a0.FItems.l.length:Nat):Int)<=((s6_11:Nat):Int))) then(some ((Z12.mk (0:Int) (0:Int) ([]:Bs) true ([]) (Sl.nil:Sl Bs)),false)) else((a0.FItems.l[s6_11]?).bind fun x27=>(r02_Copy x27).bind fun x28=>some (x28,true))) else((Z43_l10 a0 a1 n10) (s6_11+1) y12_l0)) else(Z43_j6   y12_l0)
def Z43 (a0:Z12) (a1:Bs):Option (Z12×Bool):=bif (!decide (a0.FKind=(6:Int))) then(some ((Z12.mk (0:Int) (0:Int) ([]:Bs) true ([]) (Sl.nil:Sl Bs)),false)) else(Z43_l10 a0 a1 (a0.FKeys.l.length+1) 0 Z12.zero)
theorem Z43_walk {a0:Z12}{a1:Bs}{r:Z12×Bool}(hE:Z43 a0 a1=some r) (H:Heap) :ACalls Tryz.prog 265 [.agg (Z12.c a0),.d (.str a1)] H fun v h'=>v=.tup [.agg (Z12.c r.1),.d (.bool r.2)]/\h'=H:=by
 unfold Z43 at hE;refine ACalls.oW 38 [.cell 4 104,.tmp 5] Tryz.call265 Tryz.func265 ?_;refine seqR (S BX ?_);refine Sl ?_;refine S As (nil ?_);refine seqK fun K2 hK2=>?_;refine seqR (S Fv (S Ld (S BI (nil ?_))));refine cE hE (fun hc4 hE=>?_) (fun hc4 hE=>?_)
 ·refine seqR (S BU ?_);refine Sf ?_;refine S As (nil ?_);exact rt hE
 refine sk hK2 ?_;clear hK2 K2;refine seqJ (TA 4 KeepsT.nil) (fun(z:Z12)=>[]) (fun z=>[Z12.c z]) (fun z=>H) (fun z=>Z43_j6 z=some r) ?_ ?_
 ·intro K6 hK6;refine seqR (S As (nil ?_));refine block ?_;refine loopO (TA 1 (TA 2 (TA 4 KeepsT.nil))) (fun(z:Nat×Nat×Z12)=>[(6,.a (.d (.int .i64 ((z.2.1:Nat):Int))))]) (fun z=>[Z12.c z.2.2]) (fun z=>H) (fun z=>z.1) (fun z=>Z43_l10 a0 a1 z.1 z.2.1 z.2.2=some r) ((a0.FKeys.l.length+1),0,Z12.zero) hE Weak.toA ?_;rintro ⟨n10,s6_11,y12_l0⟩ hE K10 hK10;try dsimp only at hE
  cases n10 with
  | zero=>cases hE
  | succ n10 =>
    rw [Z43_l10] at hE;refine seqK fun K13 hK13=>?_;refine seqR (S Mv (S Fv (S Ld ?_)));refine sLen (f:=strE) (s:=a0.FKeys) (TK rfl) rfl rfl rfl rfl fun hL15=>?_;refine S BI (nil ?_);refine cE hE (fun hc16 hE=>?_) (fun hc16 hE=>?_)
    ·try dsimp only at hc16
     have hf16:=of_decide_eq_true hc16;refine sk hK13 ?_;clear hK13 K13;refine seqK fun K17 hK17=>?_;refine block ?_;refine seqR (S Fv (S Ld (S Mv ?_)));obtain⟨x19,gx19,hE⟩:=bO hE;refine S (ix strE s6_11 gx19) (S Ld (S Mv (S BS (nil ?_))));refine cE hE (fun hc20 hE=>?_) (fun hc20 hE=>?_)
     ·refine seqK fun K21 hK21=>?_;refine seqR (S Mv (S Fv ?_));refine s0 (loadV (TK rfl) rfl rfl (congrArg (fun x=>some (A.d x)) (Z12.FItemsD_eq _))) rfl ?_;refine sLen (f:=Z12.c) (s:=a0.FItems) (TK rfl) rfl rfl rfl rfl fun hL23=>?_;refine S BI (nil ?_);refine cE hE (fun hc24 hE=>?_) (fun hc24 hE=>?_)
      ·refine seqR (S BU ?_);refine Sf ?_;refine S As (nil ?_);exact rt hE
      refine sk hK21 ?_;clear hK21 K21;refine seqR (S Fv ?_);refine s0 (loadV (TK rfl) rfl rfl (congrArg (fun x=>some (A.d x)) (Z12.FItemsD_eq _))) rfl ?_;refine S Mv ?_;obtain⟨x27,gx27,hE⟩:=bO hE;refine S (ix Z12.c s6_11 gx27) (S Ld ?_);obtain⟨x28,gx28,hE⟩:=bO hE;refine Sc rfl rfl (r02_Copy_walk gx28) ?_;refine Sf ?_;refine S As (nil ?_);exact rt hE
     refine sk hK17 ?_;clear hK17 K17;refine region ?_;refine S Mv ?_;refine SI ?_;refine S As (nil ?_);exact hK10 _ (n10,(s6_11+1),y12_l0) Weak.toA hE (Nat.lt_succ_self _)
    refine AWp.exit ?_;exact hK6 _ y12_l0 Weak.toA hE
 rintro y7_l0 hE;try dsimp only at hE
 unfold Z43_j6 at hE;refine seqR (S BU ?_);refine Sf ?_;refine S As (nil ?_);exact rt hE
def Z109 (a0:Z4) (a1:Z12):Option Bool:=bif ((!a0.Flit)||(!decide (a1.FKind=(7:Int)))) then(some false) else((Z43 a0.Fvars a1.FText).bind fun x7=>some (!x7.2))
theorem Z109_walk {a0:Z4}{a1:Z12}{c0:Nat}{r:Bool}(hE:Z109 a0 a1=some r) (H:Heap) (hc0:H c0=some (.cells (Z4.c a0))):ACalls Tryz.prog 214 [.d (.ptr c0 0),.agg (Z12.c a1)] H fun v h'=>v=.a (.d (.bool r))/\h'=H:=by
 unfold Z109 at hE;refine ACalls.oW 29 [.tmp 4] Tryz.call214 Tryz.func214 ?_;refine seqR (S BX (S As (nil ?_)));refine seqK fun K2 hK2=>?_;refine seqR (S Mv (S NP ?_));refine s0 (fieldP (TK rfl) rfl rfl (TK rfl) rfl rfl) rfl ?_;refine s0 (loadP (TK rfl) rfl rfl hpG rfl) rfl ?_;refine S NB (S Mv (G0 Fv ?_));refine G1 13 rfl Ld ?_;refine G1 14 rfl BI ?_;refine S PO (nil ?_);refine cE hE (fun hc4 hE=>?_) (fun hc4 hE=>?_)
 ·refine seqR (S As (nil ?_));exact rt hE
 refine sk hK2 ?_;clear hK2 K2;refine AWp.seqD (Sd Mv (Sd NP ?_));refine DOps.s0 (fieldP (TK rfl) rfl rfl (TK rfl) rfl rfl) rfl ?_;refine DOps.s0 (loadP (TK rfl) rfl rfl hpG rfl) rfl ?_;refine Sd Fv (Sd Ld ?_);obtain⟨x7,gx7,hE⟩:=bO hE;refine Scd rfl rfl (Z43_walk gx7) ?_;refine Sd Mv (Sd EX (Sd EX ?_));refine DOps.sB (TK rfl) rfl rfl ?_ (by repeat (first|exact Snoc.nil|apply Snoc.cons));refine DOps.sLn (storeLFA (TK rfl) rfl rfl rfl rfl rfl) ?_
 refine Sd As ?_;refine DOps.nil (by decide +kernel) ?_;refine freezeA 5 _ rfl (KA 6 Keeps.nil) ?_;refine seqR (S Mv (S NB (S As (nil ?_))));exact rt hE
def Z108 (a0:Z4) (a1:Int):Option Z4:=bif (decide (a0.Ferr=(0:Int))) then(some (Z4.mk a0.Fd a0.Fvars a0.Flit a0.Fcount a1)) else(some a0)
theorem Z108_walk {a0:Z4}{a1:Int}{c0:Nat}{r:Z4}(hE:Z108 a0 a1=some r) (H:Heap) (hc0:H c0=some (.cells (Z4.c a0))):ACalls Tryz.prog 317 [.d (.ptr c0 0),.d (.int .i64 a1)] H fun v h'=>v=.tup []/\h'=(H.set c0 (some (.cells (Z4.c r)))):=by
 unfold Z108 at hE;refine ACalls.oW 13 [] Tryz.call317 Tryz.func317 ?_;refine AWp.heqA (h':=(H.set c0 (some (.cells (Z4.c a0))))) (by funext n_; simp only [Heap.set]; (repeat' split)<;>simp_all) ?_;refine seqR (S Mv (S NP ?_));refine s0 (fieldP (TK rfl) rfl rfl (TK rfl) rfl rfl) rfl ?_;refine s0 (loadP (TK rfl) rfl rfl hpG rfl) rfl ?_;refine S BI (nil ?_);refine cE hE (fun hc2 hE=>?_) (fun hc2 hE=>?_)
 ·refine region ?_;refine S Mv (S Mv (S NP ?_));refine s0 (fieldP (TK rfl) rfl rfl (TK rfl) rfl rfl) rfl ?_;refine sHn (storeP1 (TK rfl) rfl rfl hpG rfl (by repeat (first|exact SetAt.zero|apply SetAt.succ))) rfl rfl ?_;refine hq (H.set c0 (some (.cells (Z4.c (Z4.mk a0.Fd a0.Fvars a0.Flit a0.Fcount a1))))) ?_;refine nil ?_;repeat (first|refine xBlock_normal ?_|refine xThen_exit ?_|refine xBlock_exit ?_)
  obtain rfl:=Option.some.inj hE;refine retQ.normalF (H.set c0 (some (.cells (Z4.c (Z4.mk a0.Fd a0.Fvars a0.Flit a0.Fcount a1))))) (xs:=[]) rfl ⟨rfl,rfl⟩ ?_;exact(fun _ _ h=>h)
 refine AWp.skip ?_;repeat (first|refine xBlock_normal ?_|refine xThen_exit ?_|refine xBlock_exit ?_)
 obtain rfl:=Option.some.inj hE;refine retQ.normalF (H.set c0 (some (.cells (Z4.c a0)))) (xs:=[]) rfl ⟨rfl,rfl⟩ ?_;exact(fun _ _ h=>h)
def Z110_j1  (y2_c0:Z4):Option Z4:=(addC y2_c0.Fcount (1:Int)).bind fun x4=>bif (decide ((4096:Int)<x4)) then((Z108 (Z4.mk y2_c0.Fd y2_c0.Fvars y2_c0.Flit x4 y2_c0.Ferr) (4:Int)).bind fun x7=>some x7) else(some (Z4.mk y2_c0.Fd y2_c0.Fvars y2_c0.Flit x4 y2_c0.Ferr))
def Z110 (a0:Z4) (a1:Int):Option Z4:=bif (decide ((24:Int)<a1)) then((Z108 a0 (5:Int)).bind fun x10=>Z110_j1   x10) else(Z110_j1   a0)
theorem Z110_walk {a0:Z4}{a1:Int}{c0:Nat}{r:Z4}(hE:Z110 a0 a1=some r) (H:Heap) (hc0:H c0=some (.cells (Z4.c a0))):ACalls Tryz.prog 319 [.d (.ptr c0 0),.d (.int .i64 a1)] H fun v h'=>v=.tup []/\h'=(H.set c0 (some (.cells (Z4.c r)))):=by
 unfold Z110 at hE;refine ACalls.oW 22 [] Tryz.call319 Tryz.func319 ?_;refine AWp.heqA (h':=(H.set c0 (some (.cells (Z4.c a0))))) (by funext n_; simp only [Heap.set]; (repeat' split)<;>simp_all) ?_;refine seqJH (TA 0 KeepsT.nil) (fun(z:Z4)=>[]) (fun z=>(H.set c0 (some (.cells (Z4.c z))))) (fun z=>Z110_j1 z=some r) ?_ ?_
 ·intro K1 hK1;refine seqR (S Mv (S BI (nil ?_)));refine cE hE (fun hc9 hE=>?_) (fun hc9 hE=>?_)
  ·refine region ?_;refine S Mv ?_;obtain⟨x10,gx10,hE⟩:=bO hE;refine sH (callH rfl rfl (Z108_walk gx10 _ hpG)) rfl ?_;refine hq (H.set c0 (some (.cells (Z4.c x10)))) ?_;refine nil ?_;exact hK1 _ x10 Weak.toA hE
  refine AWp.skip ?_;exact hK1 _ a0 Weak.toA hE
 rintro y2_c0 hE;try dsimp only at hE
 unfold Z110_j1 at hE;refine seqR (S Mv (S NP ?_));refine s0 (fieldP (TK rfl) rfl rfl (TK rfl) rfl rfl) rfl ?_;refine s0 (loadP (TK rfl) rfl rfl hpG rfl) rfl ?_;obtain⟨x4,gx4,hE⟩:=bO hE;refine s0 (addM rfl rfl gx4) rfl ?_;refine S NP ?_;refine s0 (fieldP (TK rfl) rfl rfl (TK rfl) rfl rfl) rfl ?_;refine sHn (storeP1 (TK rfl) rfl rfl hpG rfl (by repeat (first|exact SetAt.zero|apply SetAt.succ))) rfl rfl ?_
 refine hq (H.set c0 (some (.cells (Z4.c (Z4.mk y2_c0.Fd y2_c0.Fvars y2_c0.Flit x4 y2_c0.Ferr))))) ?_;refine nil ?_;refine seqR (S Mv (S NP ?_));refine s0 (fieldP (TK rfl) rfl rfl (TK rfl) rfl rfl) rfl ?_;refine s0 (loadP (TK rfl) rfl rfl hpG rfl) rfl ?_;refine S BI (nil ?_);refine cE hE (fun hc6 hE=>?_) (fun hc6 hE=>?_)
 ·refine region ?_;refine S Mv ?_;obtain⟨x7,gx7,hE⟩:=bO hE;refine sH (callH rfl rfl (Z108_walk gx7 _ hpG)) rfl ?_;refine hq (H.set c0 (some (.cells (Z4.c x7)))) ?_;refine nil ?_;repeat (first|refine xBlock_normal ?_|refine xThen_exit ?_|refine xBlock_exit ?_)
  obtain rfl:=Option.some.inj hE;refine retQ.normalF (H.set c0 (some (.cells (Z4.c x7)))) (xs:=[]) rfl ⟨rfl,rfl⟩ ?_;exact(fun _ _ h=>h)
 refine AWp.skip ?_;repeat (first|refine xBlock_normal ?_|refine xThen_exit ?_|refine xBlock_exit ?_)
 obtain rfl:=Option.some.inj hE;refine retQ.normalF (H.set c0 (some (.cells (Z4.c (Z4.mk y2_c0.Fd y2_c0.Fvars y2_c0.Flit x4 y2_c0.Ferr))))) (xs:=[]) rfl ⟨rfl,rfl⟩ ?_;exact(fun _ _ h=>h)
def Z114_j9  (y10_c0:Z4) (y11_l1:Z12):Option (Z12×Z4):=some (y11_l1,y10_c0)
def Z114_l14 (a1:Z12) (a2:Int) (k_rec_318:Z4->Z12->Int->Option (Z12×Z4)):Nat->Nat->Z4->Z12->Option (Z12×Z4)
 | 0,_,_,_=>none
 | n14+1,s8_15,y16_c0,y17_l1=>bif ((decide (((s8_15:Nat):Int)<((a1.FItems.l.length:Nat):Int)))&&(decide (y16_c0.Ferr=(0:Int)))) then((a1.FItems.l[s8_15]?).bind fun x24=>(addC a2 (1:Int)).bind fun x25=>(k_rec_318 y16_c0 x24 x25).bind fun x26=>(appC 80 y17_l1.FItems (⟨false,[x26.1]⟩:Sl Z12)).bind fun x27=>(Z114_l14 a1 a2 k_rec_318 n14) (s8_15+1) x26.2 (Z12.mk y17_l1.FKind y17_l1.FInt y17_l1.FText x27.nl x27.l y17_l1.FKeys)) else(Z114_j9   y16_c0 y17_l1)
def Z114_n:Nat->Z4->Z12->Int->Option (Z12×Z4)
 | 0,_,_,_=>none
 | n+1,a0,a1,a2=>(Z110 a0 a2).bind fun x3=>(appC 16 ((Z12.mk a1.FKind a1.FInt a1.FText true ([]) (Sl.nil:Sl Bs)).FKeys) a1.FKeys).bind fun x8=>Z114_l14 a1 a2 (Z114_n n) (a1.FItems.l.length+1) 0 x3 (Z12.mk ((Z12.mk a1.FKind a1.FInt a1.FText true ([]) (Sl.nil:Sl Bs)).FKind) ((Z12.mk a1.FKind a1.FInt a1.FText true ([]) (Sl.nil:Sl Bs)).FInt) ((Z12.mk a1.FKind a1.FInt a1.FText true ([]) (Sl.nil:Sl Bs)).FText) ((Z12.mk a1.FKind a1.FInt a1.FText true ([]) (Sl.nil:Sl Bs)).FItems).nl ((Z12.mk a1.FKind a1.FInt a1.FText true ([]) (Sl.nil:Sl Bs)).FItems).l x8)
theorem Z114_step (n:Nat) (ih_318:∀{a0:Z4}{a1:Z12}{a2:Int}{c0:Nat}{r:Z12×Z4},Z114_n n a0 a1 a2=some r->∀(H:Heap) (hc0:H c0=some (.cells (Z4.c a0))),ACalls Tryz.prog 318 [.d (.ptr c0 0),.agg (Z12.c a1),.d (.int .i64 a2)] H fun v h'=>v=.a (.agg (Z12.c r.1))/\h'=(H.set c0 (some (.cells (Z4.c r.2))))):∀{a0:Z4}{a1:Z12}{a2:Int}{c0:Nat}{r:Z12×Z4},Z114_n (n+1) a0 a1 a2=some r->∀(H:Heap) (hc0:H c0=some (.cells (Z4.c a0))),ACalls Tryz.prog 318 [.d (.ptr c0 0),.agg (Z12.c a1),.d (.int .i64 a2)] H fun v h'=>v=.a (.agg (Z12.c r.1))/\h'=(H.set c0 (some (.cells (Z4.c r.2)))):=by
 intro a0 a1 a2  c0 r hE H hc0;rw [Z114_n] at hE;refine ACalls.oW 56 [.cell 6 104] Tryz.call318 Tryz.func318 ?_;refine AWp.heqA (h':=(H.set c0 (some (.cells (Z4.c a0))))) (by funext n_; simp only [Heap.set]; (repeat' split)<;>simp_all) ?_;refine seqR (S BX ?_);refine Sl ?_;refine nil ?_;refine seqR (S Mv (S Mv ?_));obtain⟨x3,gx3,hE⟩:=bO hE;refine sH (callH rfl rfl (Z110_walk gx3 _ hpG)) rfl ?_;refine hq (H.set c0 (some (.cells (Z4.c x3)))) ?_
 refine nil ?_;refine seqR (S Fv (S Ld (S Fv (S Ld (S Fv (S Ld (S BU ?_)))))));refine Sl ?_;refine AOps.tok 5 fun tk7_5 htk7_5=>?_;obtain⟨ne_tk7_5_c0,htk7_5⟩:=Heap.set_fresh htk7_5;refine AOps.relocal 1 _ rfl (fun j w cs hh hx=>tok_cell 3 5 5 hh (t:=tk7_5) hpG hx rfl) ?_;refine AOps.tok 1 fun tk7_6 htk7_6=>?_;obtain⟨ne_tk7_6_tk7_5,htk7_6⟩:=Heap.set_fresh htk7_6;obtain⟨ne_tk7_6_c0,htk7_6⟩:=Heap.set_fresh htk7_6
 refine AOps.relocal 1 _ rfl (fun j w cs hh hx=>tok_cell 4 1 1 hh (t:=tk7_6) hpG hx rfl) ?_;refine Sf ?_;refine AOps.relocal 1 _ rfl (fun j w cs hh hx=>tok_cell 3 5 5 hh (t:=tk7_5) hpG hx rfl) ?_;refine AOps.relocal 1 _ rfl (fun j w cs hh hx=>tok_cell 4 1 1 hh (t:=tk7_6) hpG hx rfl) ?_;refine nil ?_;refine seqR (S FL (S LL (S Fv (S Ld ?_))));obtain⟨x8,gx8,hE⟩:=bO hE;refine SH (am strE (TK rfl) rfl (TK rfl) (TK rfl) gx8) ?_
 refine hq (((H.set c0 (some (.cells (Z4.c x3)))).set tk7_5 (some (.tok 5 0))).set tk7_6 (some (.tok 1 x8.l.length))) ?_;refine S FL ?_;refine Sf ?_;refine nil ?_;refine seqJ (TA 6 (TA 7 KeepsT.nil)) (fun(z:Z4×Z12)=>[]) (fun z=>[Z12.c Z12.zero,((intE .i64) z.2.FKind++(intE .i64) z.2.FInt++strE z.2.FText++[Sl.d 5 Z12.c (some tk7_5) z.2.FItems]++[Sl.d 1 strE (some tk7_6) z.2.FKeys])]) (fun z=>(((H.set c0 (some (.cells (Z4.c z.1)))).set tk7_5 (some (.tok 5 z.2.FItems.l.length))).set tk7_6 (some (.tok 1 z.2.FKeys.l.length)))) (fun z=>Z114_j9 z.1 z.2=some r) ?_ ?_
 ·intro K9 hK9;refine seqR (S As (nil ?_));refine block ?_;refine loopO (TA 0 (TA 2 (TA 4 (TA 6 (TA 7 KeepsT.nil))))) (fun(z:Nat×Nat×Z4×Z12)=>[(8,.a (.d (.int .i64 ((z.2.1:Nat):Int))))]) (fun z=>[Z12.c Z12.zero,((intE .i64) z.2.2.2.FKind++(intE .i64) z.2.2.2.FInt++strE z.2.2.2.FText++[Sl.d 5 Z12.c (some tk7_5) z.2.2.2.FItems]++[Sl.d 1 strE (some tk7_6) z.2.2.2.FKeys])]) (fun z=>(((H.set c0 (some (.cells (Z4.c z.2.2.1)))).set tk7_5 (some (.tok 5 z.2.2.2.FItems.l.length))).set tk7_6 (some (.tok 1 z.2.2.2.FKeys.l.length)))) (fun z=>z.1) (fun z=>Z114_l14 a1 a2 (Z114_n n) z.1 z.2.1 z.2.2.1 z.2.2.2=some r) ((a1.FItems.l.length+1),0,x3,(Z12.mk ((Z12.mk a1.FKind a1.FInt a1.FText true ([]) (Sl.nil:Sl Bs)).FKind) ((Z12.mk a1.FKind a1.FInt a1.FText true ([]) (Sl.nil:Sl Bs)).FInt) ((Z12.mk a1.FKind a1.FInt a1.FText true ([]) (Sl.nil:Sl Bs)).FText) ((Z12.mk a1.FKind a1.FInt a1.FText true ([]) (Sl.nil:Sl Bs)).FItems).nl ((Z12.mk a1.FKind a1.FInt a1.FText true ([]) (Sl.nil:Sl Bs)).FItems).l x8)) hE Weak.toA ?_
  rintro ⟨n14,s8_15,y16_c0,y17_l1⟩ hE K14 hK14;try dsimp only at hE
  cases n14 with
  | zero=>cases hE
  | succ n14 =>
    rw [Z114_l14] at hE;refine seqK fun K18 hK18=>?_;refine seqR (S Mv (S Fv ?_));refine s0 (loadV (TK rfl) rfl rfl (congrArg (fun x=>some (A.d x)) (Z12.FItemsD_eq _))) rfl ?_;refine sLen (f:=Z12.c) (s:=a1.FItems) (TK rfl) rfl rfl rfl rfl fun hL20=>?_;refine S BI (S Mv (G0 Mv ?_));refine G1 32 rfl NP ?_;refine gC rfl rfl (fun hC=>ungdA (k:=33) rfl (fieldP (TK rfl) rfl rfl (TK rfl) rfl rfl)) rfl ?_
    refine gC rfl rfl (fun hC=>ungdA (k:=34) rfl (loadP (TK rfl) rfl rfl hpG rfl)) rfl ?_;refine G1 35 rfl BI ?_;refine S PA (nil ?_);refine cE hE (fun hc21 hE=>?_) (fun hc21 hE=>?_)
    ·try dsimp only at hc21
     have hf21:=of_decide_eq_true (and_left hc21);refine sk hK18 ?_;clear hK18 K18;refine seqK fun K22 hK22=>?_;refine block ?_;refine seqR (S Mv (S Fv ?_));refine s0 (loadV (TK rfl) rfl rfl (congrArg (fun x=>some (A.d x)) (Z12.FItemsD_eq _))) rfl ?_;refine S Mv ?_;obtain⟨x24,gx24,hE⟩:=bO hE;refine S (ix Z12.c s8_15 gx24) (S Ld (S Mv ?_));obtain⟨x25,gx25,hE⟩:=bO hE;refine s0 (addM rfl rfl gx25) rfl ?_
     obtain⟨x26,gx26,hE⟩:=bO hE;refine sH (callH rfl rfl (ih_318 gx26 _ hpG)) rfl ?_;refine hq (((H.set c0 (some (.cells (Z4.c x26.2)))).set tk7_5 (some (.tok 5 y17_l1.FItems.l.length))).set tk7_6 (some (.tok 1 y17_l1.FKeys.l.length))) ?_;refine Sl ?_;refine Sf ?_;refine nil ?_;refine freezeA 9 _ rfl (KA 0 (KA 2 (KA 4 (KA 6 (KA 7 (KA 8 Keeps.nil)))))) ?_;refine region ?_;refine S FL (S LL (S Ld (S BV ?_)))
     obtain⟨x27,gx27,hE⟩:=bO hE;refine SH (am Z12.c (TK rfl) rfl (TK rfl) (TK rfl) gx27) ?_;refine hq (((H.set c0 (some (.cells (Z4.c x26.2)))).set tk7_5 (some (.tok 5 x27.l.length))).set tk7_6 (some (.tok 1 y17_l1.FKeys.l.length))) ?_;refine S FL ?_;refine Sf ?_;refine nil ?_;refine hK22 _ ?_;clear hK22 K22;refine region ?_;refine S Mv ?_;refine SI ?_;refine S As (nil ?_);exact hK14 _ (n14,(s8_15+1),x26.2,(Z12.mk y17_l1.FKind y17_l1.FInt y17_l1.FText x27.nl x27.l y17_l1.FKeys)) Weak.toA hE (Nat.lt_succ_self _)
    refine AWp.exit ?_;exact hK9 _ (y16_c0,y17_l1) Weak.toA hE
 rintro ⟨y10_c0,y11_l1⟩ hE;try dsimp only at hE
 unfold Z114_j9 at hE;refine seqK fun K12 hK12=>?_;refine AWp.relocal 1 _ rfl (fun j w cs hh hx=>untok_cell 3 hx rfl) ?_;refine AWp.relocal 1 _ rfl (fun j w cs hh hx=>untok_cell 4 hx rfl) ?_;refine AWp.relocal 1 (Z12.c y11_l1) rfl (fun j w cs hh hx=>by rw [Z12.cu_eq]; exact hx) ?_;refine region ?_;refine S LL ?_;refine Sf ?_;refine nil ?_;refine hK12 _ ?_;clear hK12 K12;refine AWp.ret ?_;repeat (first|refine xBlock_ret ?_|refine xThen_ret ?_)
 obtain rfl:=Option.some.inj hE;refine retQ.retF (H.set c0 (some (.cells (Z4.c y10_c0)))) rfl ⟨rfl,rfl⟩ ?_;intro id_ o_ he_;have e_tk7_5:id_≠tk7_5:=fun e_=>by subst e_; simp_all [Heap.set]
 have e_tk7_6:id_≠tk7_6:=fun e_=>by subst e_; simp_all [Heap.set]
 rw [<- he_];simp only [Heap.set] at he_ ⊢
 (repeat' split)<;>simp_all
theorem Z114_all:∀(n:Nat),(∀{a0:Z4}{a1:Z12}{a2:Int}{c0:Nat}{r:Z12×Z4},Z114_n n a0 a1 a2=some r->∀(H:Heap) (hc0:H c0=some (.cells (Z4.c a0))),ACalls Tryz.prog 318 [.d (.ptr c0 0),.agg (Z12.c a1),.d (.int .i64 a2)] H fun v h'=>v=.a (.agg (Z12.c r.1))/\h'=(H.set c0 (some (.cells (Z4.c r.2)))))
 | 0=>fun hE=>by first|cases hE|(rw [Z114_n] at hE; cases hE)
 | n+1=>Z114_step n (Z114_all n)
def Z114 (a0:Z4) (a1:Z12) (a2:Int):Option (Z12×Z4):=Z114_n F0 a0 a1 a2
theorem Z114_walk {a0:Z4}{a1:Z12}{a2:Int}{c0:Nat}{r:Z12×Z4}(hE:Z114 a0 a1 a2=some r) (H:Heap) (hc0:H c0=some (.cells (Z4.c a0))):ACalls Tryz.prog 318 [.d (.ptr c0 0),.agg (Z12.c a1),.d (.int .i64 a2)] H fun v h'=>v=.a (.agg (Z12.c r.1))/\h'=(H.set c0 (some (.cells (Z4.c r.2)))):=(Z114_all F0) hE H hc0
def Z40_n:Nat->Int->Option Bs
 | 0,_=>none
 | n+1,a0=>(subC (48:Int) (Int.tmod a0 (10:Int))).bind fun x3=>bif (decide ((-10:Int)<a0)) then(some (bytesC (⟨false,[(IntKind.wrap .u8 x3)]⟩:Sl Int))) else(((Z40_n n) (IntKind.wrap .i64 (Int.tdiv a0 (10:Int)))).bind fun x9=>(catC x9 (bytesC (⟨false,[(IntKind.wrap .u8 x3)]⟩:Sl Int))).bind fun x10=>some x10)
theorem Z40_step (n:Nat) (ih_314:∀{a0:Int}{r:Bs},Z40_n n a0=some r->∀(H:Heap),ACalls Tryz.prog 314 [.d (.int .i64 a0)] H fun v h'=>v=.a (.d (.str r))/\h'=H):∀{a0:Int}{r:Bs},Z40_n (n+1) a0=some r->∀(H:Heap),ACalls Tryz.prog 314 [.d (.int .i64 a0)] H fun v h'=>v=.a (.d (.str r))/\h'=H:=by
 intro a0   r hE H ;rw [Z40_n] at hE;refine ACalls.oW 18 [.tmp 2] Tryz.call314 Tryz.func314 ?_;refine seqR (S As (nil ?_));refine seqR (S Mv ?_);refine s0 (remI rfl rfl (by decide)) rfl ?_;obtain⟨x3,gx3,hE⟩:=bO hE;refine s0 (subM rfl rfl gx3) rfl ?_;refine s0 (convI (TK rfl) (TK rfl) rfl rfl) rfl ?_;refine S BV ?_;refine s0 (convB (y:=(⟨false,[(IntKind.wrap .u8 x3)]⟩:Sl Int)) (TK rfl) rfl (TK rfl) rfl (TK rfl) rfl rfl) rfl ?_
 refine S As (nil ?_);refine seqK fun K4 hK4=>?_;refine seqR (S Mv (S BI (nil ?_)));refine cE hE (fun hc6 hE=>?_) (fun hc6 hE=>?_)
 ·refine seqR (S Mv (S As (nil ?_)));exact rt hE
 refine sk hK4 ?_;clear hK4 K4;refine seqR (S Mv ?_);refine s0 (quoI rfl rfl (by decide)) rfl ?_;obtain⟨x9,gx9,hE⟩:=bO hE;refine Sc rfl rfl (ih_314 gx9) ?_;refine S Mv ?_;obtain⟨x10,gx10,hE⟩:=bO hE;refine s0 (catM rfl rfl gx10) rfl ?_;refine S As (nil ?_);exact rt hE
theorem Z40_all:∀(n:Nat),(∀{a0:Int}{r:Bs},Z40_n n a0=some r->∀(H:Heap),ACalls Tryz.prog 314 [.d (.int .i64 a0)] H fun v h'=>v=.a (.d (.str r))/\h'=H)
 | 0=>fun hE=>by first|cases hE|(rw [Z40_n] at hE; cases hE)
 | n+1=>Z40_step n (Z40_all n)
def Z40 (a0:Int):Option Bs:=Z40_n F0 a0
theorem Z40_walk {a0:Int}{r:Bs}(hE:Z40 a0=some r) (H:Heap) :ACalls Tryz.prog 314 [.d (.int .i64 a0)] H fun v h'=>v=.a (.d (.str r))/\h'=H:=(Z40_all F0) hE H 
end Go.Proofs

namespace Go.Proofs
open Go Go.Ab
open AOps Cert AWp Keeps KeepsT
variable {lou:Lou}
def Z36 (a0:Int):Option Bs:=bif (decide (a0<(0:Int))) then((Z40 a0).bind fun x6=>(catC ([45]:Bs) x6).bind fun x7=>some x7) else((Z40 (IntKind.wrap .i64 (0-a0))).bind fun x9=>some x9)
theorem Z36_walk {a0:Int}{r:Bs}(hE:Z36 a0=some r) (H:Heap) :ACalls Tryz.prog 259 [.d (.int .i64 a0)] H fun v h'=>v=.a (.d (.str r))/\h'=H:=by
 unfold Z36 at hE;refine ACalls.oW 11 [.tmp 2] Tryz.call259 Tryz.func259 ?_;refine seqR (S As (nil ?_));refine seqK fun K2 hK2=>?_;refine seqR (S Mv (S BI (nil ?_)));refine cE hE (fun hc4 hE=>?_) (fun hc4 hE=>?_)
 ·refine seqR (S Mv ?_);obtain⟨x6,gx6,hE⟩:=bO hE;refine Sc rfl rfl (Z40_walk gx6) ?_;obtain⟨x7,gx7,hE⟩:=bO hE;refine s0 (catM rfl rfl gx7) rfl ?_;refine S As (nil ?_);exact rt hE
 refine sk hK2 ?_;clear hK2 K2;refine seqR (S Mv ?_);refine s0 (negI rfl) rfl ?_;obtain⟨x9,gx9,hE⟩:=bO hE;refine Sc rfl rfl (Z40_walk gx9) ?_;refine S As (nil ?_);exact rt hE
def Z113_j2 (a0:Z4)  (y3_l0:Z12):Option (Z12×Z4):=(Z108 a0 (23:Int)).bind fun x5=>some ((Z12.mk (0:Int) (0:Int) ([]:Bs) true ([]) (Sl.nil:Sl Bs)),x5)
def Z113_j10 (a0:Z4) (a1:Bs) (a2:Z12)  (s26_11:Bool):Option (Z12×Z4):=bif s26_11 then(some (a2,a0)) else(bif (((a1==([73,68]:Bs)))&&(decide (a2.FKind=(2:Int)))) then((Z36 a2.FInt).bind fun x17=>some ((Z12.mk (3:Int) (0:Int) x17 true ([]) (Sl.nil:Sl Bs)),a0)) else(Z113_j2 a0  Z12.zero))
def Z113 (a0:Z4) (a1:Bs) (a2:Z12):Option (Z12×Z4):=bif (((((a1==([73,110,116]:Bs)))&&(decide (a2.FKind=(2:Int))))&&(decide ((-2147483648:Int)<=a2.FInt)))&&(decide (a2.FInt<(2147483648:Int)))) then(some (a2,a0)) else(bif (((a1==([83,116,114,105,110,103]:Bs)))&&(decide (a2.FKind=(3:Int)))) then(Z113_j10 a0 a1 a2  (((a1==([83,116,114,105,110,103]:Bs)))&&(decide (a2.FKind=(3:Int))))) else(bif (((a1==([66,111,111,108,101,97,110]:Bs)))&&(decide (a2.FKind=(1:Int)))) then(Z113_j10 a0 a1 a2  (((a1==([66,111,111,108,101,97,110]:Bs)))&&(decide (a2.FKind=(1:Int))))) else(Z113_j10 a0 a1 a2  (((a1==([73,68]:Bs)))&&(decide (a2.FKind=(3:Int)))))))
theorem Z113_walk {a0:Z4}{a1:Bs}{a2:Z12}{c0:Nat}{r:Z12×Z4}(hE:Z113 a0 a1 a2=some r) (H:Heap) (hc0:H c0=some (.cells (Z4.c a0))):ACalls Tryz.prog 321 [.d (.ptr c0 0),.d (.str a1),.agg (Z12.c a2)] H fun v h'=>v=.a (.agg (Z12.c r.1))/\h'=(H.set c0 (some (.cells (Z4.c r.2)))):=by
 unfold Z113 at hE;refine ACalls.oW 64 [.cell 6 104] Tryz.call321 Tryz.func321 ?_;refine AWp.heqA (h':=(H.set c0 (some (.cells (Z4.c a0))))) (by funext n_; simp only [Heap.set]; (repeat' split)<;>simp_all) ?_;refine seqR (S BX ?_);refine Sl ?_;refine nil ?_;refine seqJ (TA 0 (TA 6 KeepsT.nil)) (fun(z:Z12)=>[]) (fun z=>[Z12.c z]) (fun z=>(H.set c0 (some (.cells (Z4.c a0))))) (fun z=>Z113_j2 a0 z=some r) ?_ ?_
 ·intro K2 hK2;refine block ?_;refine seqR (S Mv (S BS (S Mv (G0 Fv ?_))));refine G1 11 rfl Ld ?_;refine G1 12 rfl BI ?_;refine S PA (S Mv (G0 Fv ?_));refine G1 16 rfl Ld ?_;refine G1 17 rfl BI ?_;refine S PA (S Mv (G0 Fv ?_));refine G1 21 rfl Ld ?_;refine G1 22 rfl BI ?_;refine S PA (S As (nil ?_));refine cE hE (fun hc8 hE=>?_) (fun hc8 hE=>?_)
  ·refine seqR (S Ld ?_);refine Sf ?_;refine nil ?_;exact rt hE
  refine seqJH (TA 0 (TA 1 (TA 5 (TA 6 KeepsT.nil)))) (fun(z:Bool)=>[(26,.a (.d (.bool z)))]) (fun z=>(H.set c0 (some (.cells (Z4.c a0))))) (fun z=>Z113_j10 a0 a1 a2 z=some r) ?_ ?_
  ·intro K10 hK10;refine seqR (S Mv (S BS (S Mv (G0 Fv ?_))));refine G1 30 rfl Ld ?_;refine G1 31 rfl BI ?_;refine S PA (S As (nil ?_));refine cE hE (fun hc19 hE=>?_) (fun hc19 hE=>?_)
   ·refine AWp.skip ?_;exact hK10 _ (((a1==([83,116,114,105,110,103]:Bs)))&&(decide (a2.FKind=(3:Int)))) Weak.toA hE
   refine seqR (S Mv (S BS (S Mv (G0 Fv ?_))));refine G1 37 rfl Ld ?_;refine G1 38 rfl BI ?_;refine S PA (S As (nil ?_));refine cE hE (fun hc21 hE=>?_) (fun hc21 hE=>?_)
   ·refine AWp.skip ?_;exact hK10 _ (((a1==([66,111,111,108,101,97,110]:Bs)))&&(decide (a2.FKind=(1:Int)))) Weak.toA hE
   refine region ?_;refine S Mv (S BS (S Mv (G0 Fv ?_)));refine G1 44 rfl Ld ?_;refine G1 45 rfl BI ?_;refine S PA (S As (nil ?_));exact hK10 _ (((a1==([73,68]:Bs)))&&(decide (a2.FKind=(3:Int)))) Weak.toA hE
  rintro s26_11 hE;try dsimp only at hE
  unfold Z113_j10 at hE;refine cE hE (fun hc12 hE=>?_) (fun hc12 hE=>?_)
  ·refine seqR (S Ld ?_);refine Sf ?_;refine nil ?_;exact rt hE
  refine seqR (S Mv (S BS (S Mv (G0 Fv ?_))));refine G1 53 rfl Ld ?_;refine G1 54 rfl BI ?_;refine S PA (S As (nil ?_));refine cE hE (fun hc15 hE=>?_) (fun hc15 hE=>?_)
  ·refine seqR (S Fv (S Ld ?_));obtain⟨x17,gx17,hE⟩:=bO hE;refine Sc rfl rfl (Z36_walk gx17) ?_;refine S BU ?_;refine Sf ?_;refine nil ?_;exact rt hE
  refine AWp.skip ?_;exact hK2 _ Z12.zero Weak.toA hE
 rintro y3_l0 hE;try dsimp only at hE
 unfold Z113_j2 at hE;refine seqR (S Mv ?_);obtain⟨x5,gx5,hE⟩:=bO hE;refine sH (callH rfl rfl (Z108_walk gx5 _ hpG)) rfl ?_;refine hq (H.set c0 (some (.cells (Z4.c x5)))) ?_;refine nil ?_;refine seqR (S BU ?_);refine Sf ?_;refine nil ?_;exact rt hE
def Z107_j2 (a0:Z4)  (y3_l0:Z12):Option (Z12×Z4):=(Z108 a0 (23:Int)).bind fun x5=>some ((Z12.mk (0:Int) (0:Int) ([]:Bs) true ([]) (Sl.nil:Sl Bs)),x5)
def Z107_l10 (a0:Z4) (a1:TDef) (a2:Z12) :Nat->Nat->Z12->Option (Z12×Z4)
 | 0,_,_=>none
 | n10+1,s7_11,y12_l0=>bif (decide (((s7_11:Nat):Int)<((a1.FMembers.l.length:Nat):Int))) then((a1.FMembers.l[s7_11]?).bind fun x19=>bif ((x19.FName==a2.FText)) then(some ((Z12.mk (4:Int) (0:Int) a2.FText true ([]) (Sl.nil:Sl Bs)),a0)) else((Z107_l10 a0 a1 a2 n10) (s7_11+1) y12_l0)) else(Z107_j2 a0  y12_l0)
def Z107 (a0:Z4) (a1:TDef) (a2:Z12):Option (Z12×Z4):=bif ((decide (a2.FKind=(4:Int)))||((decide (a2.FKind=(3:Int)))&&(!a0.Flit))) then(Z107_l10 a0 a1 a2 (a1.FMembers.l.length+1) 0 Z12.zero) else(Z107_j2 a0  Z12.zero)
theorem Z107_walk {a0:Z4}{a1:TDef}{a2:Z12}{c0:Nat}{r:Z12×Z4}(hE:Z107 a0 a1 a2=some r) (H:Heap) (hc0:H c0=some (.cells (Z4.c a0))):ACalls Tryz.prog 322 [.d (.ptr c0 0),.agg (TDef.c a1),.agg (Z12.c a2)] H fun v h'=>v=.a (.agg (Z12.c r.1))/\h'=(H.set c0 (some (.cells (Z4.c r.2)))):=by
 unfold Z107 at hE;refine ACalls.oW 45 [.cell 6 104] Tryz.call322 Tryz.func322 ?_;refine AWp.heqA (h':=(H.set c0 (some (.cells (Z4.c a0))))) (by funext n_; simp only [Heap.set]; (repeat' split)<;>simp_all) ?_;refine seqR (S BX (S BX ?_));refine Sl ?_;refine nil ?_;refine seqJ (TA 0 (TA 6 KeepsT.nil)) (fun(z:Z12)=>[]) (fun z=>[Z12.c z]) (fun z=>(H.set c0 (some (.cells (Z4.c a0))))) (fun z=>Z107_j2 a0 z=some r) ?_ ?_
 ·intro K2 hK2;refine seqR (S Fv (S Ld (S BI (S Mv (G0 Fv ?_)))));refine G1 12 rfl Ld ?_;refine G1 13 rfl BI ?_;refine G1 14 rfl Mv ?_;refine G0 Mv ?_;refine G1 16 rfl NP ?_;refine gC rfl rfl (fun hC=>ungdA (k:=17) rfl (fieldP (TK rfl) rfl rfl (TK rfl) rfl rfl)) rfl ?_;refine gC rfl rfl (fun hC=>ungdA (k:=18) rfl (loadP (TK rfl) rfl rfl hpG rfl)) rfl ?_;refine G1 19 rfl NB ?_;refine gC rfl rfl (fun hC=>ungdA (k:=15) rfl (pickAndA rfl rfl rfl)) rfl ?_
  refine S PO (nil ?_);refine cE hE (fun hc8 hE=>?_) (fun hc8 hE=>?_)
  ·refine seqR (S As (nil ?_));refine block ?_;refine loopO (TA 0 (TA 4 (TA 5 (TA 6 KeepsT.nil)))) (fun(z:Nat×Nat×Z12)=>[(7,.a (.d (.int .i64 ((z.2.1:Nat):Int))))]) (fun z=>[Z12.c z.2.2]) (fun z=>(H.set c0 (some (.cells (Z4.c a0))))) (fun z=>z.1) (fun z=>Z107_l10 a0 a1 a2 z.1 z.2.1 z.2.2=some r) ((a1.FMembers.l.length+1),0,Z12.zero) hE Weak.toA ?_;rintro ⟨n10,s7_11,y12_l0⟩ hE K10 hK10;try dsimp only at hE
   cases n10 with
   | zero=>cases hE
   | succ n10 =>
     rw [Z107_l10] at hE;refine seqK fun K13 hK13=>?_;refine seqR (S Mv (S Fv (S Ld ?_)));refine sLen (f:=Z10.c) (s:=a1.FMembers) (TK rfl) rfl rfl rfl rfl fun hL15=>?_;refine S BI (nil ?_);refine cE hE (fun hc16 hE=>?_) (fun hc16 hE=>?_)
     ·try dsimp only at hc16
      have hf16:=of_decide_eq_true hc16;refine sk hK13 ?_;clear hK13 K13;refine seqK fun K17 hK17=>?_;refine block ?_;refine AWp.seqD (Sd Fv (Sd Ld (Sd Mv ?_)));obtain⟨x19,gx19,hE⟩:=bO hE;refine Sd (ix Z10.c s7_11 gx19) (Sd Fv (Sd Ld (Sd Fv (Sd Ld (Sd BS ?_)))));refine DOps.nil (by decide +kernel) ?_;refine cE hE (fun hc20 hE=>?_) (fun hc20 hE=>?_)
      ·refine seqR (S Fv (S Ld (S BU ?_)));refine Sf ?_;refine nil ?_;exact rt hE
      refine sk hK17 ?_;clear hK17 K17;refine region ?_;refine S Mv ?_;refine SI ?_;refine S As (nil ?_);exact hK10 _ (n10,(s7_11+1),y12_l0) Weak.toA hE (Nat.lt_succ_self _)
     refine AWp.exit ?_;exact hK2 _ y12_l0 Weak.toA hE
  refine AWp.skip ?_;exact hK2 _ Z12.zero Weak.toA hE
 rintro y3_l0 hE;try dsimp only at hE
 unfold Z107_j2 at hE;refine seqR (S Mv ?_);obtain⟨x5,gx5,hE⟩:=bO hE;refine sH (callH rfl rfl (Z108_walk gx5 _ hpG)) rfl ?_;refine hq (H.set c0 (some (.cells (Z4.c x5)))) ?_;refine nil ?_;refine seqR (S BU ?_);refine Sf ?_;refine nil ?_;exact rt hE
def Z106_j2  :Option Bool:=some false
def Z106_l5 (a0:(Sl Z9)) (a1:Int) :Nat->Int->Option Bool
 | 0,_=>none
 | n5+1,s5_6=>bif (decide (s5_6<a1)) then((idxC a0.l s5_6).bind fun x12=>(idxC a0.l a1).bind fun x13=>bif ((x12.FName==x13.FName)) then(some true) else((addC s5_6 (1:Int)).bind fun x16=>(Z106_l5 a0 a1 n5) x16)) else(Z106_j2   )
def Z106 (a0:(Sl Z9)) (a1:Int):Option Bool:=Z106_l5 a0 a1 F0 (0:Int)
theorem Z106_walk {a0:Sl Z9}{a1:Int}{w0:Option Nat}{r:Bool}(hE:Z106 a0 a1=some r) (H:Heap) :ACalls Tryz.prog 347 [.d (Sl.d 10 Z9.c w0 a0),.d (.int .i64 a1)] H fun v h'=>v=.a (.d (.bool r))/\h'=H:=by
 unfold Z106 at hE;refine ACalls.oW 22 [.tmp 4] Tryz.call347 Tryz.func347 ?_;refine seqR (S As (nil ?_));refine seqJH KeepsT.nil (fun(z:Unit)=>[]) (fun z=>H) (fun z=>Z106_j2 =some r) ?_ ?_
 ·intro K2 hK2;refine seqR (S As (nil ?_));refine block ?_;refine loopH (TA 0 (TA 1 KeepsT.nil)) (fun(z:Nat×Int)=>[(5,.a (.d (.int .i64 z.2)))]) (fun z=>H) (fun z=>z.1) (fun z=>Z106_l5 a0 a1 z.1 z.2=some r) (F0,(0:Int)) hE Weak.toA ?_;rintro ⟨n5,s5_6⟩ hE K5 hK5;try dsimp only at hE
  cases n5 with
  | zero=>cases hE
  | succ n5 =>
    rw [Z106_l5] at hE;refine seqK fun K7 hK7=>?_;refine seqR (S Mv (S Mv (S BI (nil ?_))));refine cE hE (fun hc9 hE=>?_) (fun hc9 hE=>?_)
    ·refine sk hK7 ?_;clear hK7 K7;refine seqK fun K10 hK10=>?_;refine block ?_;refine AWp.seqD (Sd Mv (Sd Mv ?_));obtain⟨x12,gx12,hE⟩:=bO hE;refine DOps.s0 (idxM (f:=Z9.c) (TK rfl) rfl (TK rfl) rfl rfl rfl gx12) rfl ?_;refine Sd Fv (Sd Ld (Sd Mv (Sd Mv ?_)));obtain⟨x13,gx13,hE⟩:=bO hE;refine DOps.s0 (idxM (f:=Z9.c) (TK rfl) rfl (TK rfl) rfl rfl rfl gx13) rfl ?_;refine Sd Fv (Sd Ld (Sd BS ?_));refine DOps.nil (by decide +kernel) ?_
     refine cE hE (fun hc14 hE=>?_) (fun hc14 hE=>?_)
     ·refine seqR (S As (nil ?_));exact rt hE
     refine sk hK10 ?_;clear hK10 K10;refine region ?_;refine S Mv ?_;obtain⟨x16,gx16,hE⟩:=bO hE;refine s0 (addM rfl rfl gx16) rfl ?_;refine S As (nil ?_);exact hK5 _ (n5,x16) Weak.toA hE (Nat.lt_succ_self _)
    refine AWp.exit ?_;exact hK2 _ () Weak.toA hE
 rintro _ hE;try dsimp only at hE
 unfold Z106_j2 at hE;refine seqR (S As (nil ?_));exact rt hE
end Go.Proofs

namespace Go.Proofs
open Go Go.Ab
open AOps Cert AWp Keeps KeepsT
variable {lou:Lou}
def r12_work_coerce_j22  (y23_c0:Z4):Option (Z12×Z4):=some ((Z12.mk (0:Int) (0:Int) ([]:Bs) true ([]) (Sl.nil:Sl Bs)),y23_c0)
def r12_work_coerce_j9 (a1:TRef) (a3:Int) (k_rec_320:Z4->TRef->Z12->Int->Option (Z12×Z4)) (k_rec_323:Z4->TDef->Z12->Int->Option (Z12×Z4)) (y10_c0:Z4) (y11_l0:Z12) (y12_l1:Z12):Option (Z12×Z4):=(Z110 y10_c0 a3).bind fun x14=>bif (!decide (x14.Ferr=(0:Int))) then(some ((Z12.mk (0:Int) (0:Int) ([]:Bs) true ([]) (Sl.nil:Sl Bs)),x14)) else(bif (decide (y11_l0.FKind=(0:Int))) then((Z52 a1).bind fun x26=>bif x26 then((Z108 x14 (23:Int)).bind fun x28=>r12_work_coerce_j22   x28) else(r12_work_coerce_j22   x14)) else((Z50 a1).bind fun x31=>bif x31.2 then((k_rec_320 x14 x31.1 y11_l0 a3).bind fun x35=>some (x35.1,x35.2)) else((Z79 a1.FName).bind fun x38=>bif x38 then((Z113 x14 a1.FName y11_l0).bind fun x41=>some (x41.1,x41.2)) else((Z75 x14.Fd a1.FName).bind fun x43=>bif (decide (x43.1.FKind=(4:Int))) then((Z107 x14 x43.1 y11_l0).bind fun x48=>some (x48.1,x48.2)) else((k_rec_323 x14 x43.1 y11_l0 a3).bind fun x50=>some (x50.1,x50.2))))))
def r12_work_list_j7  (y8_c0:Z4) (y9_l1:Z12):Option (Z12×Z4):=some (y9_l1,y8_c0)
def r12_work_list_l12 (a1:TRef) (a3:Int) (s9_4:(Sl Z12)) (k_rec_266:Z4->TRef->Z12->Int->Option (Z12×Z4)):Nat->Nat->Z4->Z12->Option (Z12×Z4)
 | 0,_,_,_=>none
 | n12+1,s11_13,y14_c0,y15_l1=>bif ((decide (((s11_13:Nat):Int)<((s9_4.l.length:Nat):Int)))&&(decide (y14_c0.Ferr=(0:Int)))) then((s9_4.l[s11_13]?).bind fun x22=>(addC a3 (1:Int)).bind fun x23=>(k_rec_266 y14_c0 a1 x22 x23).bind fun x24=>(appC 80 y15_l1.FItems (⟨false,[x24.1]⟩:Sl Z12)).bind fun x25=>(r12_work_list_l12 a1 a3 s9_4 k_rec_266 n12) (s11_13+1) x24.2 (Z12.mk y15_l1.FKind y15_l1.FInt y15_l1.FText x25.nl x25.l y15_l1.FKeys)) else(r12_work_list_j7   y14_c0 y15_l1)
def r12_work_list_j3 (a0:Z4) (a1:TRef) (a3:Int) (k_rec_266:Z4->TRef->Z12->Int->Option (Z12×Z4)) (s9_4:(Sl Z12)):Option (Z12×Z4):=r12_work_list_l12 a1 a3 s9_4 k_rec_266 (s9_4.l.length+1) 0 a0 (Z12.mk (5:Int) (0:Int) ([]:Bs) true ([]) (Sl.nil:Sl Bs))
def r12_work_object_j13  (y14_c0:Z4) (y15_l1:Z12):Option (Z12×Z4):=some (y15_l1,y14_c0)
def r12_work_object_j26 (s13_19:Nat) (k_next_18:Nat->Z4->Z12->Option (Z12×Z4)) (y27_c0:Z4) (y28_l1:Z12):Option (Z12×Z4):=k_next_18 (s13_19+1) y27_c0 y28_l1
def r12_work_object_j38 (s13_19:Nat) (y21_l1:Z12) (x30:Z9) (k_next_18:Nat->Z4->Z12->Option (Z12×Z4)) (y39_c0:Z4) (y40_l2:Z12):Option (Z12×Z4):=(appC 16 y21_l1.FKeys (⟨false,[x30.FName]⟩:Sl Bs)).bind fun x42=>(appC 80 y21_l1.FItems (⟨false,[y40_l2]⟩:Sl Z12)).bind fun x43=>r12_work_object_j26 s13_19 k_next_18 y39_c0 (Z12.mk y21_l1.FKind y21_l1.FInt y21_l1.FText x43.nl x43.l x42)
def r12_work_object_l18 (a1:TDef) (a2:Z12) (a3:Int) (k_rec_266:Z4->TRef->Z12->Int->Option (Z12×Z4)) (k_rec_348:Z4->TRef->Z12->Int->Option (Z12×Z4)):Nat->Nat->Z4->Z12->Option (Z12×Z4)
 | 0,_,_,_=>none
 | n18+1,s13_19,y20_c0,y21_l1=>bif ((decide (((s13_19:Nat):Int)<((a1.FInputs.l.length:Nat):Int)))&&(decide (y20_c0.Ferr=(0:Int)))) then((a1.FInputs.l[s13_19]?).bind fun x30=>(Z106 a1.FInputs ((s13_19:Nat):Int)).bind fun x33=>bif x33 then(r12_work_object_j26 s13_19 ((r12_work_object_l18 a1 a2 a3 k_rec_266 k_rec_348 n18)) y20_c0 y21_l1) else((Z43 a2 x30.FName).bind fun x36=>guardO (x36.2) (Z109 y20_c0 x36.1) false fun x45=>bif (x36.2&&(!x45)) then((addC a3 (1:Int)).bind fun x47=>(k_rec_266 y20_c0 x30.FType x36.1 x47).bind fun x48=>r12_work_object_j38 s13_19 y21_l1 x30 ((r12_work_object_l18 a1 a2 a3 k_rec_266 k_rec_348 n18)) x48.2 x48.1) else(bif x30.FHas then((addC a3 (1:Int)).bind fun x51=>(k_rec_348 y20_c0 x30.FType x30.FDefault x51).bind fun x52=>r12_work_object_j38 s13_19 y21_l1 x30 ((r12_work_object_l18 a1 a2 a3 k_rec_266 k_rec_348 n18)) x52.2 x52.1) else((Z52 x30.FType).bind fun x54=>bif x54 then((Z108 y20_c0 (22:Int)).bind fun x56=>r12_work_object_j38 s13_19 y21_l1 x30 ((r12_work_object_l18 a1 a2 a3 k_rec_266 k_rec_348 n18)) x56 Z12.zero) else(r12_work_object_j26 s13_19 ((r12_work_object_l18 a1 a2 a3 k_rec_266 k_rec_348 n18)) y20_c0 y21_l1))))) else(r12_work_object_j13   y20_c0 y21_l1)
def r12_work_object_j8 (a1:TDef) (a2:Z12) (a3:Int) (k_rec_266:Z4->TRef->Z12->Int->Option (Z12×Z4)) (k_rec_348:Z4->TRef->Z12->Int->Option (Z12×Z4)) (y9_c0:Z4):Option (Z12×Z4):=r12_work_object_l18 a1 a2 a3 k_rec_266 k_rec_348 (a1.FInputs.l.length+1) 0 y9_c0 (Z12.mk (6:Int) (0:Int) ([]:Bs) true ([]) (Sl.nil:Sl Bs))
def r12_work_object_j65 (s9_59:Nat) (k_next_58:Nat->Z4->Option (Z12×Z4)) (y66_c0:Z4):Option (Z12×Z4):=k_next_58 (s9_59+1) y66_c0
def r12_work_object_l58 (a1:TDef) (a2:Z12) (a3:Int) (k_rec_266:Z4->TRef->Z12->Int->Option (Z12×Z4)) (k_rec_348:Z4->TRef->Z12->Int->Option (Z12×Z4)):Nat->Nat->Z4->Option (Z12×Z4)
 | 0,_,_=>none
 | n58+1,s9_59,y60_c0=>bif (decide (((s9_59:Nat):Int)<((a2.FKeys.l.length:Nat):Int))) then((a2.FKeys.l[s9_59]?).bind fun x68=>(Z76 a1.FInputs x68).bind fun x69=>bif (!x69.2) then((Z108 y60_c0 (22:Int)).bind fun x72=>r12_work_object_j65 s9_59 ((r12_work_object_l58 a1 a2 a3 k_rec_266 k_rec_348 n58)) x72) else(r12_work_object_j65 s9_59 ((r12_work_object_l58 a1 a2 a3 k_rec_266 k_rec_348 n58)) y60_c0)) else(r12_work_object_j8 a1 a2 a3 k_rec_266 k_rec_348 y60_c0)
mutual
def r12_work_coerce_n:Nat->Z4->TRef->Z12->Int->Option (Z12×Z4)
 | 0,_,_,_,_=>none
 | n+1,a0,a1,a2,a3=>(Z77 a0.Fd a1.FName).bind fun x4=>bif (!x4) then((Z108 a0 (10:Int)).bind fun x7=>some ((Z12.mk (0:Int) (0:Int) ([]:Bs) true ([]) (Sl.nil:Sl Bs)),x7)) else(bif (a0.Flit&&(decide (a2.FKind=(7:Int)))) then((Z43 a0.Fvars a2.FText).bind fun x54=>bif (!decide (x54.1.FKind=(0:Int))) then((Z114 a0 x54.1 a3).bind fun x59=>some (x59.1,x59.2)) else(r12_work_coerce_j9 a1 a3 (r12_work_list_n n) (r12_work_object_n n) a0 (Z12.mk (0:Int) (0:Int) ([]:Bs) true ([]) (Sl.nil:Sl Bs)) Z12.zero)) else(r12_work_coerce_j9 a1 a3 (r12_work_list_n n) (r12_work_object_n n) a0 a2 Z12.zero))
def r12_work_list_n:Nat->Z4->TRef->Z12->Int->Option (Z12×Z4)
 | 0,_,_,_,_=>none
 | n+1,a0,a1,a2,a3=>bif (decide (a2.FKind=(5:Int))) then(r12_work_list_j3 a0 a1 a3 (r12_work_coerce_n n) a2.FItems) else(r12_work_list_j3 a0 a1 a3 (r12_work_coerce_n n) (⟨false,[a2]⟩:Sl Z12))
def r12_work_object_n:Nat->Z4->TDef->Z12->Int->Option (Z12×Z4)
 | 0,_,_,_,_=>none
 | n+1,a0,a1,a2,a3=>bif (!decide (a2.FKind=(6:Int))) then((Z108 a0 (23:Int)).bind fun x6=>some ((Z12.mk (0:Int) (0:Int) ([]:Bs) true ([]) (Sl.nil:Sl Bs)),x6)) else(r12_work_object_l58 a1 a2 a3 (r12_work_coerce_n n) (Z111_n n) (a2.FKeys.l.length+1) 0 a0)
def Z111_n:Nat->Z4->TRef->Z12->Int->Option (Z12×Z4)
 | 0,_,_,_,_=>none
 | n+1,a0,a1,a2,a3=>((r12_work_coerce_n n) (Z4.mk a0.Fd (Z12.mk (0:Int) (0:Int) ([]:Bs) true ([]) (Sl.nil:Sl Bs)) true a0.Fcount a0.Ferr) a1 a2 a3).bind fun x5=>some (x5.1,(Z4.mk x5.2.Fd a0.Fvars a0.Flit x5.2.Fcount x5.2.Ferr))
end
theorem r12_work_coerce_step (n:Nat) (ih_266:∀{a0:Z4}{a1:TRef}{a2:Z12}{a3:Int}{c0:Nat}{r:Z12×Z4},r12_work_coerce_n n a0 a1 a2 a3=some r->∀(H:Heap) (hc0:H c0=some (.cells (Z4.c a0))),ACalls Tryz.prog 266 [.d (.ptr c0 0),.agg (TRef.c a1),.agg (Z12.c a2),.d (.int .i64 a3)] H fun v h'=>v=.a (.agg (Z12.c r.1))/\h'=(H.set c0 (some (.cells (Z4.c r.2))))) (ih_320:∀{a0:Z4}{a1:TRef}{a2:Z12}{a3:Int}{c0:Nat}{r:Z12×Z4},r12_work_list_n n a0 a1 a2 a3=some r->∀(H:Heap) (hc0:H c0=some (.cells (Z4.c a0))),ACalls Tryz.prog 320 [.d (.ptr c0 0),.agg (TRef.c a1),.agg (Z12.c a2),.d (.int .i64 a3)] H fun v h'=>v=.a (.agg (Z12.c r.1))/\h'=(H.set c0 (some (.cells (Z4.c r.2))))) (ih_323:∀{a0:Z4}{a1:TDef}{a2:Z12}{a3:Int}{c0:Nat}{r:Z12×Z4},r12_work_object_n n a0 a1 a2 a3=some r->∀(H:Heap) (hc0:H c0=some (.cells (Z4.c a0))),ACalls Tryz.prog 323 [.d (.ptr c0 0),.agg (TDef.c a1),.agg (Z12.c a2),.d (.int .i64 a3)] H fun v h'=>v=.a (.agg (Z12.c r.1))/\h'=(H.set c0 (some (.cells (Z4.c r.2))))) (ih_348:∀{a0:Z4}{a1:TRef}{a2:Z12}{a3:Int}{c0:Nat}{r:Z12×Z4},Z111_n n a0 a1 a2 a3=some r->∀(H:Heap) (hc0:H c0=some (.cells (Z4.c a0))),ACalls Tryz.prog 348 [.d (.ptr c0 0),.agg (TRef.c a1),.agg (Z12.c a2),.d (.int .i64 a3)] H fun v h'=>v=.a (.agg (Z12.c r.1))/\h'=(H.set c0 (some (.cells (Z4.c r.2))))):∀{a0:Z4}{a1:TRef}{a2:Z12}{a3:Int}{c0:Nat}{r:Z12×Z4},r12_work_coerce_n (n+1) a0 a1 a2 a3=some r->∀(H:Heap) (hc0:H c0=some (.cells (Z4.c a0))),ACalls Tryz.prog 266 [.d (.ptr c0 0),.agg (TRef.c a1),.agg (Z12.c a2),.d (.int .i64 a3)] H fun v h'=>v=.a (.agg (Z12.c r.1))/\h'=(H.set c0 (some (.cells (Z4.c r.2)))):=by
 intro a0 a1 a2 a3  c0 r hE H hc0;rw [r12_work_coerce_n] at hE;refine ACalls.oW 111 [.cell 8 104] Tryz.call266 Tryz.func266 ?_;refine AWp.heqA (h':=(H.set c0 (some (.cells (Z4.c a0))))) (by funext n_; simp only [Heap.set]; (repeat' split)<;>simp_all) ?_;refine seqR (S BX ?_);refine sL (boxL rfl (by repeat (first|exact Snoc.nil|apply Snoc.cons))) rfl ?_;refine Sl ?_;refine nil ?_;refine seqK fun K2 hK2=>?_
 refine AWp.seqD (Sd Mv (Sd NP ?_));refine DOps.s0 (fieldP (TK rfl) rfl rfl (TK rfl) rfl rfl) rfl ?_;refine DOps.s0 (loadP (TK rfl) rfl rfl hpG rfl) rfl ?_;refine Sd Fv (Sd Ld ?_);obtain⟨x4,gx4,hE⟩:=bO hE;refine Scd rfl rfl (Z77_walk gx4) ?_;refine Sd NB ?_;refine DOps.nil (by decide +kernel) ?_;refine cE hE (fun hc5 hE=>?_) (fun hc5 hE=>?_)
 ·refine seqR (S Mv ?_);obtain⟨x7,gx7,hE⟩:=bO hE;refine sH (callH rfl rfl (Z108_walk gx7 _ hpG)) rfl ?_;refine hq (H.set c0 (some (.cells (Z4.c x7)))) ?_;refine nil ?_;refine seqR (S BU ?_);refine Sf ?_;refine nil ?_;exact rt hE
 refine sk hK2 ?_;clear hK2 K2;refine seqJ (TA 0 (TA 3 (TA 5 (TA 6 (TA 8 KeepsT.nil))))) (fun(z:Z4×Z12×Z12)=>[]) (fun z=>[Z12.c z.2.1,Z12.c z.2.2]) (fun z=>(H.set c0 (some (.cells (Z4.c z.1))))) (fun z=>r12_work_coerce_j9 a1 a3 (r12_work_list_n n) (r12_work_object_n n) z.1 z.2.1 z.2.2=some r) ?_ ?_
 ·intro K9 hK9;refine seqR (S Mv (S NP ?_));refine s0 (fieldP (TK rfl) rfl rfl (TK rfl) rfl rfl) rfl ?_;refine s0 (loadP (TK rfl) rfl rfl hpG rfl) rfl ?_;refine S Mv (G0 FL ?_);refine gC rfl rfl (fun hC=>ungdLA (k:=31) rfl (loadL (TK rfl) rfl rfl rfl rfl)) rfl ?_;refine G1 32 rfl BI ?_;refine S PA (nil ?_);refine cE hE (fun hc52 hE=>?_) (fun hc52 hE=>?_)
  ·refine AWp.seqD (Sd Mv (Sd NP ?_));refine DOps.s0 (fieldP (TK rfl) rfl rfl (TK rfl) rfl rfl) rfl ?_;refine DOps.s0 (loadP (TK rfl) rfl rfl hpG rfl) rfl ?_;refine Sd FL (Sd LL ?_);obtain⟨x54,gx54,hE⟩:=bO hE;refine Scd rfl rfl (Z43_walk gx54) ?_;refine Sd Mv (Sd EX (Sd EX ?_));refine DOps.sB (TK rfl) rfl rfl ?_ (by repeat (first|exact Snoc.nil|apply Snoc.cons));refine DOps.sLn (storeLFA (TK rfl) rfl rfl rfl rfl rfl) ?_
   refine Sd As ?_;refine DOps.nil (by decide +kernel) ?_;refine freezeA 9 _ rfl (KA 0 (KA 3 (KA 5 (KA 6 (KA 8 Keeps.nil))))) ?_;refine seqK fun K55 hK55=>?_;refine seqR (S Fv (S Ld (S BI (nil ?_))));refine cE hE (fun hc57 hE=>?_) (fun hc57 hE=>?_)
   ·refine seqR (S Mv (S Ld (S Mv ?_)));obtain⟨x59,gx59,hE⟩:=bO hE;refine sH (callH rfl rfl (Z114_walk gx59 _ hpG)) rfl ?_;refine hq (H.set c0 (some (.cells (Z4.c x59.2)))) ?_;refine Sf ?_;refine nil ?_;exact rt hE
   refine sk hK55 ?_;clear hK55 K55;refine region ?_;refine S BU ?_;refine Sf ?_;refine nil ?_;exact hK9 _ (a0,(Z12.mk (0:Int) (0:Int) ([]:Bs) true ([]) (Sl.nil:Sl Bs)),Z12.zero) Weak.toA hE
  refine AWp.skip ?_;exact hK9 _ (a0,a2,Z12.zero) Weak.toA hE
 rintro ⟨y10_c0,y11_l0,y12_l1⟩ hE;try dsimp only at hE
 unfold r12_work_coerce_j9 at hE;refine seqR (S Mv (S Mv ?_));obtain⟨x14,gx14,hE⟩:=bO hE;refine sH (callH rfl rfl (Z110_walk gx14 _ hpG)) rfl ?_;refine hq (H.set c0 (some (.cells (Z4.c x14)))) ?_;refine nil ?_;refine seqK fun K15 hK15=>?_;refine seqR (S Mv (S NP ?_));refine s0 (fieldP (TK rfl) rfl rfl (TK rfl) rfl rfl) rfl ?_;refine s0 (loadP (TK rfl) rfl rfl hpG rfl) rfl ?_;refine S BI (nil ?_);refine cE hE (fun hc17 hE=>?_) (fun hc17 hE=>?_)
 ·refine seqR (S BU ?_);refine Sf ?_;refine nil ?_;exact rt hE
 refine sk hK15 ?_;clear hK15 K15;refine seqK fun K19 hK19=>?_;refine seqR (S FL (S LL (S BI (nil ?_))));refine cE hE (fun hc21 hE=>?_) (fun hc21 hE=>?_)
 ·refine seqJH (TA 8 KeepsT.nil) (fun(z:Z4)=>[]) (fun z=>(H.set c0 (some (.cells (Z4.c z))))) (fun z=>r12_work_coerce_j22 z=some r) ?_ ?_
  ·intro K22 hK22;refine seqR (S Ld ?_);obtain⟨x26,gx26,hE⟩:=bO hE;refine Sc rfl rfl (Z52_walk gx26) ?_;refine nil ?_;refine cE hE (fun hc27 hE=>?_) (fun hc27 hE=>?_)
   ·refine region ?_;refine S Mv ?_;obtain⟨x28,gx28,hE⟩:=bO hE;refine sH (callH rfl rfl (Z108_walk gx28 _ hpG)) rfl ?_;refine hq (H.set c0 (some (.cells (Z4.c x28)))) ?_;refine nil ?_;exact hK22 _ x28 Weak.toA hE
   refine AWp.skip ?_;exact hK22 _ x14 Weak.toA hE
  rintro y23_c0 hE;try dsimp only at hE
  unfold r12_work_coerce_j22 at hE;refine seqR (S BU ?_);refine Sf ?_;refine nil ?_;exact rt hE
 refine sk hK19 ?_;clear hK19 K19;refine seqK fun K29 hK29=>?_;refine seqR (S Ld ?_);obtain⟨x31,gx31,hE⟩:=bO hE;refine Sc rfl rfl (Z50_walk gx31) ?_;refine S Mv (S EX (S EX ?_));refine Sl ?_;refine Sf ?_;refine S As (nil ?_);refine freezeA 11 _ rfl (KA 0 (KA 3 (KA 5 (KA 6 (KA 8 (KA 12 Keeps.nil)))))) ?_;refine seqR (S Mv (nil ?_));refine cE hE (fun hc33 hE=>?_) (fun hc33 hE=>?_)
 ·refine seqR (S Mv (S Ld (S LL (S Mv ?_))));obtain⟨x35,gx35,hE⟩:=bO hE;refine sH (callH rfl rfl (ih_320 gx35 _ hpG)) rfl ?_;refine hq (H.set c0 (some (.cells (Z4.c x35.2)))) ?_;refine Sf ?_;refine nil ?_;exact rt hE
 refine sk hK29 ?_;clear hK29 K29;refine seqK fun K36 hK36=>?_;refine seqR (S Fv (S Ld ?_));obtain⟨x38,gx38,hE⟩:=bO hE;refine Sc rfl rfl (Z79_walk gx38) ?_;refine nil ?_;refine cE hE (fun hc39 hE=>?_) (fun hc39 hE=>?_)
 ·refine seqR (S Mv (S Fv (S Ld (S LL ?_))));obtain⟨x41,gx41,hE⟩:=bO hE;refine sH (callH rfl rfl (Z113_walk gx41 _ hpG)) rfl ?_;refine hq (H.set c0 (some (.cells (Z4.c x41.2)))) ?_;refine Sf ?_;refine nil ?_;exact rt hE
 refine sk hK36 ?_;clear hK36 K36;refine AWp.seqD (Sd Mv (Sd NP ?_));refine DOps.s0 (fieldP (TK rfl) rfl rfl (TK rfl) rfl rfl) rfl ?_;refine DOps.s0 (loadP (TK rfl) rfl rfl hpG rfl) rfl ?_;refine Sd Fv (Sd Ld ?_);obtain⟨x43,gx43,hE⟩:=bO hE;refine Scd rfl rfl (Z75_walk gx43) ?_;refine Sd Mv (Sd EX (Sd EX ?_));refine DOps.sB (TK rfl) rfl rfl ?_ (by repeat (first|exact Snoc.nil|apply Snoc.cons));refine DOps.sLn (storeLFA (TK rfl) rfl rfl rfl rfl rfl) ?_
 refine Sd As ?_;refine DOps.nil (by decide +kernel) ?_;refine freezeA 13 _ rfl (KA 0 (KA 3 (KA 6 (KA 8 Keeps.nil)))) ?_;refine seqK fun K44 hK44=>?_;refine seqR (S Fv (S Ld (S BI (nil ?_))));refine cE hE (fun hc46 hE=>?_) (fun hc46 hE=>?_)
 ·refine seqR (S Mv (S Ld (S LL ?_)));obtain⟨x48,gx48,hE⟩:=bO hE;refine sH (callH rfl rfl (Z107_walk gx48 _ hpG)) rfl ?_;refine hq (H.set c0 (some (.cells (Z4.c x48.2)))) ?_;refine Sf ?_;refine nil ?_;exact rt hE
 refine sk hK44 ?_;clear hK44 K44;refine seqR (S Mv (S Ld (S LL (S Mv ?_))));obtain⟨x50,gx50,hE⟩:=bO hE;refine sH (callH rfl rfl (ih_323 gx50 _ hpG)) rfl ?_;refine hq (H.set c0 (some (.cells (Z4.c x50.2)))) ?_;refine Sf ?_;refine nil ?_;exact rt hE
theorem r12_work_list_step (n:Nat) (ih_266:∀{a0:Z4}{a1:TRef}{a2:Z12}{a3:Int}{c0:Nat}{r:Z12×Z4},r12_work_coerce_n n a0 a1 a2 a3=some r->∀(H:Heap) (hc0:H c0=some (.cells (Z4.c a0))),ACalls Tryz.prog 266 [.d (.ptr c0 0),.agg (TRef.c a1),.agg (Z12.c a2),.d (.int .i64 a3)] H fun v h'=>v=.a (.agg (Z12.c r.1))/\h'=(H.set c0 (some (.cells (Z4.c r.2))))) (ih_320:∀{a0:Z4}{a1:TRef}{a2:Z12}{a3:Int}{c0:Nat}{r:Z12×Z4},r12_work_list_n n a0 a1 a2 a3=some r->∀(H:Heap) (hc0:H c0=some (.cells (Z4.c a0))),ACalls Tryz.prog 320 [.d (.ptr c0 0),.agg (TRef.c a1),.agg (Z12.c a2),.d (.int .i64 a3)] H fun v h'=>v=.a (.agg (Z12.c r.1))/\h'=(H.set c0 (some (.cells (Z4.c r.2))))) (ih_323:∀{a0:Z4}{a1:TDef}{a2:Z12}{a3:Int}{c0:Nat}{r:Z12×Z4},r12_work_object_n n a0 a1 a2 a3=some r->∀(H:Heap) (hc0:H c0=some (.cells (Z4.c a0))),ACalls Tryz.prog 323 [.d (.ptr c0 0),.agg (TDef.c a1),.agg (Z12.c a2),.d (.int .i64 a3)] H fun v h'=>v=.a (.agg (Z12.c r.1))/\h'=(H.set c0 (some (.cells (Z4.c r.2))))) (ih_348:∀{a0:Z4}{a1:TRef}{a2:Z12}{a3:Int}{c0:Nat}{r:Z12×Z4},Z111_n n a0 a1 a2 a3=some r->∀(H:Heap) (hc0:H c0=some (.cells (Z4.c a0))),ACalls Tryz.prog 348 [.d (.ptr c0 0),.agg (TRef.c a1),.agg (Z12.c a2),.d (.int .i64 a3)] H fun v h'=>v=.a (.agg (Z12.c r.1))/\h'=(H.set c0 (some (.cells (Z4.c r.2))))):∀{a0:Z4}{a1:TRef}{a2:Z12}{a3:Int}{c0:Nat}{r:Z12×Z4},r12_work_list_n (n+1) a0 a1 a2 a3=some r->∀(H:Heap) (hc0:H c0=some (.cells (Z4.c a0))),ACalls Tryz.prog 320 [.d (.ptr c0 0),.agg (TRef.c a1),.agg (Z12.c a2),.d (.int .i64 a3)] H fun v h'=>v=.a (.agg (Z12.c r.1))/\h'=(H.set c0 (some (.cells (Z4.c r.2)))):=by
 intro a0 a1 a2 a3  c0 r hE H hc0;rw [r12_work_list_n] at hE;refine ACalls.oW 50 [.cell 8 104] Tryz.call320 Tryz.func320 ?_;refine AWp.heqA (h':=(H.set c0 (some (.cells (Z4.c a0))))) (by funext n_; simp only [Heap.set]; (repeat' split)<;>simp_all) ?_;refine seqR (S BX (S BX ?_));refine Sl ?_;refine nil ?_;refine seqR (S Ld (S BV (S As (nil ?_))));refine seqJH (TA 0 (TA 3 (TA 5 (TA 8 KeepsT.nil)))) (fun(z:(Sl Z12))=>[(9,.a (.d (Sl.d 5 Z12.c none z)))]) (fun z=>(H.set c0 (some (.cells (Z4.c a0))))) (fun z=>r12_work_list_j3 a0 a1 a3 (r12_work_coerce_n n) z=some r) ?_ ?_
 ·intro K3 hK3;refine seqR (S Fv (S Ld (S BI (nil ?_))));refine cE hE (fun hc27 hE=>?_) (fun hc27 hE=>?_)
  ·refine region ?_;refine S Fv ?_;refine s0 (loadV (TK rfl) rfl rfl (congrArg (fun x=>some (A.d x)) (Z12.FItemsD_eq _))) rfl ?_;refine S As (nil ?_);exact hK3 _ a2.FItems Weak.toA hE
  refine AWp.skip ?_;exact hK3 _ (⟨false,[a2]⟩:Sl Z12) Weak.toA hE
 rintro s9_4 hE;try dsimp only at hE
 unfold r12_work_list_j3 at hE;refine seqR (S BU ?_);refine Sl ?_;refine AOps.tok 5 fun tk10_6 htk10_6=>?_;obtain⟨ne_tk10_6_c0,htk10_6⟩:=Heap.set_fresh htk10_6;refine AOps.relocal 1 _ rfl (fun j w cs hh hx=>tok_cell 3 5 5 hh (t:=tk10_6) hpG hx rfl) ?_;refine Sf ?_;refine AOps.relocal 1 _ rfl (fun j w cs hh hx=>tok_cell 3 5 5 hh (t:=tk10_6) hpG hx rfl) ?_;refine nil ?_;refine seqJ (TA 8 (TA 10 KeepsT.nil)) (fun(z:Z4×Z12)=>[]) (fun z=>[Z12.c Z12.zero,((intE .i64) z.2.FKind++(intE .i64) z.2.FInt++strE z.2.FText++[Sl.d 5 Z12.c (some tk10_6) z.2.FItems]++(fun s=>[Sl.d 1 strE none s]) z.2.FKeys)]) (fun z=>((H.set c0 (some (.cells (Z4.c z.1)))).set tk10_6 (some (.tok 5 z.2.FItems.l.length)))) (fun z=>r12_work_list_j7 z.1 z.2=some r) ?_ ?_
 ·intro K7 hK7;refine seqR (S As (nil ?_));refine block ?_;refine loopO (TA 0 (TA 3 (TA 5 (TA 8 (TA 9 (TA 10 KeepsT.nil)))))) (fun(z:Nat×Nat×Z4×Z12)=>[(11,.a (.d (.int .i64 ((z.2.1:Nat):Int))))]) (fun z=>[Z12.c Z12.zero,((intE .i64) z.2.2.2.FKind++(intE .i64) z.2.2.2.FInt++strE z.2.2.2.FText++[Sl.d 5 Z12.c (some tk10_6) z.2.2.2.FItems]++(fun s=>[Sl.d 1 strE none s]) z.2.2.2.FKeys)]) (fun z=>((H.set c0 (some (.cells (Z4.c z.2.2.1)))).set tk10_6 (some (.tok 5 z.2.2.2.FItems.l.length)))) (fun z=>z.1) (fun z=>r12_work_list_l12 a1 a3 s9_4 (r12_work_coerce_n n) z.1 z.2.1 z.2.2.1 z.2.2.2=some r) ((s9_4.l.length+1),0,a0,(Z12.mk (5:Int) (0:Int) ([]:Bs) true ([]) (Sl.nil:Sl Bs))) hE Weak.toA ?_
  rintro ⟨n12,s11_13,y14_c0,y15_l1⟩ hE K12 hK12;try dsimp only at hE
  cases n12 with
  | zero=>cases hE
  | succ n12 =>
    rw [r12_work_list_l12] at hE;refine seqK fun K16 hK16=>?_;refine seqR (S Mv (S Mv ?_));refine sLen (f:=Z12.c) (s:=s9_4) (TK rfl) rfl rfl rfl rfl fun hL18=>?_;refine S BI (S Mv (G0 Mv ?_));refine G1 26 rfl NP ?_;refine gC rfl rfl (fun hC=>ungdA (k:=27) rfl (fieldP (TK rfl) rfl rfl (TK rfl) rfl rfl)) rfl ?_;refine gC rfl rfl (fun hC=>ungdA (k:=28) rfl (loadP (TK rfl) rfl rfl hpG rfl)) rfl ?_;refine G1 29 rfl BI ?_
    refine S PA (nil ?_);refine cE hE (fun hc19 hE=>?_) (fun hc19 hE=>?_)
    ·try dsimp only at hc19
     have hf19:=of_decide_eq_true (and_left hc19);refine sk hK16 ?_;clear hK16 K16;refine seqK fun K20 hK20=>?_;refine block ?_;refine AWp.seqD (Sd Mv (Sd Ld (Sd Mv (Sd Mv ?_))));obtain⟨x22,gx22,hE⟩:=bO hE;refine Sd (ix Z12.c s11_13 gx22) (Sd Ld (Sd Mv ?_));obtain⟨x23,gx23,hE⟩:=bO hE;refine DOps.s0 (addM rfl rfl gx23) rfl ?_;obtain⟨x24,gx24,hE⟩:=bO hE;refine DOps.sH (callH rfl rfl (ih_266 gx24 _ hpG)) rfl ?_
     refine DOps.Dh ((H.set c0 (some (.cells (Z4.c x24.2)))).set tk10_6 (some (.tok 5 y15_l1.FItems.l.length))) ?_;refine DOps.sB (TK rfl) rfl rfl ?_ (by repeat (first|exact Snoc.nil|apply Snoc.cons));refine DOps.sLn (storeLFA (TK rfl) rfl rfl rfl rfl rfl) ?_;refine DOps.nil (by decide +kernel) ?_;refine freezeA 12 _ rfl (KA 0 (KA 3 (KA 5 (KA 8 (KA 9 (KA 10 (KA 11 Keeps.nil))))))) ?_;refine region ?_
     refine S FL (S LL (S Ld (S BV ?_)));obtain⟨x25,gx25,hE⟩:=bO hE;refine SH (am Z12.c (TK rfl) rfl (TK rfl) (TK rfl) gx25) ?_;refine hq ((H.set c0 (some (.cells (Z4.c x24.2)))).set tk10_6 (some (.tok 5 x25.l.length))) ?_;refine S FL ?_;refine Sf ?_;refine nil ?_;refine hK20 _ ?_;clear hK20 K20;refine region ?_;refine S Mv ?_;refine SI ?_;refine S As (nil ?_);exact hK12 _ (n12,(s11_13+1),x24.2,(Z12.mk y15_l1.FKind y15_l1.FInt y15_l1.FText x25.nl x25.l y15_l1.FKeys)) Weak.toA hE (Nat.lt_succ_self _)
    refine AWp.exit ?_;exact hK7 _ (y14_c0,y15_l1) Weak.toA hE
 rintro ⟨y8_c0,y9_l1⟩ hE;try dsimp only at hE
 unfold r12_work_list_j7 at hE;refine seqK fun K10 hK10=>?_;refine AWp.relocal 1 _ rfl (fun j w cs hh hx=>untok_cell 3 hx rfl) ?_;refine AWp.relocal 1 (Z12.c y9_l1) rfl (fun j w cs hh hx=>by rw [Z12.cu_eq]; exact hx) ?_;refine region ?_;refine S LL ?_;refine Sf ?_;refine nil ?_;refine hK10 _ ?_;clear hK10 K10;refine AWp.ret ?_;repeat (first|refine xBlock_ret ?_|refine xThen_ret ?_)
 obtain rfl:=Option.some.inj hE;refine retQ.retF (H.set c0 (some (.cells (Z4.c y8_c0)))) rfl ⟨rfl,rfl⟩ ?_;intro id_ o_ he_;have e_tk10_6:id_≠tk10_6:=fun e_=>by subst e_; simp_all [Heap.set]
 rw [<- he_];simp only [Heap.set] at he_ ⊢
 (repeat' split)<;>simp_all
theorem r12_work_object_step (n:Nat) (ih_266:∀{a0:Z4}{a1:TRef}{a2:Z12}{a3:Int}{c0:Nat}{r:Z12×Z4},r12_work_coerce_n n a0 a1 a2 a3=some r->∀(H:Heap) (hc0:H c0=some (.cells (Z4.c a0))),ACalls Tryz.prog 266 [.d (.ptr c0 0),.agg (TRef.c a1),.agg (Z12.c a2),.d (.int .i64 a3)] H fun v h'=>v=.a (.agg (Z12.c r.1))/\h'=(H.set c0 (some (.cells (Z4.c r.2))))) (ih_320:∀{a0:Z4}{a1:TRef}{a2:Z12}{a3:Int}{c0:Nat}{r:Z12×Z4},r12_work_list_n n a0 a1 a2 a3=some r->∀(H:Heap) (hc0:H c0=some (.cells (Z4.c a0))),ACalls Tryz.prog 320 [.d (.ptr c0 0),.agg (TRef.c a1),.agg (Z12.c a2),.d (.int .i64 a3)] H fun v h'=>v=.a (.agg (Z12.c r.1))/\h'=(H.set c0 (some (.cells (Z4.c r.2))))) (ih_323:∀{a0:Z4}{a1:TDef}{a2:Z12}{a3:Int}{c0:Nat}{r:Z12×Z4},r12_work_object_n n a0 a1 a2 a3=some r->∀(H:Heap) (hc0:H c0=some (.cells (Z4.c a0))),ACalls Tryz.prog 323 [.d (.ptr c0 0),.agg (TDef.c a1),.agg (Z12.c a2),.d (.int .i64 a3)] H fun v h'=>v=.a (.agg (Z12.c r.1))/\h'=(H.set c0 (some (.cells (Z4.c r.2))))) (ih_348:∀{a0:Z4}{a1:TRef}{a2:Z12}{a3:Int}{c0:Nat}{r:Z12×Z4},Z111_n n a0 a1 a2 a3=some r->∀(H:Heap) (hc0:H c0=some (.cells (Z4.c a0))),ACalls Tryz.prog 348 [.d (.ptr c0 0),.agg (TRef.c a1),.agg (Z12.c a2),.d (.int .i64 a3)] H fun v h'=>v=.a (.agg (Z12.c r.1))/\h'=(H.set c0 (some (.cells (Z4.c r.2))))):∀{a0:Z4}{a1:TDef}{a2:Z12}{a3:Int}{c0:Nat}{r:Z12×Z4},r12_work_object_n (n+1) a0 a1 a2 a3=some r->∀(H:Heap) (hc0:H c0=some (.cells (Z4.c a0))),ACalls Tryz.prog 323 [.d (.ptr c0 0),.agg (TDef.c a1),.agg (Z12.c a2),.d (.int .i64 a3)] H fun v h'=>v=.a (.agg (Z12.c r.1))/\h'=(H.set c0 (some (.cells (Z4.c r.2)))):=by
 intro a0 a1 a2 a3  c0 r hE H hc0;rw [r12_work_object_n] at hE;refine ACalls.oW 123 [.cell 8 104] Tryz.call323 Tryz.func323 ?_;refine AWp.heqA (h':=(H.set c0 (some (.cells (Z4.c a0))))) (by funext n_; simp only [Heap.set]; (repeat' split)<;>simp_all) ?_;refine seqR (S BX (S BX ?_));refine Sl ?_;refine nil ?_;refine seqK fun K2 hK2=>?_;refine seqR (S Fv (S Ld (S BI (nil ?_))));refine cE hE (fun hc4 hE=>?_) (fun hc4 hE=>?_)
 ·refine seqR (S Mv ?_);obtain⟨x6,gx6,hE⟩:=bO hE;refine sH (callH rfl rfl (Z108_walk gx6 _ hpG)) rfl ?_;refine hq (H.set c0 (some (.cells (Z4.c x6)))) ?_;refine nil ?_;refine seqR (S BU ?_);refine Sf ?_;refine nil ?_;exact rt hE
 refine sk hK2 ?_;clear hK2 K2;refine seqJH (TA 0 (TA 3 (TA 5 (TA 6 (TA 8 KeepsT.nil))))) (fun(z:Z4)=>[]) (fun z=>(H.set c0 (some (.cells (Z4.c z))))) (fun z=>r12_work_object_j8 a1 a2 a3 (r12_work_coerce_n n) (Z111_n n) z=some r) ?_ ?_
 ·intro K8 hK8;refine seqR (S As (nil ?_));refine block ?_;refine loopH (TA 0 (TA 3 (TA 5 (TA 6 (TA 8 KeepsT.nil))))) (fun(z:Nat×Nat×Z4)=>[(9,.a (.d (.int .i64 ((z.2.1:Nat):Int))))]) (fun z=>(H.set c0 (some (.cells (Z4.c z.2.2))))) (fun z=>z.1) (fun z=>r12_work_object_l58 a1 a2 a3 (r12_work_coerce_n n) (Z111_n n) z.1 z.2.1 z.2.2=some r) ((a2.FKeys.l.length+1),0,a0) hE Weak.toA ?_;rintro ⟨n58,s9_59,y60_c0⟩ hE K58 hK58
  try dsimp only at hE
  cases n58 with
  | zero=>cases hE
  | succ n58 =>
    rw [r12_work_object_l58] at hE;refine seqK fun K61 hK61=>?_;refine seqR (S Mv (S Fv (S Ld ?_)));refine sLen (f:=strE) (s:=a2.FKeys) (TK rfl) rfl rfl rfl rfl fun hL63=>?_;refine S BI (nil ?_);refine cE hE (fun hc64 hE=>?_) (fun hc64 hE=>?_)
    ·try dsimp only at hc64
     have hf64:=of_decide_eq_true hc64;refine sk hK61 ?_;clear hK61 K61;refine seqJH (TA 0 (TA 3 (TA 5 (TA 6 (TA 8 (TA 9 KeepsT.nil)))))) (fun(z:Z4)=>[]) (fun z=>(H.set c0 (some (.cells (Z4.c z))))) (fun z=>r12_work_object_j65 s9_59 ((r12_work_object_l58 a1 a2 a3 (r12_work_coerce_n n) (Z111_n n) n58)) z=some r) ?_ ?_
     ·intro K65 hK65;refine block ?_;refine AWp.seqD (Sd Fv (Sd Ld (Sd Fv (Sd Ld (Sd Mv ?_)))));obtain⟨x68,gx68,hE⟩:=bO hE;refine Sd (ix strE s9_59 gx68) (Sd Ld ?_);obtain⟨x69,gx69,hE⟩:=bO hE;refine Scd rfl rfl (Z76_walk gx69) ?_;refine Sd Mv (Sd EX (Sd EX ?_));refine DOps.sB (TK rfl) rfl rfl ?_ (by repeat (first|exact Snoc.nil|apply Snoc.cons));refine DOps.sLn (storeLFA (TK rfl) rfl rfl rfl rfl rfl) ?_
      refine Sd As ?_;refine DOps.nil (by decide +kernel) ?_;refine freezeA 10 _ rfl (KA 0 (KA 3 (KA 5 (KA 6 (KA 8 (KA 9 (KA 11 Keeps.nil))))))) ?_;refine seqR (S Mv (S NB (nil ?_)));refine cE hE (fun hc71 hE=>?_) (fun hc71 hE=>?_)
      ·refine region ?_;refine S Mv ?_;obtain⟨x72,gx72,hE⟩:=bO hE;refine sH (callH rfl rfl (Z108_walk gx72 _ hpG)) rfl ?_;refine hq (H.set c0 (some (.cells (Z4.c x72)))) ?_;refine nil ?_;exact hK65 _ x72 Weak.toA hE
      refine AWp.skip ?_;exact hK65 _ y60_c0 Weak.toA hE
     rintro y66_c0 hE;try dsimp only at hE
     unfold r12_work_object_j65 at hE;refine region ?_;refine S Mv ?_;refine SI ?_;refine S As (nil ?_);exact hK58 _ (n58,(s9_59+1),y66_c0) Weak.toA hE (Nat.lt_succ_self _)
    refine AWp.exit ?_;exact hK8 _ y60_c0 Weak.toA hE
 rintro y9_c0 hE;try dsimp only at hE
 unfold r12_work_object_j8 at hE;refine seqR (S BU ?_);refine Sl ?_;refine AOps.tok 5 fun tk12_11 htk12_11=>?_;obtain⟨ne_tk12_11_c0,htk12_11⟩:=Heap.set_fresh htk12_11;refine AOps.relocal 1 _ rfl (fun j w cs hh hx=>tok_cell 3 5 5 hh (t:=tk12_11) hpG hx rfl) ?_;refine AOps.tok 1 fun tk12_12 htk12_12=>?_;obtain⟨ne_tk12_12_tk12_11,htk12_12⟩:=Heap.set_fresh htk12_12;obtain⟨ne_tk12_12_c0,htk12_12⟩:=Heap.set_fresh htk12_12
 refine AOps.relocal 1 _ rfl (fun j w cs hh hx=>tok_cell 4 1 1 hh (t:=tk12_12) hpG hx rfl) ?_;refine Sf ?_;refine AOps.relocal 1 _ rfl (fun j w cs hh hx=>tok_cell 3 5 5 hh (t:=tk12_11) hpG hx rfl) ?_;refine AOps.relocal 1 _ rfl (fun j w cs hh hx=>tok_cell 4 1 1 hh (t:=tk12_12) hpG hx rfl) ?_;refine nil ?_;refine seqJ (TA 8 (TA 12 KeepsT.nil)) (fun(z:Z4×Z12)=>[]) (fun z=>[Z12.c Z12.zero,((intE .i64) z.2.FKind++(intE .i64) z.2.FInt++strE z.2.FText++[Sl.d 5 Z12.c (some tk12_11) z.2.FItems]++[Sl.d 1 strE (some tk12_12) z.2.FKeys])]) (fun z=>(((H.set c0 (some (.cells (Z4.c z.1)))).set tk12_11 (some (.tok 5 z.2.FItems.l.length))).set tk12_12 (some (.tok 1 z.2.FKeys.l.length)))) (fun z=>r12_work_object_j13 z.1 z.2=some r) ?_ ?_
 ·intro K13 hK13;refine seqR (S As (nil ?_));refine block ?_;refine loopO (TA 0 (TA 3 (TA 5 (TA 6 (TA 8 (TA 12 KeepsT.nil)))))) (fun(z:Nat×Nat×Z4×Z12)=>[(13,.a (.d (.int .i64 ((z.2.1:Nat):Int))))]) (fun z=>[Z12.c Z12.zero,((intE .i64) z.2.2.2.FKind++(intE .i64) z.2.2.2.FInt++strE z.2.2.2.FText++[Sl.d 5 Z12.c (some tk12_11) z.2.2.2.FItems]++[Sl.d 1 strE (some tk12_12) z.2.2.2.FKeys])]) (fun z=>(((H.set c0 (some (.cells (Z4.c z.2.2.1)))).set tk12_11 (some (.tok 5 z.2.2.2.FItems.l.length))).set tk12_12 (some (.tok 1 z.2.2.2.FKeys.l.length)))) (fun z=>z.1) (fun z=>r12_work_object_l18 a1 a2 a3 (r12_work_coerce_n n) (Z111_n n) z.1 z.2.1 z.2.2.1 z.2.2.2=some r) ((a1.FInputs.l.length+1),0,y9_c0,(Z12.mk (6:Int) (0:Int) ([]:Bs) true ([]) (Sl.nil:Sl Bs))) hE Weak.toA ?_
  rintro ⟨n18,s13_19,y20_c0,y21_l1⟩ hE K18 hK18;try dsimp only at hE
  cases n18 with
  | zero=>cases hE
  | succ n18 =>
    rw [r12_work_object_l18] at hE;refine seqK fun K22 hK22=>?_;refine seqR (S Mv (S Fv (S Ld ?_)));refine sLen (f:=Z9.c) (s:=a1.FInputs) (TK rfl) rfl rfl rfl rfl fun hL24=>?_;refine S BI (S Mv (G0 Mv ?_));refine G1 53 rfl NP ?_;refine gC rfl rfl (fun hC=>ungdA (k:=54) rfl (fieldP (TK rfl) rfl rfl (TK rfl) rfl rfl)) rfl ?_;refine gC rfl rfl (fun hC=>ungdA (k:=55) rfl (loadP (TK rfl) rfl rfl hpG rfl)) rfl ?_
    refine G1 56 rfl BI ?_;refine S PA (nil ?_);refine cE hE (fun hc25 hE=>?_) (fun hc25 hE=>?_)
    ·try dsimp only at hc25
     have hf25:=of_decide_eq_true (and_left hc25);refine sk hK22 ?_;clear hK22 K22;refine seqJ (TA 0 (TA 3 (TA 5 (TA 6 (TA 8 (TA 12 (TA 13 KeepsT.nil))))))) (fun(z:Z4×Z12)=>[]) (fun z=>[Z12.c Z12.zero,((intE .i64) z.2.FKind++(intE .i64) z.2.FInt++strE z.2.FText++[Sl.d 5 Z12.c (some tk12_11) z.2.FItems]++[Sl.d 1 strE (some tk12_12) z.2.FKeys])]) (fun z=>(((H.set c0 (some (.cells (Z4.c z.1)))).set tk12_11 (some (.tok 5 z.2.FItems.l.length))).set tk12_12 (some (.tok 1 z.2.FKeys.l.length)))) (fun z=>r12_work_object_j26 s13_19 ((r12_work_object_l18 a1 a2 a3 (r12_work_coerce_n n) (Z111_n n) n18)) z.1 z.2=some r) ?_ ?_
     ·intro K26 hK26;refine block ?_;refine seqR (S Fv (S Ld (S Mv ?_)));obtain⟨x30,gx30,hE⟩:=bO hE;refine S (ix Z9.c s13_19 gx30) (S Ld ?_);refine Sl ?_;refine Sf ?_;refine nil ?_;refine freezeA 14 _ rfl (KA 0 (KA 3 (KA 5 (KA 6 (KA 8 (KA 12 (KA 13 Keeps.nil))))))) ?_;refine seqK fun K31 hK31=>?_;refine seqR (S Fv (S Ld (S Mv ?_)));obtain⟨x33,gx33,hE⟩:=bO hE;refine Sc rfl rfl (Z106_walk gx33) ?_;refine nil ?_
      refine cE hE (fun hc34 hE=>?_) (fun hc34 hE=>?_)
      ·refine AWp.exit ?_;exact hK26 _ (y20_c0,y21_l1) Weak.toA hE
      refine sk hK31 ?_;clear hK31 K31;refine seqR (S Ld (S Fv (S Ld ?_)));obtain⟨x36,gx36,hE⟩:=bO hE;refine Sc rfl rfl (Z43_walk gx36) ?_;refine S Mv (S EX (S EX ?_));refine Sl ?_;refine Sf ?_;refine S As (nil ?_);refine freezeA 15 _ rfl (KA 0 (KA 3 (KA 5 (KA 6 (KA 8 (KA 12 (KA 13 (KA 14 (KA 16 Keeps.nil))))))))) ?_;refine seqR ?_;refine Sl ?_;refine nil ?_;refine seqJ (TA 0 (TA 3 (TA 5 (TA 6 (TA 8 (TA 12 (TA 13 (TA 14 (TA 17 KeepsT.nil))))))))) (fun(z:Z4×Z12)=>[]) (fun z=>[Z12.c Z12.zero,((intE .i64) y21_l1.FKind++(intE .i64) y21_l1.FInt++strE y21_l1.FText++[Sl.d 5 Z12.c (some tk12_11) y21_l1.FItems]++[Sl.d 1 strE (some tk12_12) y21_l1.FKeys]),Z12.c z.2]) (fun z=>(((H.set c0 (some (.cells (Z4.c z.1)))).set tk12_11 (some (.tok 5 y21_l1.FItems.l.length))).set tk12_12 (some (.tok 1 y21_l1.FKeys.l.length)))) (fun z=>r12_work_object_j38 s13_19 y21_l1 x30 ((r12_work_object_l18 a1 a2 a3 (r12_work_coerce_n n) (Z111_n n) n18)) z.1 z.2=some r) ?_ ?_
      ·intro K38 hK38;refine block ?_;refine seqR (S Mv (S Mv (G0 Mv (G0 Ld ?_))));obtain⟨x45,gx45,hE⟩:=gO hE;refine gC rfl rfl (fun hC=>ungdA (k:=80) rfl (ungdA (k:=81) rfl (callR rfl rfl (Z109_walk (gx45 hC) _ hpG)))) rfl ?_;refine G1 82 rfl NB ?_;refine S PA (S As (nil ?_));refine cE hE (fun hc46 hE=>?_) (fun hc46 hE=>?_)
       ·refine region ?_;refine S Mv (S Fv (S Ld (S Ld (S Mv ?_))));obtain⟨x47,gx47,hE⟩:=bO hE;refine s0 (addM rfl rfl gx47) rfl ?_;obtain⟨x48,gx48,hE⟩:=bO hE;refine sH (callH rfl rfl (ih_266 gx48 _ hpG)) rfl ?_;refine hq (((H.set c0 (some (.cells (Z4.c x48.2)))).set tk12_11 (some (.tok 5 y21_l1.FItems.l.length))).set tk12_12 (some (.tok 1 y21_l1.FKeys.l.length))) ?_;refine Sf ?_;refine nil ?_;exact hK38 _ (x48.2,x48.1) Weak.toA hE
       refine seqR (S Fv (S Ld (S As (nil ?_))));refine cE hE (fun hc50 hE=>?_) (fun hc50 hE=>?_)
       ·refine region ?_;refine S Mv (S Fv (S Ld (S Fv (S Ld (S Mv ?_)))));obtain⟨x51,gx51,hE⟩:=bO hE;refine s0 (addM rfl rfl gx51) rfl ?_;obtain⟨x52,gx52,hE⟩:=bO hE;refine sH (callH rfl rfl (ih_348 gx52 _ hpG)) rfl ?_;refine hq (((H.set c0 (some (.cells (Z4.c x52.2)))).set tk12_11 (some (.tok 5 y21_l1.FItems.l.length))).set tk12_12 (some (.tok 1 y21_l1.FKeys.l.length))) ?_;refine Sf ?_;refine nil ?_
        exact hK38 _ (x52.2,x52.1) Weak.toA hE
       refine seqR (S Fv (S Ld ?_));obtain⟨x54,gx54,hE⟩:=bO hE;refine Sc rfl rfl (Z52_walk gx54) ?_;refine S As (nil ?_);refine cE hE (fun hc55 hE=>?_) (fun hc55 hE=>?_)
       ·refine region ?_;refine S Mv ?_;obtain⟨x56,gx56,hE⟩:=bO hE;refine sH (callH rfl rfl (Z108_walk gx56 _ hpG)) rfl ?_;refine hq (((H.set c0 (some (.cells (Z4.c x56)))).set tk12_11 (some (.tok 5 y21_l1.FItems.l.length))).set tk12_12 (some (.tok 1 y21_l1.FKeys.l.length))) ?_;refine nil ?_;exact hK38 _ (x56,Z12.zero) Weak.toA hE
       refine AWp.exit ?_;exact hK26 _ (y20_c0,y21_l1) Weak.toA hE
      rintro ⟨y39_c0,y40_l2⟩ hE;try dsimp only at hE
      unfold r12_work_object_j38 at hE;refine seqR (S FL (S LL (S Fv (S Ld (S BV ?_)))));obtain⟨x42,gx42,hE⟩:=bO hE;refine SH (am strE (TK rfl) rfl (TK rfl) (TK rfl) gx42) ?_;refine hq (((H.set c0 (some (.cells (Z4.c y39_c0)))).set tk12_11 (some (.tok 5 y21_l1.FItems.l.length))).set tk12_12 (some (.tok 1 x42.l.length))) ?_;refine S FL ?_;refine Sf ?_;refine nil ?_;refine region ?_;refine S FL (S LL (S LL (S BV ?_)))
      obtain⟨x43,gx43,hE⟩:=bO hE;refine SH (am Z12.c (TK rfl) rfl (TK rfl) (TK rfl) gx43) ?_;refine hq (((H.set c0 (some (.cells (Z4.c y39_c0)))).set tk12_11 (some (.tok 5 x43.l.length))).set tk12_12 (some (.tok 1 x42.l.length))) ?_;refine S FL ?_;refine Sf ?_;refine nil ?_;exact hK26 _ (y39_c0,(Z12.mk y21_l1.FKind y21_l1.FInt y21_l1.FText x43.nl x43.l x42)) Weak.toA hE
     rintro ⟨y27_c0,y28_l1⟩ hE;try dsimp only at hE
     unfold r12_work_object_j26 at hE;refine region ?_;refine S Mv ?_;refine SI ?_;refine S As (nil ?_);exact hK18 _ (n18,(s13_19+1),y27_c0,y28_l1) Weak.toA hE (Nat.lt_succ_self _)
    refine AWp.exit ?_;exact hK13 _ (y20_c0,y21_l1) Weak.toA hE
 rintro ⟨y14_c0,y15_l1⟩ hE;try dsimp only at hE
 unfold r12_work_object_j13 at hE;refine seqK fun K16 hK16=>?_;refine AWp.relocal 1 _ rfl (fun j w cs hh hx=>untok_cell 3 hx rfl) ?_;refine AWp.relocal 1 _ rfl (fun j w cs hh hx=>untok_cell 4 hx rfl) ?_;refine AWp.relocal 1 (Z12.c y15_l1) rfl (fun j w cs hh hx=>by rw [Z12.cu_eq]; exact hx) ?_;refine region ?_;refine S LL ?_;refine Sf ?_;refine nil ?_;refine hK16 _ ?_;clear hK16 K16;refine AWp.ret ?_
 repeat (first|refine xBlock_ret ?_|refine xThen_ret ?_)
 obtain rfl:=Option.some.inj hE;refine retQ.retF (H.set c0 (some (.cells (Z4.c y14_c0)))) rfl ⟨rfl,rfl⟩ ?_;intro id_ o_ he_;have e_tk12_11:id_≠tk12_11:=fun e_=>by subst e_; simp_all [Heap.set]
 have e_tk12_12:id_≠tk12_12:=fun e_=>by subst e_; simp_all [Heap.set]
 rw [<- he_];simp only [Heap.set] at he_ ⊢
 (repeat' split)<;>simp_all
theorem Z111_step (n:Nat) (ih_266:∀{a0:Z4}{a1:TRef}{a2:Z12}{a3:Int}{c0:Nat}{r:Z12×Z4},r12_work_coerce_n n a0 a1 a2 a3=some r->∀(H:Heap) (hc0:H c0=some (.cells (Z4.c a0))),ACalls Tryz.prog 266 [.d (.ptr c0 0),.agg (TRef.c a1),.agg (Z12.c a2),.d (.int .i64 a3)] H fun v h'=>v=.a (.agg (Z12.c r.1))/\h'=(H.set c0 (some (.cells (Z4.c r.2))))) (ih_320:∀{a0:Z4}{a1:TRef}{a2:Z12}{a3:Int}{c0:Nat}{r:Z12×Z4},r12_work_list_n n a0 a1 a2 a3=some r->∀(H:Heap) (hc0:H c0=some (.cells (Z4.c a0))),ACalls Tryz.prog 320 [.d (.ptr c0 0),.agg (TRef.c a1),.agg (Z12.c a2),.d (.int .i64 a3)] H fun v h'=>v=.a (.agg (Z12.c r.1))/\h'=(H.set c0 (some (.cells (Z4.c r.2))))) (ih_323:∀{a0:Z4}{a1:TDef}{a2:Z12}{a3:Int}{c0:Nat}{r:Z12×Z4},r12_work_object_n n a0 a1 a2 a3=some r->∀(H:Heap) (hc0:H c0=some (.cells (Z4.c a0))),ACalls Tryz.prog 323 [.d (.ptr c0 0),.agg (TDef.c a1),.agg (Z12.c a2),.d (.int .i64 a3)] H fun v h'=>v=.a (.agg (Z12.c r.1))/\h'=(H.set c0 (some (.cells (Z4.c r.2))))) (ih_348:∀{a0:Z4}{a1:TRef}{a2:Z12}{a3:Int}{c0:Nat}{r:Z12×Z4},Z111_n n a0 a1 a2 a3=some r->∀(H:Heap) (hc0:H c0=some (.cells (Z4.c a0))),ACalls Tryz.prog 348 [.d (.ptr c0 0),.agg (TRef.c a1),.agg (Z12.c a2),.d (.int .i64 a3)] H fun v h'=>v=.a (.agg (Z12.c r.1))/\h'=(H.set c0 (some (.cells (Z4.c r.2))))):∀{a0:Z4}{a1:TRef}{a2:Z12}{a3:Int}{c0:Nat}{r:Z12×Z4},Z111_n (n+1) a0 a1 a2 a3=some r->∀(H:Heap) (hc0:H c0=some (.cells (Z4.c a0))),ACalls Tryz.prog 348 [.d (.ptr c0 0),.agg (TRef.c a1),.agg (Z12.c a2),.d (.int .i64 a3)] H fun v h'=>v=.a (.agg (Z12.c r.1))/\h'=(H.set c0 (some (.cells (Z4.c r.2)))):=by
 intro a0 a1 a2 a3  c0 r hE H hc0;rw [Z111_n] at hE;refine ACalls.oW 41 [.cell 8 104] Tryz.call348 Tryz.func348 ?_;refine AWp.heqA (h':=(H.set c0 (some (.cells (Z4.c a0))))) (by funext n_; simp only [Heap.set]; (repeat' split)<;>simp_all) ?_;refine seqR (S BX (S BX ?_));refine Sl ?_;refine nil ?_;refine AWp.seqD (Sd Mv (Sd NP ?_));refine DOps.s0 (fieldP (TK rfl) rfl rfl (TK rfl) rfl rfl) rfl ?_;refine DOps.s0 (loadP (TK rfl) rfl rfl hpG rfl) rfl ?_
 refine Sd Mv (Sd NP ?_);refine DOps.s0 (fieldP (TK rfl) rfl rfl (TK rfl) rfl rfl) rfl ?_;refine DOps.s0 (loadP (TK rfl) rfl rfl hpG rfl) rfl ?_;refine DOps.sB (TK rfl) rfl rfl ?_ (by repeat (first|exact Snoc.nil|apply Snoc.cons));refine DOps.sLn (storeLFA (TK rfl) rfl rfl rfl rfl rfl) ?_;refine Sd As ?_;refine DOps.nil (by decide +kernel) ?_;refine freezeA 9 _ rfl (KA 0 (KA 3 (KA 5 (KA 6 (KA 8 (KA 10 Keeps.nil)))))) ?_
 refine seqR (S Mv (S Mv (S BU (S NP ?_))));refine s0 (fieldP (TK rfl) rfl rfl (TK rfl) rfl rfl) rfl ?_;refine sHn (storeP' (TK rfl) rfl rfl hpG rfl (Nat.le_of_ble_eq_true rfl) rfl rfl) rfl rfl ?_;refine hq (H.set c0 (some (.cells (Z4.c (Z4.mk a0.Fd (Z12.mk (0:Int) (0:Int) ([]:Bs) true ([]) (Sl.nil:Sl Bs)) a0.Flit a0.Fcount a0.Ferr))))) ?_;refine S NP ?_;refine s0 (fieldP (TK rfl) rfl rfl (TK rfl) rfl rfl) rfl ?_
 refine sHn (storeP1 (TK rfl) rfl rfl hpG rfl (by repeat (first|exact SetAt.zero|apply SetAt.succ))) rfl rfl ?_;refine hq (H.set c0 (some (.cells (Z4.c (Z4.mk a0.Fd (Z12.mk (0:Int) (0:Int) ([]:Bs) true ([]) (Sl.nil:Sl Bs)) true a0.Fcount a0.Ferr))))) ?_;refine nil ?_;refine seqR (S Mv (S Ld (S Ld (S Mv ?_))));obtain⟨x5,gx5,hE⟩:=bO hE;refine sH (callH rfl rfl (ih_266 gx5 _ hpG)) rfl ?_;refine hq (H.set c0 (some (.cells (Z4.c x5.2)))) ?_
 refine Sl ?_;refine Sf ?_;refine nil ?_;refine freezeA 11 _ rfl (KA 0 (KA 8 (KA 9 (KA 10 Keeps.nil)))) ?_;refine seqR (S Mv (S Mv (S Ld (S Mv (S NP ?_)))));refine s0 (fieldP (TK rfl) rfl rfl (TK rfl) rfl rfl) rfl ?_;refine sHn (storeP' (TK rfl) rfl rfl hpG rfl (Nat.le_of_ble_eq_true rfl) rfl rfl) rfl rfl ?_;refine hq (H.set c0 (some (.cells (Z4.c (Z4.mk x5.2.Fd a0.Fvars x5.2.Flit x5.2.Fcount x5.2.Ferr))))) ?_
 refine S NP ?_;refine s0 (fieldP (TK rfl) rfl rfl (TK rfl) rfl rfl) rfl ?_;refine sHn (storeP1 (TK rfl) rfl rfl hpG rfl (by repeat (first|exact SetAt.zero|apply SetAt.succ))) rfl rfl ?_;refine hq (H.set c0 (some (.cells (Z4.c (Z4.mk x5.2.Fd a0.Fvars a0.Flit x5.2.Fcount x5.2.Ferr))))) ?_;refine nil ?_;refine seqR (S Ld ?_);refine Sf ?_;refine nil ?_;exact rt hE
theorem r12_work_coerce_all:∀(n:Nat),(∀{a0:Z4}{a1:TRef}{a2:Z12}{a3:Int}{c0:Nat}{r:Z12×Z4},r12_work_coerce_n n a0 a1 a2 a3=some r->∀(H:Heap) (hc0:H c0=some (.cells (Z4.c a0))),ACalls Tryz.prog 266 [.d (.ptr c0 0),.agg (TRef.c a1),.agg (Z12.c a2),.d (.int .i64 a3)] H fun v h'=>v=.a (.agg (Z12.c r.1))/\h'=(H.set c0 (some (.cells (Z4.c r.2)))))/\(∀{a0:Z4}{a1:TRef}{a2:Z12}{a3:Int}{c0:Nat}{r:Z12×Z4},r12_work_list_n n a0 a1 a2 a3=some r->∀(H:Heap) (hc0:H c0=some (.cells (Z4.c a0))),ACalls Tryz.prog 320 [.d (.ptr c0 0),.agg (TRef.c a1),.agg (Z12.c a2),.d (.int .i64 a3)] H fun v h'=>v=.a (.agg (Z12.c r.1))/\h'=(H.set c0 (some (.cells (Z4.c r.2)))))/\(∀{a0:Z4}{a1:TDef}{a2:Z12}{a3:Int}{c0:Nat}{r:Z12×Z4},r12_work_object_n n a0 a1 a2 a3=some r->∀(H:Heap) (hc0:H c0=some (.cells (Z4.c a0))),ACalls Tryz.prog 323 [.d (.ptr c0 0),.agg (TDef.c a1),.agg (Z12.c a2),.d (.int .i64 a3)] H fun v h'=>v=.a (.agg (Z12.c r.1))/\h'=(H.set c0 (some (.cells (Z4.c r.2)))))/\(∀{a0:Z4}{a1:TRef}{a2:Z12}{a3:Int}{c0:Nat}{r:Z12×Z4},Z111_n n a0 a1 a2 a3=some r->∀(H:Heap) (hc0:H c0=some (.cells (Z4.c a0))),ACalls Tryz.prog 348 [.d (.ptr c0 0),.agg (TRef.c a1),.agg (Z12.c a2),.d (.int .i64 a3)] H fun v h'=>v=.a (.agg (Z12.c r.1))/\h'=(H.set c0 (some (.cells (Z4.c r.2)))))
 | 0=>⟨fun hE=>by first|cases hE|(rw [r12_work_coerce_n] at hE; cases hE),fun hE=>by first|cases hE|(rw [r12_work_list_n] at hE; cases hE),fun hE=>by first|cases hE|(rw [r12_work_object_n] at hE; cases hE),fun hE=>by first|cases hE|(rw [Z111_n] at hE; cases hE)⟩
 | n+1=>⟨r12_work_coerce_step n (r12_work_coerce_all n).1 (r12_work_coerce_all n).2.1 (r12_work_coerce_all n).2.2.1 (r12_work_coerce_all n).2.2.2,r12_work_list_step n (r12_work_coerce_all n).1 (r12_work_coerce_all n).2.1 (r12_work_coerce_all n).2.2.1 (r12_work_coerce_all n).2.2.2,r12_work_object_step n (r12_work_coerce_all n).1 (r12_work_coerce_all n).2.1 (r12_work_coerce_all n).2.2.1 (r12_work_coerce_all n).2.2.2,Z111_step n (r12_work_coerce_all n).1 (r12_work_coerce_all n).2.1 (r12_work_coerce_all n).2.2.1 (r12_work_coerce_all n).2.2.2⟩
def r12_work_coerce (a0:Z4) (a1:TRef) (a2:Z12) (a3:Int):Option (Z12×Z4):=r12_work_coerce_n F0 a0 a1 a2 a3
theorem r12_work_coerce_walk {a0:Z4}{a1:TRef}{a2:Z12}{a3:Int}{c0:Nat}{r:Z12×Z4}(hE:r12_work_coerce a0 a1 a2 a3=some r) (H:Heap) (hc0:H c0=some (.cells (Z4.c a0))):ACalls Tryz.prog 266 [.d (.ptr c0 0),.agg (TRef.c a1),.agg (Z12.c a2),.d (.int .i64 a3)] H fun v h'=>v=.a (.agg (Z12.c r.1))/\h'=(H.set c0 (some (.cells (Z4.c r.2)))):=(r12_work_coerce_all F0).1 hE H hc0
end Go.Proofs
