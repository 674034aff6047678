import Derived.Test.YtbcphmbgonamlaaGreatDoorV3
set_option maxRecDepth 100000
set_option maxHeartbeats 2000000
set_option linter.unusedVariables false
set_option linter.unusedSimpArgs false
namespace Go.Proofs
open Go Go.Ab
open AOps Cert AWp Keeps KeepsT
variable {lou:Lou}
def Z112 (a0:Z4) (a1:TRef) (a2:Z12):Option (Z12×Int×Z4):=(r12_work_coerce a0 a1 a2 (1:Int)).bind fun x3=>bif (!decide (x3.2.Ferr=(0:Int))) then(some ((Z12.mk (0:Int) (0:Int) ([]:Bs) true ([]) (Sl.nil:Sl Bs)),x3.2.Ferr,x3.2)) else(some (x3.1,(0:Int),x3.2))
theorem Z112_walk {a0:Z4}{a1:TRef}{a2:Z12}{c0:Nat}{r:Z12×Int×Z4}(hE:Z112 a0 a1 a2=some r) (H:Heap) (hc0:H c0=some (.cells (Z4.c a0))):ACalls Tryz.prog 215 [.d (.ptr c0 0),.agg (TRef.c a1),.agg (Z12.c a2)] H fun v h'=>v=.tup [.agg (Z12.c r.1),.d (.int .i64 r.2.1)]/\h'=(H.set c0 (some (.cells (Z4.c r.2.2)))):=by
 unfold Z112 at hE;refine ACalls.oW 24 [.cell 6 104,.tmp 7] Tryz.call215 Tryz.func215 ?_;refine AWp.heqA (h':=(H.set c0 (some (.cells (Z4.c a0))))) (by funext n_; simp only [Heap.set]; (repeat' split)<;>simp_all) ?_;refine seqR (S BX (S BX ?_));refine Sl ?_;refine S As (nil ?_);refine seqR (S Mv (S Ld (S Ld ?_)));obtain⟨x3,gx3,hE⟩:=bO hE;refine sH (callH rfl rfl (r12_work_coerce_walk gx3 _ hpG)) rfl ?_
 refine hq (H.set c0 (some (.cells (Z4.c x3.2)))) ?_;refine Sl ?_;refine Sf ?_;refine nil ?_;refine freezeA 8 _ rfl (KA 0 (KA 6 Keeps.nil)) ?_;refine seqK fun K4 hK4=>?_;refine seqR (S Mv (S NP ?_));refine s0 (fieldP (TK rfl) rfl rfl (TK rfl) rfl rfl) rfl ?_;refine s0 (loadP (TK rfl) rfl rfl hpG rfl) rfl ?_;refine S BI (nil ?_);refine cE hE (fun hc6 hE=>?_) (fun hc6 hE=>?_)
 ·refine AWp.seqD (Sd BU (Sd Mv (Sd NP ?_)));refine DOps.s0 (fieldP (TK rfl) rfl rfl (TK rfl) rfl rfl) rfl ?_;refine DOps.s0 (loadP (TK rfl) rfl rfl hpG rfl) rfl ?_;refine DOps.sLn (storeLFA (TK rfl) rfl rfl rfl rfl rfl) ?_;refine Sd As ?_;refine DOps.nil (by decide +kernel) ?_;exact rt hE
 refine sk hK4 ?_;clear hK4 K4;refine seqR (S Ld ?_);refine Sf ?_;refine S As (nil ?_);exact rt hE
def Z104 (a0:TDoc) (a1:TRef) (a2:Z12) (a3:Z12):Option (Z12×Int):=(Z77 a0 a1.FName).bind fun x6=>guardO (x6) (Z109 (Z4.mk a0 a3 true (0:Int) (0:Int)) a2) false fun x7=>bif (x6&&x7) then(some ((Z12.mk (0:Int) (0:Int) ([]:Bs) true ([]) (Sl.nil:Sl Bs)),(8:Int))) else((Z112 (Z4.mk a0 a3 true (0:Int) (0:Int)) a1 a2).bind fun x11=>some (x11.1,x11.2.1))
theorem Z104_walk {a0:TDoc}{a1:TRef}{a2 a3:Z12}{r:Z12×Int}(hE:Z104 a0 a1 a2 a3=some r) (H:Heap) :ACalls Tryz.prog 159 [.agg (TDoc.c a0),.agg (TRef.c a1),.agg (Z12.c a2),.agg (Z12.c a3)] H fun v h'=>v=.tup [.agg (Z12.c r.1),.d (.int .i64 r.2)]/\h'=H:=by
 unfold Z104 at hE;refine ACalls.oW 31 [.cell 8 104,.tmp 9] Tryz.call159 Tryz.func159 ?_;refine seqR (S BX (S BX (S BX (S BX ?_))));refine Sl ?_;refine S As (nil ?_);refine seqR (S Ld (S Ld (S BU ?_)));refine sE (StepE.boxO rfl) rfl (fun _ _ _ ⟨id14_3,hid14_3,e1,e2,e3⟩=>?_); subst e1 e2 e3;refine hq (H.set id14_3 (some (.cells (Z4.c (Z4.mk a0 a3 true (0:Int) (0:Int)))))) ?_;refine S As (nil ?_);refine seqK fun K4 hK4=>?_
 refine seqR (S Ld (S Fv (S Ld ?_)));obtain⟨x6,gx6,hE⟩:=bO hE;refine Sc rfl rfl (Z77_walk gx6) ?_;refine S Mv (G0 Mv (G0 Ld ?_));obtain⟨x7,gx7,hE⟩:=gO hE;refine gC rfl rfl (fun hC=>ungdA (k:=20) rfl (ungdA (k:=21) rfl (callR rfl rfl (Z109_walk (gx7 hC) _ hpG)))) rfl ?_;refine S PA (nil ?_);refine cE hE (fun hc8 hE=>?_) (fun hc8 hE=>?_)
 ·refine seqR (S BU ?_);refine Sf ?_;refine S As (nil ?_);refine AWp.ret ?_;repeat (first|refine xBlock_ret ?_|refine xThen_ret ?_)
  obtain rfl:=Option.some.inj hE;refine retQ.retF H rfl ⟨rfl,rfl⟩ ?_
  first|exact Heap.sub_set hid14_3|(simp only [Heap.set_set]; exact Heap.sub_set hid14_3)
 refine sk hK4 ?_;clear hK4 K4;refine seqR (S Mv (S Ld (S Ld ?_)));obtain⟨x11,gx11,hE⟩:=bO hE;refine sH (callH rfl rfl (Z112_walk gx11 _ hpG)) rfl ?_;refine hq (H.set id14_3 (some (.cells (Z4.c x11.2.2)))) ?_;refine S EX (S EX ?_);refine Sf ?_;refine S As (nil ?_);refine AWp.ret ?_;repeat (first|refine xBlock_ret ?_|refine xThen_ret ?_)
 obtain rfl:=Option.some.inj hE;refine retQ.retF H rfl ⟨rfl,rfl⟩ ?_
 first|exact Heap.sub_set hid14_3|(simp only [Heap.set_set]; exact Heap.sub_set hid14_3)
def Z105_j3  (s11_4:(Sl Z6)):Option (Sl Z6):=some s11_4
def Z105_j14 (s12_9:Nat) (k_next_7:(Sl Z6)->Nat->Option (Sl Z6)) (s11_15:(Sl Z6)):Option (Sl Z6):=k_next_7 s11_15 (s12_9+1)
def Z105_l7 (a0:TDoc) (a1:(Sl Z9)) (a2:Bs) (a3:Bs) (a4:Bs) :Nat->(Sl Z6)->Nat->Option (Sl Z6)
 | 0,_,_=>none
 | n7+1,s11_8,s12_9=>bif (decide (((s12_9:Nat):Int)<((a1.l.length:Nat):Int))) then((a1.l[s12_9]?).bind fun x18=>bif (!x18.FHas) then(Z105_j14 s12_9 ((Z105_l7 a0 a1 a2 a3 a4 n7)) s11_8) else((a1.l[s12_9]?).bind fun x21=>(a1.l[s12_9]?).bind fun x22=>(Z104 a0 x21.FType x22.FDefault (Z12.mk (0:Int) (0:Int) ([]:Bs) true ([]) (Sl.nil:Sl Bs))).bind fun x23=>bif (!decide (x23.2=(0:Int))) then((catC a2 a3).bind fun x26=>(a1.l[s12_9]?).bind fun x27=>(catC x26 x27.FName).bind fun x28=>(catC x28 a4).bind fun x29=>(appC 24 s11_8 (⟨false,[(Z6.mk (23:Int) x29)]⟩:Sl Z6)).bind fun x30=>Z105_j14 s12_9 ((Z105_l7 a0 a1 a2 a3 a4 n7)) x30) else(Z105_j14 s12_9 ((Z105_l7 a0 a1 a2 a3 a4 n7)) s11_8))) else(Z105_j3   s11_8)
def Z105 (a0:TDoc) (a1:(Sl Z9)) (a2:Bs) (a3:Bs) (a4:Bs):Option (Sl Z6):=Z105_l7 a0 a1 a2 a3 a4 (a1.l.length+1) (Sl.nil:Sl Z6) 0
theorem Z105_walk {a0:TDoc}{a1:Sl Z9}{a2 a3 a4:Bs}{w1:Option Nat}{r:Sl Z6}(hE:Z105 a0 a1 a2 a3 a4=some r) (H:Heap) :ACalls Tryz.prog 86 [.agg (TDoc.c a0),.d (Sl.d 10 Z9.c w1 a1),.d (.str a2),.d (.str a3),.d (.str a4)] H fun v h'=>v=.a (.d (Sl.d 2 Z6.c none r))/\h'=H:=by
 unfold Z105 at hE;refine ACalls.oW 61 [.tmp 10] Tryz.call86 Tryz.func86 ?_;refine AWp.tok 2 fun tk1 htk1=>?_;refine seqR (S BX ?_);refine s0 (assignNil (k':=2) rfl) rfl ?_;refine nil ?_;refine seqR (S As (nil ?_));refine AWp.nilTok 11 2 tk1 rfl hpG ?_;refine seqJH KeepsT.nil (fun(z:(Sl Z6))=>[(11,.a (.d (Sl.d 2 Z6.c (some tk1) z)))]) (fun z=>(H.set tk1 (some (.tok 2 z.l.length)))) (fun z=>Z105_j3 z=some r) ?_ ?_
 ·intro K3 hK3;refine seqR (S As (nil ?_));refine block ?_;refine loopH (TA 1 (TA 2 (TA 3 (TA 4 (TA 5 KeepsT.nil))))) (fun(z:Nat×(Sl Z6)×Nat)=>[(11,.a (.d (Sl.d 2 Z6.c (some tk1) z.2.1))),(12,.a (.d (.int .i64 ((z.2.2:Nat):Int))))]) (fun z=>(H.set tk1 (some (.tok 2 z.2.1.l.length)))) (fun z=>z.1) (fun z=>Z105_l7 a0 a1 a2 a3 a4 z.1 z.2.1 z.2.2=some r) ((a1.l.length+1),(Sl.nil:Sl Z6),0) hE Weak.toA ?_
  rintro ⟨n7,s11_8,s12_9⟩ hE K7 hK7;try dsimp only at hE
  cases n7 with
  | zero=>cases hE
  | succ n7 =>
    rw [Z105_l7] at hE;refine seqK fun K10 hK10=>?_;refine seqR (S Mv (S Mv ?_));refine sLen (f:=Z9.c) (s:=a1) (TK rfl) rfl rfl rfl rfl fun hL12=>?_;refine S BI (nil ?_);refine cE hE (fun hc13 hE=>?_) (fun hc13 hE=>?_)
    ·try dsimp only at hc13
     have hf13:=of_decide_eq_true hc13;refine sk hK10 ?_;clear hK10 K10;refine seqJH (TA 1 (TA 2 (TA 3 (TA 4 (TA 5 (TA 12 KeepsT.nil)))))) (fun(z:(Sl Z6))=>[(11,.a (.d (Sl.d 2 Z6.c (some tk1) z)))]) (fun z=>(H.set tk1 (some (.tok 2 z.l.length)))) (fun z=>Z105_j14 s12_9 ((Z105_l7 a0 a1 a2 a3 a4 n7)) z=some r) ?_ ?_
     ·intro K14 hK14;refine block ?_;refine seqK fun K16 hK16=>?_;refine seqR (S Mv (S Mv ?_));obtain⟨x18,gx18,hE⟩:=bO hE;refine S (ix Z9.c s12_9 gx18) (S Fv (S Ld (S NB (nil ?_))));refine cE hE (fun hc19 hE=>?_) (fun hc19 hE=>?_)
      ·refine AWp.exit ?_;exact hK14 _ s11_8 Weak.toA hE
      refine sk hK16 ?_;clear hK16 K16;refine AWp.seqD (Sd Ld (Sd Mv (Sd Mv ?_)));obtain⟨x21,gx21,hE⟩:=bO hE;refine Sd (ix Z9.c s12_9 gx21) (Sd Fv (Sd Ld (Sd Mv (Sd Mv ?_))));obtain⟨x22,gx22,hE⟩:=bO hE;refine Sd (ix Z9.c s12_9 gx22) (Sd Fv (Sd Ld (Sd BU ?_)));obtain⟨x23,gx23,hE⟩:=bO hE;refine Scd rfl rfl (Z104_walk gx23) ?_;refine Sd Mv (Sd EX (Sd EX ?_));refine DOps.sB (TK rfl) rfl rfl ?_ (by repeat (first|exact Snoc.nil|apply Snoc.cons))
      refine DOps.sLn (storeLFA (TK rfl) rfl rfl rfl rfl rfl) ?_;refine Sd As ?_;refine DOps.nil (by decide +kernel) ?_;refine freezeA 13 _ rfl (KA 1 (KA 2 (KA 3 (KA 4 (KA 5 (KA 11 (KA 12 (KA 14 Keeps.nil)))))))) ?_;refine seqR (S Mv (S BI (nil ?_)));refine cE hE (fun hc25 hE=>?_) (fun hc25 hE=>?_)
      ·refine region ?_;refine S Mv (S Mv (S Mv ?_));obtain⟨x26,gx26,hE⟩:=bO hE;refine s0 (catM rfl rfl gx26) rfl ?_;refine S Mv (S Mv ?_);obtain⟨x27,gx27,hE⟩:=bO hE;refine S (ix Z9.c s12_9 gx27) (S Fv (S Ld ?_));obtain⟨x28,gx28,hE⟩:=bO hE;refine s0 (catM rfl rfl gx28) rfl ?_;refine S Mv ?_;obtain⟨x29,gx29,hE⟩:=bO hE;refine s0 (catM rfl rfl gx29) rfl ?_;refine S BU (S BV ?_);obtain⟨x30,gx30,hE⟩:=bO hE
       refine SH (am Z6.c (TK rfl) rfl (TK rfl) (TK rfl) gx30) ?_;refine hq (H.set tk1 (some (.tok 2 x30.l.length))) ?_;refine S As (nil ?_);exact hK14 _ x30 Weak.toA hE
      refine AWp.skip ?_;exact hK14 _ s11_8 Weak.toA hE
     rintro s11_15 hE;try dsimp only at hE
     unfold Z105_j14 at hE;refine region ?_;refine S Mv ?_;refine SI ?_;refine S As (nil ?_);exact hK7 _ (n7,s11_15,(s12_9+1)) Weak.toA hE (Nat.lt_succ_self _)
    refine AWp.exit ?_;exact hK3 _ s11_8 Weak.toA hE
 rintro s11_4 hE;try dsimp only at hE
 unfold Z105_j3 at hE;refine seqR (S Mv (S As (nil ?_)));refine AWp.dropTok 10 rfl ?_;refine AWp.ret ?_;repeat (first|refine xBlock_ret ?_|refine xThen_ret ?_)
 obtain rfl:=Option.some.inj hE;refine retQ.retF H rfl ⟨rfl,rfl⟩ ?_
 first|exact Heap.sub_set htk1|(simp only [Heap.set_set]; exact Heap.sub_set htk1)
def Z103_j3  (s3_4:(Sl Z6)):Option (Sl Z6):=some s3_4
def Z103_j14 (s4_9:Nat) (k_next_7:(Sl Z6)->Nat->Option (Sl Z6)) (s3_15:(Sl Z6)):Option (Sl Z6):=k_next_7 s3_15 (s4_9+1)
def Z103_j18 (a0:TDoc) (s4_9:Nat) (x17:TDef) (k_next_7:(Sl Z6)->Nat->Option (Sl Z6)) (s3_19:(Sl Z6)):Option (Sl Z6):=(Z105 a0 x17.FInputs x17.FName ([46]:Bs) ([]:Bs)).bind fun x20=>(appC 24 s3_19 x20).bind fun x21=>Z103_j14 s4_9 k_next_7 x21
def Z103_l23 (a0:TDoc) (s4_9:Nat) (x17:TDef) (k_next_7:(Sl Z6)->Nat->Option (Sl Z6)):Nat->(Sl Z6)->Nat->Option (Sl Z6)
 | 0,_,_=>none
 | n23+1,s3_24,s6_25=>bif (decide (((s6_25:Nat):Int)<((x17.FFields.l.length:Nat):Int))) then((x17.FFields.l[s6_25]?).bind fun x31=>(catC x17.FName ([46]:Bs)).bind fun x32=>(x17.FFields.l[s6_25]?).bind fun x33=>(catC x32 x33.FName).bind fun x34=>(Z105 a0 x31.FArgs x34 ([40]:Bs) ([41]:Bs)).bind fun x35=>(appC 24 s3_24 x35).bind fun x36=>(Z103_l23 a0 s4_9 x17 k_next_7 n23) x36 (s6_25+1)) else(Z103_j18 a0 s4_9 x17 k_next_7 s3_24)
def Z103_l7 (a0:TDoc) :Nat->(Sl Z6)->Nat->Option (Sl Z6)
 | 0,_,_=>none
 | n7+1,s3_8,s4_9=>bif (decide (((s4_9:Nat):Int)<((a0.FDefs.l.length:Nat):Int))) then((a0.FDefs.l[s4_9]?).bind fun x17=>Z103_l23 a0 s4_9 x17 ((Z103_l7 a0 n7)) (x17.FFields.l.length+1) s3_8 0) else(Z103_j3   s3_8)
def Z103 (a0:TDoc):Option (Sl Z6):=Z103_l7 a0 (a0.FDefs.l.length+1) (Sl.nil:Sl Z6) 0
theorem Z103_walk {a0:TDoc}{r:Sl Z6}(hE:Z103 a0=some r) (H:Heap) :ACalls Tryz.prog 37 [.agg (TDoc.c a0)] H fun v h'=>v=.a (.d (Sl.d 2 Z6.c none r))/\h'=H:=by
 unfold Z103 at hE;refine ACalls.oW 55 [.tmp 2] Tryz.call37 Tryz.func37 ?_;refine AWp.tok 2 fun tk1 htk1=>?_;refine seqR (S BX ?_);refine s0 (assignNil (k':=2) rfl) rfl ?_;refine nil ?_;refine seqR (S As (nil ?_));refine AWp.nilTok 3 2 tk1 rfl hpG ?_;refine seqJH KeepsT.nil (fun(z:(Sl Z6))=>[(3,.a (.d (Sl.d 2 Z6.c (some tk1) z)))]) (fun z=>(H.set tk1 (some (.tok 2 z.l.length)))) (fun z=>Z103_j3 z=some r) ?_ ?_
 ·intro K3 hK3;refine seqR (S As (nil ?_));refine block ?_;refine loopH (TA 1 KeepsT.nil) (fun(z:Nat×(Sl Z6)×Nat)=>[(3,.a (.d (Sl.d 2 Z6.c (some tk1) z.2.1))),(4,.a (.d (.int .i64 ((z.2.2:Nat):Int))))]) (fun z=>(H.set tk1 (some (.tok 2 z.2.1.l.length)))) (fun z=>z.1) (fun z=>Z103_l7 a0 z.1 z.2.1 z.2.2=some r) ((a0.FDefs.l.length+1),(Sl.nil:Sl Z6),0) hE Weak.toA ?_;rintro ⟨n7,s3_8,s4_9⟩ hE K7 hK7;try dsimp only at hE
  cases n7 with
  | zero=>cases hE
  | succ n7 =>
    rw [Z103_l7] at hE;refine seqK fun K10 hK10=>?_;refine seqR (S Mv (S Fv (S Ld ?_)));refine sLen (f:=TDef.c) (s:=a0.FDefs) (TK rfl) rfl rfl rfl rfl fun hL12=>?_;refine S BI (nil ?_);refine cE hE (fun hc13 hE=>?_) (fun hc13 hE=>?_)
    ·try dsimp only at hc13
     have hf13:=of_decide_eq_true hc13;refine sk hK10 ?_;clear hK10 K10;refine seqJH (TA 1 (TA 4 KeepsT.nil)) (fun(z:(Sl Z6))=>[(3,.a (.d (Sl.d 2 Z6.c (some tk1) z)))]) (fun z=>(H.set tk1 (some (.tok 2 z.l.length)))) (fun z=>Z103_j14 s4_9 ((Z103_l7 a0 n7)) z=some r) ?_ ?_
     ·intro K14 hK14;refine block ?_;refine seqR (S Fv (S Ld (S Mv ?_)));obtain⟨x17,gx17,hE⟩:=bO hE;refine S (ix TDef.c s4_9 gx17) (S Ld ?_);refine Sl ?_;refine Sf ?_;refine nil ?_;refine freezeA 5 _ rfl (KA 1 (KA 3 (KA 4 Keeps.nil))) ?_;refine seqJH (TA 1 (TA 4 (TA 5 KeepsT.nil))) (fun(z:(Sl Z6))=>[(3,.a (.d (Sl.d 2 Z6.c (some tk1) z)))]) (fun z=>(H.set tk1 (some (.tok 2 z.l.length)))) (fun z=>Z103_j18 a0 s4_9 x17 ((Z103_l7 a0 n7)) z=some r) ?_ ?_
      ·intro K18 hK18;refine seqR (S As (nil ?_));refine block ?_;refine loopH (TA 1 (TA 4 (TA 5 KeepsT.nil))) (fun(z:Nat×(Sl Z6)×Nat)=>[(3,.a (.d (Sl.d 2 Z6.c (some tk1) z.2.1))),(6,.a (.d (.int .i64 ((z.2.2:Nat):Int))))]) (fun z=>(H.set tk1 (some (.tok 2 z.2.1.l.length)))) (fun z=>z.1) (fun z=>Z103_l23 a0 s4_9 x17 ((Z103_l7 a0 n7)) z.1 z.2.1 z.2.2=some r) ((x17.FFields.l.length+1),s3_8,0) hE Weak.toA ?_
       rintro ⟨n23,s3_24,s6_25⟩ hE K23 hK23;try dsimp only at hE
       cases n23 with
       | zero=>cases hE
       | succ n23 =>
         rw [Z103_l23] at hE;refine seqK fun K26 hK26=>?_;refine seqR (S Mv (S Fv (S Ld ?_)));refine sLen (f:=Z7.c) (s:=x17.FFields) (TK rfl) rfl rfl rfl rfl fun hL28=>?_;refine S BI (nil ?_);refine cE hE (fun hc29 hE=>?_) (fun hc29 hE=>?_)
         ·try dsimp only at hc29
          have hf29:=of_decide_eq_true hc29;refine sk hK26 ?_;clear hK26 K26;refine seqK fun K30 hK30=>?_;refine block ?_;refine AWp.draw rfl ?_;refine Sd Mv (Sd Ld (Sd Fv (Sd Ld (Sd Mv ?_))));obtain⟨x31,gx31,hE⟩:=bO hE;refine Sd (ix Z7.c s6_25 gx31) (Sd Fv (Sd Ld (Sd Fv (Sd Ld ?_))));obtain⟨x32,gx32,hE⟩:=bO hE;refine DOps.s0 (catM rfl rfl gx32) rfl ?_;refine Sd Fv (Sd Ld (Sd Mv ?_));obtain⟨x33,gx33,hE⟩:=bO hE
          refine Sd (ix Z7.c s6_25 gx33) (Sd Fv (Sd Ld ?_));obtain⟨x34,gx34,hE⟩:=bO hE;refine DOps.s0 (catM rfl rfl gx34) rfl ?_;obtain⟨x35,gx35,hE⟩:=bO hE;refine Scd rfl rfl (Z105_walk gx35) ?_;obtain⟨x36,gx36,hE⟩:=bO hE;refine DOps.sH (appM (f:=Z6.c) (TK rfl) rfl (TK rfl) (TK rfl) ⟨_,rfl⟩ rfl rfl (by decide) rfl rfl rfl rfl hpG rfl gx36) rfl ?_;refine DOps.Dh (H.set tk1 (some (.tok 2 x36.l.length))) ?_
          refine Sd As ?_;refine DOps.nil (by decide +kernel) ?_;refine hK30 _ ?_;clear hK30 K30;refine region ?_;refine S Mv ?_;refine SI ?_;refine S As (nil ?_);exact hK23 _ (n23,x36,(s6_25+1)) Weak.toA hE (Nat.lt_succ_self _)
         refine AWp.exit ?_;exact hK18 _ s3_24 Weak.toA hE
      rintro s3_19 hE;try dsimp only at hE
      unfold Z103_j18 at hE;refine region ?_;refine S Mv (S Ld (S Fv (S Ld (S Fv (S Ld ?_)))));obtain⟨x20,gx20,hE⟩:=bO hE;refine Sc rfl rfl (Z105_walk gx20) ?_;obtain⟨x21,gx21,hE⟩:=bO hE;refine SH (am Z6.c (TK rfl) rfl (TK rfl) (TK rfl) gx21) ?_;refine hq (H.set tk1 (some (.tok 2 x21.l.length))) ?_;refine S As (nil ?_);exact hK14 _ x21 Weak.toA hE
     rintro s3_15 hE;try dsimp only at hE
     unfold Z103_j14 at hE;refine region ?_;refine S Mv ?_;refine SI ?_;refine S As (nil ?_);exact hK7 _ (n7,s3_15,(s4_9+1)) Weak.toA hE (Nat.lt_succ_self _)
    refine AWp.exit ?_;exact hK3 _ s3_8 Weak.toA hE
 rintro s3_4 hE;try dsimp only at hE
 unfold Z103_j3 at hE;refine seqR (S Mv (S As (nil ?_)));refine AWp.dropTok 2 rfl ?_;refine AWp.ret ?_;repeat (first|refine xBlock_ret ?_|refine xThen_ret ?_)
 obtain rfl:=Option.some.inj hE;refine retQ.retF H rfl ⟨rfl,rfl⟩ ?_
 first|exact Heap.sub_set htk1|(simp only [Heap.set_set]; exact Heap.sub_set htk1)
def Z116 (a0:TDoc):Option (Sl Z6):=(Z73 a0 true).bind fun x3=>bif (decide ((0:Int)<((x3.l.length:Nat):Int))) then(some x3) else((Z92 a0).bind fun x10=>(appC 24 x3 x10).bind fun x11=>(Z103 a0).bind fun x13=>(appC 24 x11 x13).bind fun x14=>some x14)
theorem Z116_walk {a0:TDoc}{r:Sl Z6}(hE:Z116 a0=some r) (H:Heap) :ACalls Tryz.prog 17 [.agg (TDoc.c a0)] H fun v h'=>v=.a (.d (Sl.d 2 Z6.c none r))/\h'=H:=by
 unfold Z116 at hE;refine ACalls.oW 18 [.tmp 2] Tryz.call17 Tryz.func17 ?_;refine seqR (S BX ?_);refine s0 (assignNil (k':=2) rfl) rfl ?_;refine nil ?_;refine AWp.tok 2 fun tk1 htk1=>?_;refine seqR (S Ld ?_);obtain⟨x3,gx3,hE⟩:=bO hE;refine sH (callH rfl rfl (Z73_tok gx3 _ hpG)) rfl ?_;refine hq (H.set tk1 (some (.tok 2 x3.l.length))) ?_;refine S As (nil ?_);refine seqK fun K4 hK4=>?_;refine seqR (S Mv ?_)
 refine sLen (f:=Z6.c) (s:=x3) (TK rfl) rfl rfl rfl rfl fun hL6=>?_;refine S BI (nil ?_);refine cE hE (fun hc7 hE=>?_) (fun hc7 hE=>?_)
 ·refine seqR (S Mv (S As (nil ?_)));refine AWp.dropTok 2 rfl ?_;refine AWp.ret ?_;repeat (first|refine xBlock_ret ?_|refine xThen_ret ?_)
  obtain rfl:=Option.some.inj hE;refine retQ.retF H rfl ⟨rfl,rfl⟩ ?_
  first|exact Heap.sub_set htk1|(simp only [Heap.set_set]; exact Heap.sub_set htk1)
 refine sk hK4 ?_;clear hK4 K4;refine seqR (S Mv (S Ld ?_));obtain⟨x10,gx10,hE⟩:=bO hE;refine Sc rfl rfl (Z92_walk gx10) ?_;obtain⟨x11,gx11,hE⟩:=bO hE;refine SH (am Z6.c (TK rfl) rfl (TK rfl) (TK rfl) gx11) ?_;refine hq (H.set tk1 (some (.tok 2 x11.l.length))) ?_;refine S As (nil ?_);refine seqR (S Mv (S Ld ?_));obtain⟨x13,gx13,hE⟩:=bO hE;refine Sc rfl rfl (Z103_walk gx13) ?_;obtain⟨x14,gx14,hE⟩:=bO hE
 refine SH (am Z6.c (TK rfl) rfl (TK rfl) (TK rfl) gx14) ?_;refine hq (H.set tk1 (some (.tok 2 x14.l.length))) ?_;refine S As (nil ?_);refine AWp.dropTok 2 rfl ?_;refine AWp.ret ?_;repeat (first|refine xBlock_ret ?_|refine xThen_ret ?_)
 obtain rfl:=Option.some.inj hE;refine retQ.retF H rfl ⟨rfl,rfl⟩ ?_
 first|exact Heap.sub_set htk1|(simp only [Heap.set_set]; exact Heap.sub_set htk1)
def Z68_j2 (a0:Z12)  :Option Bool:=some (!decide (a0.FKind=(7:Int)))
def Z68_l5 (a0:Z12) (k_rec_91:Z12->Option Bool):Nat->Nat->Option Bool
 | 0,_=>none
 | n5+1,s3_6=>bif (decide (((s3_6:Nat):Int)<((a0.FItems.l.length:Nat):Int))) then((a0.FItems.l[s3_6]?).bind fun x13=>(k_rec_91 x13).bind fun x14=>bif (!x14) then(some false) else((Z68_l5 a0 k_rec_91 n5) (s3_6+1))) else(Z68_j2 a0  )
def Z68_n:Nat->Z12->Option Bool
 | 0,_=>none
 | n+1,a0=>Z68_l5 a0 (Z68_n n) (a0.FItems.l.length+1) 0
theorem Z68_step (n:Nat) (ih_91:∀{a0:Z12}{r:Bool},Z68_n n a0=some r->∀(H:Heap),ACalls Tryz.prog 91 [.agg (Z12.c a0)] H fun v h'=>v=.a (.d (.bool r))/\h'=H):∀{a0:Z12}{r:Bool},Z68_n (n+1) a0=some r->∀(H:Heap),ACalls Tryz.prog 91 [.agg (Z12.c a0)] H fun v h'=>v=.a (.d (.bool r))/\h'=H:=by
 intro a0   r hE H ;rw [Z68_n] at hE;refine ACalls.oW 21 [.tmp 2] Tryz.call91 Tryz.func91 ?_;refine seqR (S BX (S As (nil ?_)));refine seqJH (TA 1 KeepsT.nil) (fun(z:Unit)=>[]) (fun z=>H) (fun z=>Z68_j2 a0 =some r) ?_ ?_
 ·intro K2 hK2;refine seqR (S As (nil ?_));refine block ?_;refine loopH (TA 1 KeepsT.nil) (fun(z:Nat×Nat)=>[(3,.a (.d (.int .i64 ((z.2:Nat):Int))))]) (fun z=>H) (fun z=>z.1) (fun z=>Z68_l5 a0 (Z68_n n) z.1 z.2=some r) ((a0.FItems.l.length+1),0) hE Weak.toA ?_;rintro ⟨n5,s3_6⟩ hE K5 hK5;try dsimp only at hE
  cases n5 with
  | zero=>cases hE
  | succ n5 =>
    rw [Z68_l5] at hE;refine seqK fun K7 hK7=>?_;refine seqR (S Mv (S Fv ?_));refine s0 (loadV (TK rfl) rfl rfl (congrArg (fun x=>some (A.d x)) (Z12.FItemsD_eq _))) rfl ?_;refine sLen (f:=Z12.c) (s:=a0.FItems) (TK rfl) rfl rfl rfl rfl fun hL9=>?_;refine S BI (nil ?_);refine cE hE (fun hc10 hE=>?_) (fun hc10 hE=>?_)
    ·try dsimp only at hc10
     have hf10:=of_decide_eq_true hc10;refine sk hK7 ?_;clear hK7 K7;refine seqK fun K11 hK11=>?_;refine block ?_;refine seqR (S Fv ?_);refine s0 (loadV (TK rfl) rfl rfl (congrArg (fun x=>some (A.d x)) (Z12.FItemsD_eq _))) rfl ?_;refine S Mv ?_;obtain⟨x13,gx13,hE⟩:=bO hE;refine S (ix Z12.c s3_6 gx13) (S Ld ?_);obtain⟨x14,gx14,hE⟩:=bO hE;refine Sc rfl rfl (ih_91 gx14) ?_;refine S NB (nil ?_);refine cE hE (fun hc15 hE=>?_) (fun hc15 hE=>?_)
     ·refine seqR (S As (nil ?_));exact rt hE
     refine sk hK11 ?_;clear hK11 K11;refine region ?_;refine S Mv ?_;refine SI ?_;refine S As (nil ?_);exact hK5 _ (n5,(s3_6+1)) Weak.toA hE (Nat.lt_succ_self _)
    refine AWp.exit ?_;exact hK2 _ () Weak.toA hE
 rintro _ hE;try dsimp only at hE
 unfold Z68_j2 at hE;refine seqR (S Fv (S Ld (S BI (S As (nil ?_)))));exact rt hE
theorem Z68_all:∀(n:Nat),(∀{a0:Z12}{r:Bool},Z68_n n a0=some r->∀(H:Heap),ACalls Tryz.prog 91 [.agg (Z12.c a0)] H fun v h'=>v=.a (.d (.bool r))/\h'=H)
 | 0=>fun hE=>by first|cases hE|(rw [Z68_n] at hE; cases hE)
 | n+1=>Z68_step n (Z68_all n)
def Z68 (a0:Z12):Option Bool:=Z68_n F0 a0
theorem Z68_walk {a0:Z12}{r:Bool}(hE:Z68 a0=some r) (H:Heap) :ACalls Tryz.prog 91 [.agg (Z12.c a0)] H fun v h'=>v=.a (.d (.bool r))/\h'=H:=(Z68_all F0) hE H 
def Z72_j2 (a0:(Sl TVar))  :Option Bool:=some (decide (((a0.l.length:Nat):Int)<=(16:Int)))
def Z72_l6 (a0:(Sl TVar)) :Nat->Nat->Option Bool
 | 0,_=>none
 | n6+1,s3_7=>bif (decide (((s3_7:Nat):Int)<((a0.l.length:Nat):Int))) then((a0.l[s3_7]?).bind fun x14=>(Z37 x14.FName).bind fun x17=>guardO (!(!x17)) (Z54 x14.FType) false fun x18=>guardO (!((!x17)||(!x18))) (Z44 x14.FDefault) false fun x19=>guardO (!(((!x17)||(!x18))||(!x19))) (Z68 x14.FDefault) false fun x20=>bif ((((!x17)||(!x18))||(!x19))||(!x20)) then(some false) else(bif ((!x14.FHas)&&(!decide (x14.FDefault.FKind=(0:Int)))) then(some false) else((Z72_l6 a0 n6) (s3_7+1)))) else(Z72_j2 a0  )
def Z72 (a0:(Sl TVar)):Option Bool:=Z72_l6 a0 (a0.l.length+1) 0
theorem Z72_walk {a0:Sl TVar}{w0:Option Nat}{r:Bool}(hE:Z72 a0=some r) (H:Heap) :ACalls Tryz.prog 39 [.d (Sl.d 9 TVar.c w0 a0)] H fun v h'=>v=.a (.d (.bool r))/\h'=H:=by
 unfold Z72 at hE;refine ACalls.oW 49 [.tmp 2] Tryz.call39 Tryz.func39 ?_;refine seqR (S As (nil ?_));refine seqJH (TA 0 KeepsT.nil) (fun(z:Unit)=>[]) (fun z=>H) (fun z=>Z72_j2 a0 =some r) ?_ ?_
 ·intro K2 hK2;refine seqR (S As (nil ?_));refine block ?_;refine loopH (TA 0 KeepsT.nil) (fun(z:Nat×Nat)=>[(3,.a (.d (.int .i64 ((z.2:Nat):Int))))]) (fun z=>H) (fun z=>z.1) (fun z=>Z72_l6 a0 z.1 z.2=some r) ((a0.l.length+1),0) hE Weak.toA ?_;rintro ⟨n6,s3_7⟩ hE K6 hK6;try dsimp only at hE
  cases n6 with
  | zero=>cases hE
  | succ n6 =>
    rw [Z72_l6] at hE;refine seqK fun K8 hK8=>?_;refine seqR (S Mv (S Mv ?_));refine sLen (f:=TVar.c) (s:=a0) (TK rfl) rfl rfl rfl rfl fun hL10=>?_;refine S BI (nil ?_);refine cE hE (fun hc11 hE=>?_) (fun hc11 hE=>?_)
    ·try dsimp only at hc11
     have hf11:=of_decide_eq_true hc11;refine sk hK8 ?_;clear hK8 K8;refine seqK fun K12 hK12=>?_;refine block ?_;refine seqR (S Mv (S Mv ?_));obtain⟨x14,gx14,hE⟩:=bO hE;refine S (ix TVar.c s3_7 gx14) (S Ld ?_);refine Sl ?_;refine Sf ?_;refine nil ?_;refine freezeA 4 _ rfl (KA 0 (KA 3 Keeps.nil)) ?_;refine seqK fun K15 hK15=>?_;refine seqR (S Fv (S Ld ?_));obtain⟨x17,gx17,hE⟩:=bO hE;refine Sc rfl rfl (Z37_walk gx17) ?_
     refine S NB (S Mv (G0 Fv ?_));refine G1 20 rfl Ld ?_;obtain⟨x18,gx18,hE⟩:=gO hE;refine Gc1 21 rfl rfl rfl rfl rfl (fun hC=>Z54_walk (gx18 hC)) ?_;refine G1 22 rfl NB ?_;refine S PO (S Mv (G0 Fv ?_));refine G1 26 rfl Ld ?_;obtain⟨x19,gx19,hE⟩:=gO hE;refine Gc1 27 rfl rfl rfl rfl rfl (fun hC=>Z44_walk (gx19 hC)) ?_;refine G1 28 rfl NB ?_;refine S PO (S Mv (G0 Fv ?_));refine G1 32 rfl Ld ?_;obtain⟨x20,gx20,hE⟩:=gO hE
     refine Gc1 33 rfl rfl rfl rfl rfl (fun hC=>Z68_walk (gx20 hC)) ?_;refine G1 34 rfl NB ?_;refine S PO (nil ?_);refine cE hE (fun hc21 hE=>?_) (fun hc21 hE=>?_)
     ·refine seqR (S As (nil ?_));exact rt hE
     refine sk hK15 ?_;clear hK15 K15;refine seqR (S Fv (S Ld (S NB (S Mv (G0 Fv ?_)))));refine G1 41 rfl Fv ?_;refine G1 42 rfl Ld ?_;refine G1 43 rfl BI ?_;refine S PA (nil ?_);refine cE hE (fun hc24 hE=>?_) (fun hc24 hE=>?_)
     ·refine seqR (S As (nil ?_));exact rt hE
     refine sk hK12 ?_;clear hK12 K12;refine region ?_;refine S Mv ?_;refine SI ?_;refine S As (nil ?_);exact hK6 _ (n6,(s3_7+1)) Weak.toA hE (Nat.lt_succ_self _)
    refine AWp.exit ?_;exact hK2 _ () Weak.toA hE
 rintro _ hE;try dsimp only at hE
 unfold Z72_j2 at hE;refine seqR (S Mv ?_);refine sLen (f:=TVar.c) (s:=a0) (TK rfl) rfl rfl rfl rfl fun hL4=>?_;refine S BI (S As (nil ?_));exact rt hE
def Z71 (a0:Bs):Option Bool:=(Z37 a0).bind fun x3=>some (x3&&(!(a0==([111,110]:Bs))))
theorem Z71_walk {a0:Bs}{r:Bool}(hE:Z71 a0=some r) (H:Heap) :ACalls Tryz.prog 41 [.d (.str a0)] H fun v h'=>v=.a (.d (.bool r))/\h'=H:=by
 unfold Z71 at hE;refine ACalls.oW 9 [.tmp 2] Tryz.call41 Tryz.func41 ?_;refine seqR (S As (nil ?_));refine seqR (S Mv ?_);obtain⟨x3,gx3,hE⟩:=bO hE;refine Sc rfl rfl (Z37_walk gx3) ?_;refine S Mv (G0 Mv ?_);refine G1 6 rfl BS ?_;refine S PA (S As (nil ?_));exact rt hE
end Go.Proofs

namespace Go.Proofs
open Go Go.Ab
open AOps Cert AWp Keeps KeepsT
variable {lou:Lou}
def Z67_j2 (a0:(Sl TArg))  :Option Bool:=some (decide (((a0.l.length:Nat):Int)<=(16:Int)))
def Z67_l6 (a0:(Sl TArg)) :Nat->Nat->Option Bool
 | 0,_=>none
 | n6+1,s3_7=>bif (decide (((s3_7:Nat):Int)<((a0.l.length:Nat):Int))) then((a0.l[s3_7]?).bind fun x14=>(Z37 x14.FName).bind fun x15=>guardO (!(!x15)) (a0.l[s3_7]?) TArg.zero fun x16=>guardO (!(!x15)) (Z44 x16.FValue) false fun x17=>bif ((!x15)||(!x17)) then(some false) else((Z67_l6 a0 n6) (s3_7+1))) else(Z67_j2 a0  )
def Z67 (a0:(Sl TArg)):Option Bool:=Z67_l6 a0 (a0.l.length+1) 0
theorem Z67_walk {a0:Sl TArg}{w0:Option Nat}{r:Bool}(hE:Z67 a0=some r) (H:Heap) :ACalls Tryz.prog 164 [.d (Sl.d 6 TArg.c w0 a0)] H fun v h'=>v=.a (.d (.bool r))/\h'=H:=by
 unfold Z67 at hE;refine ACalls.oW 29 [.tmp 2] Tryz.call164 Tryz.func164 ?_;refine seqR (S As (nil ?_));refine seqJH (TA 0 KeepsT.nil) (fun(z:Unit)=>[]) (fun z=>H) (fun z=>Z67_j2 a0 =some r) ?_ ?_
 ·intro K2 hK2;refine seqR (S As (nil ?_));refine block ?_;refine loopH (TA 0 KeepsT.nil) (fun(z:Nat×Nat)=>[(3,.a (.d (.int .i64 ((z.2:Nat):Int))))]) (fun z=>H) (fun z=>z.1) (fun z=>Z67_l6 a0 z.1 z.2=some r) ((a0.l.length+1),0) hE Weak.toA ?_;rintro ⟨n6,s3_7⟩ hE K6 hK6;try dsimp only at hE
  cases n6 with
  | zero=>cases hE
  | succ n6 =>
    rw [Z67_l6] at hE;refine seqK fun K8 hK8=>?_;refine seqR (S Mv (S Mv ?_));refine sLen (f:=TArg.c) (s:=a0) (TK rfl) rfl rfl rfl rfl fun hL10=>?_;refine S BI (nil ?_);refine cE hE (fun hc11 hE=>?_) (fun hc11 hE=>?_)
    ·try dsimp only at hc11
     have hf11:=of_decide_eq_true hc11;refine sk hK8 ?_;clear hK8 K8;refine seqK fun K12 hK12=>?_;refine block ?_;refine seqR (S Mv (S Mv ?_));obtain⟨x14,gx14,hE⟩:=bO hE;refine S (ix TArg.c s3_7 gx14) (S Fv (S Ld ?_));obtain⟨x15,gx15,hE⟩:=bO hE;refine Sc rfl rfl (Z37_walk gx15) ?_;refine S NB (S Mv (G0 Mv (G0 Mv ?_)));obtain⟨x16,gx16,hE⟩:=gO hE;refine gC rfl rfl (fun hC=>ungdA (k:=18) rfl (ungdA (k:=19) rfl (idxMn (f:=TArg.c) (n:=s3_7) (TK rfl) rfl (TK rfl) rfl rfl rfl (gx16 hC)))) rfl ?_
     refine G1 20 rfl Fv ?_;refine G1 21 rfl Ld ?_;obtain⟨x17,gx17,hE⟩:=gO hE;refine Gc1 22 rfl rfl rfl rfl rfl (fun hC=>Z44_walk (gx17 hC)) ?_;refine G1 23 rfl NB ?_;refine S PO (nil ?_);refine cE hE (fun hc18 hE=>?_) (fun hc18 hE=>?_)
     ·refine seqR (S As (nil ?_));exact rt hE
     refine sk hK12 ?_;clear hK12 K12;refine region ?_;refine S Mv ?_;refine SI ?_;refine S As (nil ?_);exact hK6 _ (n6,(s3_7+1)) Weak.toA hE (Nat.lt_succ_self _)
    refine AWp.exit ?_;exact hK2 _ () Weak.toA hE
 rintro _ hE;try dsimp only at hE
 unfold Z67_j2 at hE;refine seqR (S Mv ?_);refine sLen (f:=TArg.c) (s:=a0) (TK rfl) rfl rfl rfl rfl fun hL4=>?_;refine S BI (S As (nil ?_));exact rt hE
def Z69_j2 (a0:(Sl TDir))  :Option Bool:=some (decide (((a0.l.length:Nat):Int)<=(16:Int)))
def Z69_l6 (a0:(Sl TDir)) :Nat->Nat->Option Bool
 | 0,_=>none
 | n6+1,s3_7=>bif (decide (((s3_7:Nat):Int)<((a0.l.length:Nat):Int))) then((a0.l[s3_7]?).bind fun x14=>(Z37 x14.FName).bind fun x15=>guardO (!(!x15)) (a0.l[s3_7]?) TDir.zero fun x16=>guardO (!(!x15)) (Z67 x16.FArgs) false fun x17=>bif ((!x15)||(!x17)) then(some false) else((Z69_l6 a0 n6) (s3_7+1))) else(Z69_j2 a0  )
def Z69 (a0:(Sl TDir)):Option Bool:=Z69_l6 a0 (a0.l.length+1) 0
theorem Z69_walk {a0:Sl TDir}{w0:Option Nat}{r:Bool}(hE:Z69 a0=some r) (H:Heap) :ACalls Tryz.prog 163 [.d (Sl.d 2 TDir.c w0 a0)] H fun v h'=>v=.a (.d (.bool r))/\h'=H:=by
 unfold Z69 at hE;refine ACalls.oW 29 [.tmp 2] Tryz.call163 Tryz.func163 ?_;refine seqR (S As (nil ?_));refine seqJH (TA 0 KeepsT.nil) (fun(z:Unit)=>[]) (fun z=>H) (fun z=>Z69_j2 a0 =some r) ?_ ?_
 ·intro K2 hK2;refine seqR (S As (nil ?_));refine block ?_;refine loopH (TA 0 KeepsT.nil) (fun(z:Nat×Nat)=>[(3,.a (.d (.int .i64 ((z.2:Nat):Int))))]) (fun z=>H) (fun z=>z.1) (fun z=>Z69_l6 a0 z.1 z.2=some r) ((a0.l.length+1),0) hE Weak.toA ?_;rintro ⟨n6,s3_7⟩ hE K6 hK6;try dsimp only at hE
  cases n6 with
  | zero=>cases hE
  | succ n6 =>
    rw [Z69_l6] at hE;refine seqK fun K8 hK8=>?_;refine seqR (S Mv (S Mv ?_));refine sLen (f:=TDir.c) (s:=a0) (TK rfl) rfl rfl rfl rfl fun hL10=>?_;refine S BI (nil ?_);refine cE hE (fun hc11 hE=>?_) (fun hc11 hE=>?_)
    ·try dsimp only at hc11
     have hf11:=of_decide_eq_true hc11;refine sk hK8 ?_;clear hK8 K8;refine seqK fun K12 hK12=>?_;refine block ?_;refine seqR (S Mv (S Mv ?_));obtain⟨x14,gx14,hE⟩:=bO hE;refine S (ix TDir.c s3_7 gx14) (S Fv (S Ld ?_));obtain⟨x15,gx15,hE⟩:=bO hE;refine Sc rfl rfl (Z37_walk gx15) ?_;refine S NB (S Mv (G0 Mv (G0 Mv ?_)));obtain⟨x16,gx16,hE⟩:=gO hE;refine gC rfl rfl (fun hC=>ungdA (k:=18) rfl (ungdA (k:=19) rfl (idxMn (f:=TDir.c) (n:=s3_7) (TK rfl) rfl (TK rfl) rfl rfl rfl (gx16 hC)))) rfl ?_
     refine G1 20 rfl Fv ?_;refine G1 21 rfl Ld ?_;obtain⟨x17,gx17,hE⟩:=gO hE;refine Gc1 22 rfl rfl rfl rfl rfl (fun hC=>Z67_walk (gx17 hC)) ?_;refine G1 23 rfl NB ?_;refine S PO (nil ?_);refine cE hE (fun hc18 hE=>?_) (fun hc18 hE=>?_)
     ·refine seqR (S As (nil ?_));exact rt hE
     refine sk hK12 ?_;clear hK12 K12;refine region ?_;refine S Mv ?_;refine SI ?_;refine S As (nil ?_);exact hK6 _ (n6,(s3_7+1)) Weak.toA hE (Nat.lt_succ_self _)
    refine AWp.exit ?_;exact hK2 _ () Weak.toA hE
 rintro _ hE;try dsimp only at hE
 unfold Z69_j2 at hE;refine seqR (S Mv ?_);refine sLen (f:=TDir.c) (s:=a0) (TK rfl) rfl rfl rfl rfl fun hL4=>?_;refine S BI (S As (nil ?_));exact rt hE
def r08_selsRight_j7  :Option Bool:=some true
def r08_selsRight_l10 (a0:(Sl TSel)) (a1:Int) (k_rec_92:TSel->Int->Option Bool):Nat->Nat->Option Bool
 | 0,_=>none
 | n10+1,s5_11=>bif (decide (((s5_11:Nat):Int)<((a0.l.length:Nat):Int))) then((a0.l[s5_11]?).bind fun x18=>(k_rec_92 x18 a1).bind fun x19=>bif (!x19) then(some false) else((r08_selsRight_l10 a0 a1 k_rec_92 n10) (s5_11+1))) else(r08_selsRight_j7   )
mutual
def r08_selsRight_n:Nat->(Sl TSel)->Int->Option Bool
 | 0,_,_=>none
 | n+1,a0,a1=>bif (((decide (((a0.l.length:Nat):Int)=(0:Int)))||(decide ((64:Int)<((a0.l.length:Nat):Int))))||(decide ((24:Int)<a1))) then(some false) else(r08_selsRight_l10 a0 a1 (Z70_n n) (a0.l.length+1) 0)
def Z70_n:Nat->TSel->Int->Option Bool
 | 0,_,_=>none
 | n+1,a0,a1=>(Z69 a0.FDirs).bind fun x4=>guardO (!(!x4)) (Z67 a0.FArgs) false fun x5=>bif ((!x4)||(!x5)) then(some false) else(bif (decide (a0.FKind=(1:Int))) then((Z37 a0.FName).bind fun x13=>guardO ((x13&&!((a0.FAlias==([]:Bs))))) (Z37 a0.FAlias) false fun x14=>guardO ((((x13&&(((a0.FAlias==([]:Bs)))||x14))&&((a0.FOn==([]:Bs))))&&!(decide (((a0.FSels.l.length:Nat):Int)=(0:Int))))) (addC a1 (1:Int)) (0:Int) fun x15=>guardO ((((x13&&(((a0.FAlias==([]:Bs)))||x14))&&((a0.FOn==([]:Bs))))&&!(decide (((a0.FSels.l.length:Nat):Int)=(0:Int))))) ((r08_selsRight_n n) a0.FSels x15) false fun x16=>some (((x13&&(((a0.FAlias==([]:Bs)))||x14))&&((a0.FOn==([]:Bs))))&&((decide (((a0.FSels.l.length:Nat):Int)=(0:Int)))||x16))) else(bif (decide (a0.FKind=(2:Int))) then((Z71 a0.FName).bind fun x20=>some ((((x20&&((a0.FAlias==([]:Bs))))&&((a0.FOn==([]:Bs))))&&(decide (((a0.FArgs.l.length:Nat):Int)=(0:Int))))&&(decide (((a0.FSels.l.length:Nat):Int)=(0:Int))))) else(bif (decide (a0.FKind=(3:Int))) then(guardO (((((a0.FName==([]:Bs)))&&((a0.FAlias==([]:Bs))))&&!((a0.FOn==([]:Bs))))) (Z37 a0.FOn) false fun x24=>guardO ((((((a0.FName==([]:Bs)))&&((a0.FAlias==([]:Bs))))&&(((a0.FOn==([]:Bs)))||x24))&&(decide (((a0.FArgs.l.length:Nat):Int)=(0:Int))))) (addC a1 (1:Int)) (0:Int) fun x25=>guardO ((((((a0.FName==([]:Bs)))&&((a0.FAlias==([]:Bs))))&&(((a0.FOn==([]:Bs)))||x24))&&(decide (((a0.FArgs.l.length:Nat):Int)=(0:Int))))) ((r08_selsRight_n n) a0.FSels x25) false fun x26=>some ((((((a0.FName==([]:Bs)))&&((a0.FAlias==([]:Bs))))&&(((a0.FOn==([]:Bs)))||x24))&&(decide (((a0.FArgs.l.length:Nat):Int)=(0:Int))))&&x26)) else(some false))))
end
theorem r08_selsRight_step (n:Nat) (ih_40:∀{a0:Sl TSel}{a1:Int}{w0:Option Nat}{r:Bool},r08_selsRight_n n a0 a1=some r->∀(H:Heap),ACalls Tryz.prog 40 [.d (Sl.d 7 TSel.c w0 a0),.d (.int .i64 a1)] H fun v h'=>v=.a (.d (.bool r))/\h'=H) (ih_92:∀{a0:TSel}{a1:Int}{r:Bool},Z70_n n a0 a1=some r->∀(H:Heap),ACalls Tryz.prog 92 [.agg (TSel.c a0),.d (.int .i64 a1)] H fun v h'=>v=.a (.d (.bool r))/\h'=H):∀{a0:Sl TSel}{a1:Int}{w0:Option Nat}{r:Bool},r08_selsRight_n (n+1) a0 a1=some r->∀(H:Heap),ACalls Tryz.prog 40 [.d (Sl.d 7 TSel.c w0 a0),.d (.int .i64 a1)] H fun v h'=>v=.a (.d (.bool r))/\h'=H:=by
 intro a0 a1 w0  r hE H ;rw [r08_selsRight_n] at hE;refine ACalls.oW 31 [.tmp 4] Tryz.call40 Tryz.func40 ?_;refine seqR (S As (nil ?_));refine seqK fun K2 hK2=>?_;refine seqR (S Mv ?_);refine sLen (f:=TSel.c) (s:=a0) (TK rfl) rfl rfl rfl rfl fun hL4=>?_;refine S BI (S Mv (G0 Mv ?_));refine gC rfl rfl (fun hC=>ungdA (k:=10) rfl (lenM' (f:=TSel.c) (s:=a0) (TK rfl) rfl rfl rfl)) rfl ?_;refine G1 11 rfl BI ?_
 refine S PO (S Mv (G0 Mv ?_));refine G1 15 rfl BI ?_;refine S PO (nil ?_);refine cE hE (fun hc5 hE=>?_) (fun hc5 hE=>?_)
 ·refine seqR (S As (nil ?_));exact rt hE
 refine sk hK2 ?_;clear hK2 K2;refine seqJH KeepsT.nil (fun(z:Unit)=>[]) (fun z=>H) (fun z=>r08_selsRight_j7 =some r) ?_ ?_
 ·intro K7 hK7;refine seqR (S As (nil ?_));refine block ?_;refine loopH (TA 0 (TA 1 KeepsT.nil)) (fun(z:Nat×Nat)=>[(5,.a (.d (.int .i64 ((z.2:Nat):Int))))]) (fun z=>H) (fun z=>z.1) (fun z=>r08_selsRight_l10 a0 a1 (Z70_n n) z.1 z.2=some r) ((a0.l.length+1),0) hE Weak.toA ?_;rintro ⟨n10,s5_11⟩ hE K10 hK10;try dsimp only at hE
  cases n10 with
  | zero=>cases hE
  | succ n10 =>
    rw [r08_selsRight_l10] at hE;refine seqK fun K12 hK12=>?_;refine seqR (S Mv (S Mv ?_));refine sLen (f:=TSel.c) (s:=a0) (TK rfl) rfl rfl rfl rfl fun hL14=>?_;refine S BI (nil ?_);refine cE hE (fun hc15 hE=>?_) (fun hc15 hE=>?_)
    ·try dsimp only at hc15
     have hf15:=of_decide_eq_true hc15;refine sk hK12 ?_;clear hK12 K12;refine seqK fun K16 hK16=>?_;refine block ?_;refine seqR (S Mv (S Mv ?_));obtain⟨x18,gx18,hE⟩:=bO hE;refine S (ix TSel.c s5_11 gx18) (S Ld (S Mv ?_));obtain⟨x19,gx19,hE⟩:=bO hE;refine Sc rfl rfl (ih_92 gx19) ?_;refine S NB (nil ?_);refine cE hE (fun hc20 hE=>?_) (fun hc20 hE=>?_)
     ·refine seqR (S As (nil ?_));exact rt hE
     refine sk hK16 ?_;clear hK16 K16;refine region ?_;refine S Mv ?_;refine SI ?_;refine S As (nil ?_);exact hK10 _ (n10,(s5_11+1)) Weak.toA hE (Nat.lt_succ_self _)
    refine AWp.exit ?_;exact hK7 _ () Weak.toA hE
 rintro _ hE;try dsimp only at hE
 unfold r08_selsRight_j7 at hE;refine seqR (S As (nil ?_));exact rt hE
theorem Z70_step (n:Nat) (ih_40:∀{a0:Sl TSel}{a1:Int}{w0:Option Nat}{r:Bool},r08_selsRight_n n a0 a1=some r->∀(H:Heap),ACalls Tryz.prog 40 [.d (Sl.d 7 TSel.c w0 a0),.d (.int .i64 a1)] H fun v h'=>v=.a (.d (.bool r))/\h'=H) (ih_92:∀{a0:TSel}{a1:Int}{r:Bool},Z70_n n a0 a1=some r->∀(H:Heap),ACalls Tryz.prog 92 [.agg (TSel.c a0),.d (.int .i64 a1)] H fun v h'=>v=.a (.d (.bool r))/\h'=H):∀{a0:TSel}{a1:Int}{r:Bool},Z70_n (n+1) a0 a1=some r->∀(H:Heap),ACalls Tryz.prog 92 [.agg (TSel.c a0),.d (.int .i64 a1)] H fun v h'=>v=.a (.d (.bool r))/\h'=H:=by
 intro a0 a1   r hE H ;rw [Z70_n] at hE;refine ACalls.oW 110 [.tmp 4] Tryz.call92 Tryz.func92 ?_;refine seqR (S BX (S As (nil ?_)));refine seqK fun K2 hK2=>?_;refine seqR (S Fv (S Ld ?_));obtain⟨x4,gx4,hE⟩:=bO hE;refine Sc rfl rfl (Z69_walk gx4) ?_;refine S NB (S Mv (G0 Fv ?_));refine G1 10 rfl Ld ?_;obtain⟨x5,gx5,hE⟩:=gO hE;refine Gc1 11 rfl rfl rfl rfl rfl (fun hC=>Z67_walk (gx5 hC)) ?_;refine G1 12 rfl NB ?_
 refine S PO (nil ?_);refine cE hE (fun hc6 hE=>?_) (fun hc6 hE=>?_)
 ·refine seqR (S As (nil ?_));exact rt hE
 refine sk hK2 ?_;clear hK2 K2;refine seqK fun K8 hK8=>?_;refine seqR (S Fv (S Ld (nil ?_)));refine block ?_;refine seqR (S BI (S As (nil ?_)));refine cE hE (fun hc11 hE=>?_) (fun hc11 hE=>?_)
 ·refine seqR (S Fv (S Ld ?_));obtain⟨x13,gx13,hE⟩:=bO hE;refine Sc rfl rfl (Z37_walk gx13) ?_;refine S Mv (G0 Fv ?_);refine G1 23 rfl Ld ?_;refine G1 24 rfl BS ?_;refine G1 25 rfl Mv ?_;refine G0 Fv ?_;refine G1 27 rfl Ld ?_;obtain⟨x14,gx14,hE⟩:=gO hE;refine Gc1 28 rfl rfl rfl rfl rfl (fun hC=>Z37_walk (gx14 hC)) ?_;refine gC rfl rfl (fun hC=>ungdA (k:=26) rfl (pickOrA rfl rfl rfl)) rfl ?_;refine S PA (S Mv (G0 Fv ?_))
  refine G1 33 rfl Ld ?_;refine G1 34 rfl BS ?_;refine S PA (S Mv (G0 Fv ?_));refine gC rfl rfl (fun hC=>ungdA (k:=38) rfl (loadV (TK rfl) rfl rfl (congrArg (fun x=>some (A.d x)) (TSel.FSelsD_eq _)))) rfl ?_;refine gC rfl rfl (fun hC=>ungdA (k:=39) rfl (lenM' (f:=TSel.c) (s:=a0.FSels) (TK rfl) rfl rfl rfl)) rfl ?_;refine G1 40 rfl BI ?_;refine G1 41 rfl Mv ?_;refine G0 Fv ?_;refine gC rfl rfl (fun hC=>ungdA (k:=43) rfl (loadV (TK rfl) rfl rfl (congrArg (fun x=>some (A.d x)) (TSel.FSelsD_eq _)))) rfl ?_
  refine G0 Mv ?_;obtain⟨x15,gx15,hE⟩:=gO hE;refine gC rfl rfl (fun hC=>ungdA (k:=45) rfl (addM rfl rfl (gx15 hC))) rfl ?_;obtain⟨x16,gx16,hE⟩:=gO hE;refine Gc2 44 46 rfl rfl rfl rfl rfl rfl (fun hC=>ih_40 (gx16 hC)) ?_;refine gC rfl rfl (fun hC=>ungdA (k:=42) rfl (pickOrA rfl rfl rfl)) rfl ?_;refine S PA (S As (nil ?_));exact rt hE
 refine seqR (S BI (S As (nil ?_)));refine cE hE (fun hc18 hE=>?_) (fun hc18 hE=>?_)
 ·refine seqR (S Fv (S Ld ?_));obtain⟨x20,gx20,hE⟩:=bO hE;refine Sc rfl rfl (Z71_walk gx20) ?_;refine S Mv (G0 Fv ?_);refine G1 56 rfl Ld ?_;refine G1 57 rfl BS ?_;refine S PA (S Mv (G0 Fv ?_));refine G1 61 rfl Ld ?_;refine G1 62 rfl BS ?_;refine S PA (S Mv (G0 Fv ?_));refine G1 66 rfl Ld ?_;refine gC rfl rfl (fun hC=>ungdA (k:=67) rfl (lenM' (f:=TArg.c) (s:=a0.FArgs) (TK rfl) rfl rfl rfl)) rfl ?_
  refine G1 68 rfl BI ?_;refine S PA (S Mv (G0 Fv ?_));refine gC rfl rfl (fun hC=>ungdA (k:=72) rfl (loadV (TK rfl) rfl rfl (congrArg (fun x=>some (A.d x)) (TSel.FSelsD_eq _)))) rfl ?_;refine gC rfl rfl (fun hC=>ungdA (k:=73) rfl (lenM' (f:=TSel.c) (s:=a0.FSels) (TK rfl) rfl rfl rfl)) rfl ?_;refine G1 74 rfl BI ?_;refine S PA (S As (nil ?_));exact rt hE
 refine seqR (S BI (S As (nil ?_)));refine cE hE (fun hc22 hE=>?_) (fun hc22 hE=>?_)
 ·refine seqR (S Fv (S Ld (S BS (S Mv (G0 Fv ?_)))));refine G1 83 rfl Ld ?_;refine G1 84 rfl BS ?_;refine S PA (S Mv (G0 Fv ?_));refine G1 88 rfl Ld ?_;refine G1 89 rfl BS ?_;refine G1 90 rfl Mv ?_;refine G0 Fv ?_;refine G1 92 rfl Ld ?_;obtain⟨x24,gx24,hE⟩:=gO hE;refine Gc1 93 rfl rfl rfl rfl rfl (fun hC=>Z37_walk (gx24 hC)) ?_;refine gC rfl rfl (fun hC=>ungdA (k:=91) rfl (pickOrA rfl rfl rfl)) rfl ?_
  refine S PA (S Mv (G0 Fv ?_));refine G1 98 rfl Ld ?_;refine gC rfl rfl (fun hC=>ungdA (k:=99) rfl (lenM' (f:=TArg.c) (s:=a0.FArgs) (TK rfl) rfl rfl rfl)) rfl ?_;refine G1 100 rfl BI ?_;refine S PA (S Mv (G0 Fv ?_));refine gC rfl rfl (fun hC=>ungdA (k:=104) rfl (loadV (TK rfl) rfl rfl (congrArg (fun x=>some (A.d x)) (TSel.FSelsD_eq _)))) rfl ?_;refine G0 Mv ?_;obtain⟨x25,gx25,hE⟩:=gO hE;refine gC rfl rfl (fun hC=>ungdA (k:=106) rfl (addM rfl rfl (gx25 hC))) rfl ?_
  obtain⟨x26,gx26,hE⟩:=gO hE;refine Gc2 105 107 rfl rfl rfl rfl rfl rfl (fun hC=>ih_40 (gx26 hC)) ?_;refine S PA (S As (nil ?_));exact rt hE
 refine sk hK8 ?_;clear hK8 K8;refine seqR (S As (nil ?_));exact rt hE
theorem r08_selsRight_all:∀(n:Nat),(∀{a0:Sl TSel}{a1:Int}{w0:Option Nat}{r:Bool},r08_selsRight_n n a0 a1=some r->∀(H:Heap),ACalls Tryz.prog 40 [.d (Sl.d 7 TSel.c w0 a0),.d (.int .i64 a1)] H fun v h'=>v=.a (.d (.bool r))/\h'=H)/\(∀{a0:TSel}{a1:Int}{r:Bool},Z70_n n a0 a1=some r->∀(H:Heap),ACalls Tryz.prog 92 [.agg (TSel.c a0),.d (.int .i64 a1)] H fun v h'=>v=.a (.d (.bool r))/\h'=H)
 | 0=>⟨fun hE=>by first|cases hE|(rw [r08_selsRight_n] at hE; cases hE),fun hE=>by first|cases hE|(rw [Z70_n] at hE; cases hE)⟩
 | n+1=>⟨r08_selsRight_step n (r08_selsRight_all n).1 (r08_selsRight_all n).2,Z70_step n (r08_selsRight_all n).1 (r08_selsRight_all n).2⟩
def r08_selsRight (a0:(Sl TSel)) (a1:Int):Option Bool:=r08_selsRight_n F0 a0 a1
theorem r08_selsRight_walk {a0:Sl TSel}{a1:Int}{w0:Option Nat}{r:Bool}(hE:r08_selsRight a0 a1=some r) (H:Heap) :ACalls Tryz.prog 40 [.d (Sl.d 7 TSel.c w0 a0),.d (.int .i64 a1)] H fun v h'=>v=.a (.d (.bool r))/\h'=H:=(r08_selsRight_all F0).1 hE H 
def Z66_j11  :Option Bool:=some true
def Z66_l14 (a0:Z11) :Nat->Nat->Option Bool
 | 0,_=>none
 | n14+1,s6_15=>bif (decide (((s6_15:Nat):Int)<((a0.FFrags.l.length:Nat):Int))) then((a0.FFrags.l[s6_15]?).bind fun x22=>(Z71 x22.FName).bind fun x24=>guardO (!(!x24)) (Z37 x22.FOn) false fun x25=>guardO (!((!x24)||(!x25))) (r08_selsRight x22.FSels (1:Int)) false fun x26=>bif (((!x24)||(!x25))||(!x26)) then(some false) else((Z66_l14 a0 n14) (s6_15+1))) else(Z66_j11   )
def Z66_j10 (a0:Z11)  :Option Bool:=Z66_l14 a0 (a0.FFrags.l.length+1) 0
def Z66_l30 (a0:Z11) :Nat->Nat->Option Bool
 | 0,_=>none
 | n30+1,s4_31=>bif (decide (((s4_31:Nat):Int)<((a0.FOps.l.length:Nat):Int))) then((a0.FOps.l[s4_31]?).bind fun x38=>guardO ((!((decide (x38.FKind<(1:Int)))||(decide ((3:Int)<x38.FKind)))&&(!(x38.FName==([]:Bs))))) (Z37 x38.FName) false fun x40=>guardO (!(((decide (x38.FKind<(1:Int)))||(decide ((3:Int)<x38.FKind)))||((!(x38.FName==([]:Bs)))&&(!x40)))) (Z72 x38.FVars) false fun x41=>guardO (!((((decide (x38.FKind<(1:Int)))||(decide ((3:Int)<x38.FKind)))||((!(x38.FName==([]:Bs)))&&(!x40)))||(!x41))) (r08_selsRight x38.FSels (1:Int)) false fun x42=>bif (((((decide (x38.FKind<(1:Int)))||(decide ((3:Int)<x38.FKind)))||((!(x38.FName==([]:Bs)))&&(!x40)))||(!x41))||(!x42)) then(some false) else((Z66_l30 a0 n30) (s4_31+1))) else(Z66_j10 a0  )
def Z66 (a0:Z11):Option Bool:=(addC ((a0.FOps.l.length:Nat):Int) ((a0.FFrags.l.length:Nat):Int)).bind fun x5=>bif ((decide (x5<(1:Int)))||(decide ((64:Int)<x5))) then(some false) else(Z66_l30 a0 (a0.FOps.l.length+1) 0)
theorem Z66_walk {a0:Z11}{r:Bool}(hE:Z66 a0=some r) (H:Heap) :ACalls Tryz.prog 18 [.agg (Z11.c a0)] H fun v h'=>v=.a (.d (.bool r))/\h'=H:=by
 unfold Z66 at hE;refine ACalls.oW 92 [.tmp 2] Tryz.call18 Tryz.func18 ?_;refine seqR (S BX (S As (nil ?_)));refine seqR (S Fv (S Ld ?_));refine sLen (f:=TOp.c) (s:=a0.FOps) (TK rfl) rfl rfl rfl rfl fun hL3=>?_;refine S Fv (S Ld ?_);refine sLen (f:=Z8.c) (s:=a0.FFrags) (TK rfl) rfl rfl rfl rfl fun hL4=>?_;obtain⟨x5,gx5,hE⟩:=bO hE;refine s0 (addM rfl rfl gx5) rfl ?_;refine S As (nil ?_);refine seqK fun K6 hK6=>?_
 refine seqR (S Mv (S BI (S Mv (G0 Mv ?_))));refine G1 18 rfl BI ?_;refine S PO (nil ?_);refine cE hE (fun hc8 hE=>?_) (fun hc8 hE=>?_)
 ·refine seqR (S As (nil ?_));exact rt hE
 refine sk hK6 ?_;clear hK6 K6;refine seqJH (TA 1 KeepsT.nil) (fun(z:Unit)=>[]) (fun z=>H) (fun z=>Z66_j10 a0 =some r) ?_ ?_
 ·intro K10 hK10;refine seqR (S As (nil ?_));refine block ?_;refine loopH (TA 1 KeepsT.nil) (fun(z:Nat×Nat)=>[(4,.a (.d (.int .i64 ((z.2:Nat):Int))))]) (fun z=>H) (fun z=>z.1) (fun z=>Z66_l30 a0 z.1 z.2=some r) ((a0.FOps.l.length+1),0) hE Weak.toA ?_;rintro ⟨n30,s4_31⟩ hE K30 hK30;try dsimp only at hE
  cases n30 with
  | zero=>cases hE
  | succ n30 =>
    rw [Z66_l30] at hE;refine seqK fun K32 hK32=>?_;refine seqR (S Mv (S Fv (S Ld ?_)));refine sLen (f:=TOp.c) (s:=a0.FOps) (TK rfl) rfl rfl rfl rfl fun hL34=>?_;refine S BI (nil ?_);refine cE hE (fun hc35 hE=>?_) (fun hc35 hE=>?_)
    ·try dsimp only at hc35
     have hf35:=of_decide_eq_true hc35;refine sk hK32 ?_;clear hK32 K32;refine seqK fun K36 hK36=>?_;refine block ?_;refine seqR (S Fv (S Ld (S Mv ?_)));obtain⟨x38,gx38,hE⟩:=bO hE;refine S (ix TOp.c s4_31 gx38) (S Ld ?_);refine Sl ?_;refine Sf ?_;refine nil ?_;refine freezeA 5 _ rfl (KA 1 (KA 4 Keeps.nil)) ?_;refine seqR (S Fv (S Ld (S BI (S Mv (G0 Fv ?_)))));refine G1 37 rfl Ld ?_;refine G1 38 rfl BI ?_
     refine S PO (S Mv (G0 Fv ?_));refine G1 42 rfl Ld ?_;refine G1 43 rfl BS ?_;refine G1 44 rfl Mv ?_;refine G0 Fv ?_;refine G1 46 rfl Ld ?_;obtain⟨x40,gx40,hE⟩:=gO hE;refine Gc1 47 rfl rfl rfl rfl rfl (fun hC=>Z37_walk (gx40 hC)) ?_;refine G1 48 rfl NB ?_;refine gC rfl rfl (fun hC=>ungdA (k:=45) rfl (pickAndA rfl rfl rfl)) rfl ?_;refine S PO (S Mv (G0 Fv ?_));refine G1 53 rfl Ld ?_;obtain⟨x41,gx41,hE⟩:=gO hE
     refine Gc1 54 rfl rfl rfl rfl rfl (fun hC=>Z72_walk (gx41 hC)) ?_;refine G1 55 rfl NB ?_;refine S PO (S Mv (G0 Fv ?_));refine G1 59 rfl Ld ?_;obtain⟨x42,gx42,hE⟩:=gO hE;refine Gc1 60 rfl rfl rfl rfl rfl (fun hC=>r08_selsRight_walk (gx42 hC)) ?_;refine G1 61 rfl NB ?_;refine S PO (nil ?_);refine cE hE (fun hc43 hE=>?_) (fun hc43 hE=>?_)
     ·refine seqR (S As (nil ?_));exact rt hE
     refine sk hK36 ?_;clear hK36 K36;refine region ?_;refine S Mv ?_;refine SI ?_;refine S As (nil ?_);exact hK30 _ (n30,(s4_31+1)) Weak.toA hE (Nat.lt_succ_self _)
    refine AWp.exit ?_;exact hK10 _ () Weak.toA hE
 rintro _ hE;try dsimp only at hE
 unfold Z66_j10 at hE;refine seqJH KeepsT.nil (fun(z:Unit)=>[]) (fun z=>H) (fun z=>Z66_j11 =some r) ?_ ?_
 ·intro K11 hK11;refine seqR (S As (nil ?_));refine block ?_;refine loopH (TA 1 KeepsT.nil) (fun(z:Nat×Nat)=>[(6,.a (.d (.int .i64 ((z.2:Nat):Int))))]) (fun z=>H) (fun z=>z.1) (fun z=>Z66_l14 a0 z.1 z.2=some r) ((a0.FFrags.l.length+1),0) hE Weak.toA ?_;rintro ⟨n14,s6_15⟩ hE K14 hK14;try dsimp only at hE
  cases n14 with
  | zero=>cases hE
  | succ n14 =>
    rw [Z66_l14] at hE;refine seqK fun K16 hK16=>?_;refine seqR (S Mv (S Fv (S Ld ?_)));refine sLen (f:=Z8.c) (s:=a0.FFrags) (TK rfl) rfl rfl rfl rfl fun hL18=>?_;refine S BI (nil ?_);refine cE hE (fun hc19 hE=>?_) (fun hc19 hE=>?_)
    ·try dsimp only at hc19
     have hf19:=of_decide_eq_true hc19;refine sk hK16 ?_;clear hK16 K16;refine seqK fun K20 hK20=>?_;refine block ?_;refine seqR (S Fv (S Ld (S Mv ?_)));obtain⟨x22,gx22,hE⟩:=bO hE;refine S (ix Z8.c s6_15 gx22) (S Ld ?_);refine Sl ?_;refine Sf ?_;refine nil ?_;refine freezeA 7 _ rfl (KA 1 (KA 6 Keeps.nil)) ?_;refine seqR (S Fv (S Ld ?_));obtain⟨x24,gx24,hE⟩:=bO hE;refine Sc rfl rfl (Z71_walk gx24) ?_
     refine S NB (S Mv (G0 Fv ?_));refine G1 81 rfl Ld ?_;obtain⟨x25,gx25,hE⟩:=gO hE;refine Gc1 82 rfl rfl rfl rfl rfl (fun hC=>Z37_walk (gx25 hC)) ?_;refine G1 83 rfl NB ?_;refine S PO (S Mv (G0 Fv ?_));refine G1 87 rfl Ld ?_;obtain⟨x26,gx26,hE⟩:=gO hE;refine Gc1 88 rfl rfl rfl rfl rfl (fun hC=>r08_selsRight_walk (gx26 hC)) ?_;refine G1 89 rfl NB ?_;refine S PO (nil ?_);refine cE hE (fun hc27 hE=>?_) (fun hc27 hE=>?_)
     ·refine seqR (S As (nil ?_));exact rt hE
     refine sk hK20 ?_;clear hK20 K20;refine region ?_;refine S Mv ?_;refine SI ?_;refine S As (nil ?_);exact hK14 _ (n14,(s6_15+1)) Weak.toA hE (Nat.lt_succ_self _)
    refine AWp.exit ?_;exact hK11 _ () Weak.toA hE
 rintro _ hE;try dsimp only at hE
 unfold Z66_j11 at hE;refine seqR (S As (nil ?_));exact rt hE
def Z115 (a0:TDoc) (a1:Z11):Option (Sl Z6):=none
theorem Z115_walk {a0:TDoc}{a1:Z11}{r:Sl Z6}(hE:Z115 a0 a1=some r) (H:Heap) :ACalls Tryz.prog 19 [.agg (TDoc.c a0),.agg (Z11.c a1)] H fun v h'=>v=.a (.d (Sl.d 2 Z6.c none r))/\h'=H:=by cases hE
end Go.Proofs

namespace Go.Proofs
open Go Go.Ab
open AOps Cert AWp Keeps KeepsT
variable {lou:Lou}
def Z35_j10  :Option Bool:=some true
def Z35_l13 (a0:TDoc) (a2:(Sl Z11)) :Nat->Nat->Option Bool
 | 0,_=>none
 | n13+1,s7_14=>bif (decide (((s7_14:Nat):Int)<((a2.l.length:Nat):Int))) then((a2.l[s7_14]?).bind fun x21=>(Z66 x21).bind fun x22=>guardO (!(!x22)) (a2.l[s7_14]?) Z11.zero fun x23=>guardO (!(!x22)) (Z115 a0 x23) (Sl.nil:Sl Z6) fun x24=>bif ((!x22)||(decide ((0:Int)<((x24.l.length:Nat):Int)))) then(some false) else((Z35_l13 a0 a2 n13) (s7_14+1))) else(Z35_j10   )
def Z35 (a0:TDoc) (a1:TDoc) (a2:(Sl Z11)):Option Bool:=(Z58 a0).bind fun x4=>guardO (!(!x4)) (Z58 a1) false fun x5=>guardO (!((!x4)||(!x5))) (Z116 a0) (Sl.nil:Sl Z6) fun x6=>guardO (!(((!x4)||(!x5))||(decide ((0:Int)<((x6.l.length:Nat):Int))))) (Z116 a1) (Sl.nil:Sl Z6) fun x7=>bif ((((!x4)||(!x5))||(decide ((0:Int)<((x6.l.length:Nat):Int))))||(decide ((0:Int)<((x7.l.length:Nat):Int)))) then(some false) else(Z35_l13 a0 a2 (a2.l.length+1) 0)
theorem Z35_walk {a0 a1:TDoc}{a2:Sl Z11}{w2:Option Nat}{r:Bool}(hE:Z35 a0 a1 a2=some r) (H:Heap) :ACalls Tryz.prog 6 [.agg (TDoc.c a0),.agg (TDoc.c a1),.d (Sl.d 2 Z11.c w2 a2)] H fun v h'=>v=.a (.d (.bool r))/\h'=H:=by
 unfold Z35 at hE;refine ACalls.oW 50 [.tmp 6] Tryz.call6 Tryz.func6 ?_;refine seqR (S BX (S BX (S As (nil ?_))));refine seqK fun K2 hK2=>?_;refine seqR (S Ld ?_);obtain⟨x4,gx4,hE⟩:=bO hE;refine Sc rfl rfl (Z58_walk gx4) ?_;refine S NB (S Mv (G0 Ld ?_));obtain⟨x5,gx5,hE⟩:=gO hE;refine Gc1 12 rfl rfl rfl rfl rfl (fun hC=>Z58_walk (gx5 hC)) ?_;refine G1 13 rfl NB ?_;refine S PO (S Mv (G0 Ld ?_));obtain⟨x6,gx6,hE⟩:=gO hE
 refine Gc1 17 rfl rfl rfl rfl rfl (fun hC=>Z116_walk (gx6 hC)) ?_;refine gC rfl rfl (fun hC=>ungdA (k:=18) rfl (lenM' (f:=Z6.c) (s:=x6) (TK rfl) rfl rfl rfl)) rfl ?_;refine G1 19 rfl BI ?_;refine S PO (S Mv (G0 Ld ?_));obtain⟨x7,gx7,hE⟩:=gO hE;refine Gc1 23 rfl rfl rfl rfl rfl (fun hC=>Z116_walk (gx7 hC)) ?_;refine gC rfl rfl (fun hC=>ungdA (k:=24) rfl (lenM' (f:=Z6.c) (s:=x7) (TK rfl) rfl rfl rfl)) rfl ?_
 refine G1 25 rfl BI ?_;refine S PO (nil ?_);refine cE hE (fun hc8 hE=>?_) (fun hc8 hE=>?_)
 ·refine seqR (S As (nil ?_));exact rt hE
 refine sk hK2 ?_;clear hK2 K2;refine seqJH KeepsT.nil (fun(z:Unit)=>[]) (fun z=>H) (fun z=>Z35_j10 =some r) ?_ ?_
 ·intro K10 hK10;refine seqR (S As (nil ?_));refine block ?_;refine loopH (TA 2 (TA 3 KeepsT.nil)) (fun(z:Nat×Nat)=>[(7,.a (.d (.int .i64 ((z.2:Nat):Int))))]) (fun z=>H) (fun z=>z.1) (fun z=>Z35_l13 a0 a2 z.1 z.2=some r) ((a2.l.length+1),0) hE Weak.toA ?_;rintro ⟨n13,s7_14⟩ hE K13 hK13;try dsimp only at hE
  cases n13 with
  | zero=>cases hE
  | succ n13 =>
    rw [Z35_l13] at hE;refine seqK fun K15 hK15=>?_;refine seqR (S Mv (S Mv ?_));refine sLen (f:=Z11.c) (s:=a2) (TK rfl) rfl rfl rfl rfl fun hL17=>?_;refine S BI (nil ?_);refine cE hE (fun hc18 hE=>?_) (fun hc18 hE=>?_)
    ·try dsimp only at hc18
     have hf18:=of_decide_eq_true hc18;refine sk hK15 ?_;clear hK15 K15;refine seqK fun K19 hK19=>?_;refine block ?_;refine AWp.seqD (Sd Mv (Sd Mv ?_));obtain⟨x21,gx21,hE⟩:=bO hE;refine Sd (ix Z11.c s7_14 gx21) (Sd Ld ?_);obtain⟨x22,gx22,hE⟩:=bO hE;refine Scd rfl rfl (Z66_walk gx22) ?_;refine Sd NB (Sd Mv (G0d Ld (G0d Mv (G0d Mv ?_))));obtain⟨x23,gx23,hE⟩:=gO hE;refine DOps.gC rfl rfl (fun hC=>ungdA (k:=42) rfl (ungdA (k:=43) rfl (idxMn (f:=Z11.c) (n:=s7_14) (TK rfl) rfl (TK rfl) rfl rfl rfl (gx23 hC)))) rfl ?_
     refine G1d 44 rfl Ld ?_;obtain⟨x24,gx24,hE⟩:=gO hE;refine Gc2d 41 45 rfl rfl rfl rfl rfl rfl (fun hC=>Z115_walk (gx24 hC)) ?_;refine DOps.gC rfl rfl (fun hC=>ungdA (k:=46) rfl (lenM' (f:=Z6.c) (s:=x24) (TK rfl) rfl rfl rfl)) rfl ?_;refine G1d 47 rfl BI ?_;refine Sd PO ?_;refine DOps.nil (by decide +kernel) ?_;refine cE hE (fun hc25 hE=>?_) (fun hc25 hE=>?_)
     ·refine seqR (S As (nil ?_));exact rt hE
     refine sk hK19 ?_;clear hK19 K19;refine region ?_;refine S Mv ?_;refine SI ?_;refine S As (nil ?_);exact hK13 _ (n13,(s7_14+1)) Weak.toA hE (Nat.lt_succ_self _)
    refine AWp.exit ?_;exact hK10 _ () Weak.toA hE
 rintro _ hE;try dsimp only at hE
 unfold Z35_j10 at hE;refine seqR (S As (nil ?_));exact rt hE
def Z30_j2  :Option Bool:=some true
def Z30_l6 (a0:(Sl Z13)) :Nat->Nat->Option Bool
 | 0,_=>none
 | n6+1,s7_7=>bif (decide (((s7_7:Nat):Int)<((a0.l.length:Nat):Int))) then((a0.l[s7_7]?).bind fun x13=>bif (!x13.FSafe) then(some false) else((Z30_l6 a0 n6) (s7_7+1))) else(Z30_j2   )
def Z30 (a0:(Sl Z13)):Option Bool:=Z30_l6 a0 (a0.l.length+1) 0
theorem Z30_walk {a0:Sl Z13}{w0:Option Nat}{r:Bool}(hE:Z30 a0=some r) (H:Heap) :ACalls Tryz.prog 8 [.d (Sl.d 8 Z13.c w0 a0)] H fun v h'=>v=.a (.d (.bool r))/\h'=H:=by
 unfold Z30 at hE;refine ACalls.oW 15 [.tmp 2] Tryz.call8 Tryz.func8 ?_;refine seqR (S As (nil ?_));refine seqJH KeepsT.nil (fun(z:Unit)=>[]) (fun z=>H) (fun z=>Z30_j2 =some r) ?_ ?_
 ·intro K2 hK2;refine seqR (S Mv ?_);refine sLen (f:=Z13.c) (s:=a0) (TK rfl) rfl rfl rfl rfl fun hL5=>?_;refine S Mv (nil ?_);refine block ?_;refine loopH (TA 5 (TA 6 KeepsT.nil)) (fun(z:Nat×Nat)=>[(7,.a (.d (.int .i64 ((z.2:Nat):Int))))]) (fun z=>H) (fun z=>z.1) (fun z=>Z30_l6 a0 z.1 z.2=some r) ((a0.l.length+1),0) hE Weak.toA ?_;rintro ⟨n6,s7_7⟩ hE K6 hK6;try dsimp only at hE
  cases n6 with
  | zero=>cases hE
  | succ n6 =>
    rw [Z30_l6] at hE;refine seqR (S BI (nil ?_));refine seqK fun K9 hK9=>?_;refine cE hE (fun hc10 hE=>?_) (fun hc10 hE=>?_)
    ·try dsimp only at hc10
     have hf10:=of_decide_eq_true hc10;refine sk hK9 ?_;clear hK9 K9;refine seqK fun K11 hK11=>?_;refine block ?_;refine seqR ?_;obtain⟨x13,gx13,hE⟩:=bO hE;refine S (ix Z13.c s7_7 gx13) (S Ld ?_);refine Sl ?_;refine Sf ?_;refine nil ?_;refine freezeA 4 _ rfl (KA 5 (KA 6 (KA 7 Keeps.nil))) ?_;refine seqR (S Fv (S Ld (S NB (nil ?_))));refine cE hE (fun hc15 hE=>?_) (fun hc15 hE=>?_)
     ·refine seqR (S As (nil ?_));exact rt hE
     refine sk hK11 ?_;clear hK11 K11;refine region ?_;refine SI ?_;refine S Mv (nil ?_);exact hK6 _ (n6,(s7_7+1)) Weak.toA hE (Nat.lt_succ_self _)
    refine AWp.exit ?_;exact hK2 _ () Weak.toA hE
 rintro _ hE;try dsimp only at hE
 unfold Z30_j2 at hE;refine seqR (S As (nil ?_));exact rt hE
def Z118_j2  (y3_l0:TDef):Option (TDef×Bool):=some ((TDef.mk (0:Int) ([]:Bs) (Sl.nil:Sl Bs) (Sl.nil:Sl TDir) (Sl.nil:Sl Z7) (Sl.nil:Sl Z10) (Sl.nil:Sl Z9)),false)
def Z118_l7 (a0:TDoc) (a1:Bs) :Nat->Nat->TDef->Option (TDef×Bool)
 | 0,_,_=>none
 | n7+1,s11_8,y9_l0=>bif (decide (((s11_8:Nat):Int)<((a0.FDefs.l.length:Nat):Int))) then((a0.FDefs.l[s11_8]?).bind fun x15=>bif ((x15.FName==a1)) then(some (x15,true)) else((Z118_l7 a0 a1 n7) (s11_8+1) y9_l0)) else(Z118_j2   y9_l0)
def Z118 (a0:TDoc) (a1:Bs):Option (TDef×Bool):=Z118_l7 a0 a1 (a0.FDefs.l.length+1) 0 TDef.zero
theorem Z118_walk {a0:TDoc}{a1:Bs}{r:TDef×Bool}(hE:Z118 a0 a1=some r) (H:Heap) :ACalls Tryz.prog 28 [.agg (TDoc.c a0),.d (.str a1)] H fun v h'=>v=.tup [.agg (TDef.c r.1),.d (.bool r.2)]/\h'=H:=by
 unfold Z118 at hE;refine ACalls.oW 22 [.cell 4 58,.tmp 5] Tryz.call28 Tryz.func28 ?_;refine seqR (S BX ?_);refine Sl ?_;refine S As (nil ?_);refine seqJ (TA 4 KeepsT.nil) (fun(z:TDef)=>[]) (fun z=>[TDef.c z]) (fun z=>H) (fun z=>Z118_j2 z=some r) ?_ ?_
 ·intro K2 hK2;refine seqR (S Fv (S Ld ?_));refine sLen (f:=TDef.c) (s:=a0.FDefs) (TK rfl) rfl rfl rfl rfl fun hL6=>?_;refine S Mv (nil ?_);refine block ?_;refine loopO (TA 1 (TA 4 (TA 9 (TA 10 KeepsT.nil)))) (fun(z:Nat×Nat×TDef)=>[(11,.a (.d (.int .i64 ((z.2.1:Nat):Int))))]) (fun z=>[TDef.c z.2.2]) (fun z=>H) (fun z=>z.1) (fun z=>Z118_l7 a0 a1 z.1 z.2.1 z.2.2=some r) ((a0.FDefs.l.length+1),0,TDef.zero) hE Weak.toA ?_
  rintro ⟨n7,s11_8,y9_l0⟩ hE K7 hK7;try dsimp only at hE
  cases n7 with
  | zero=>cases hE
  | succ n7 =>
    rw [Z118_l7] at hE;refine seqR (S BI (nil ?_));refine seqK fun K11 hK11=>?_;refine cE hE (fun hc12 hE=>?_) (fun hc12 hE=>?_)
    ·try dsimp only at hc12
     have hf12:=of_decide_eq_true hc12;refine sk hK11 ?_;clear hK11 K11;refine seqK fun K13 hK13=>?_;refine block ?_;refine seqR ?_;obtain⟨x15,gx15,hE⟩:=bO hE;refine S (ix TDef.c s11_8 gx15) (S Ld ?_);refine Sl ?_;refine Sf ?_;refine nil ?_;refine freezeA 7 _ rfl (KA 1 (KA 4 (KA 9 (KA 10 (KA 11 Keeps.nil))))) ?_;refine seqR (S Fv (S Ld (S Mv (S BS (nil ?_)))));refine cE hE (fun hc17 hE=>?_) (fun hc17 hE=>?_)
     ·refine seqR (S Ld ?_);refine Sf ?_;refine S As (nil ?_);exact rt hE
     refine sk hK13 ?_;clear hK13 K13;refine region ?_;refine SI ?_;refine S Mv (nil ?_);exact hK7 _ (n7,(s11_8+1),y9_l0) Weak.toA hE (Nat.lt_succ_self _)
    refine AWp.exit ?_;exact hK2 _ y9_l0 Weak.toA hE
 rintro y3_l0 hE;try dsimp only at hE
 unfold Z118_j2 at hE;refine seqR (S BU ?_);refine Sf ?_;refine S As (nil ?_);exact rt hE
def Z16 (a0:Z0) (a1:Int) (a2:Bs) (a3:Bs) (a4:Bs) (a5:Bs):Option Z0:=(appC 88 a0.Fout (⟨false,[(Z5.mk a1 a0.Fname a2 a3 a4 a5)]⟩:Sl Z5)).bind fun x1=>some (Z0.mk a0.Fname x1)
theorem Z16_walk {a0:Z0}{a1:Int}{a2 a3 a4 a5:Bs}{c0 c0_1:Nat}{r:Z0}(hE:Z16 a0 a1 a2 a3 a4 a5=some r) (H:Heap) (hc0:H c0=some (.cells (Z0.cg (some c0_1) a0))) (ht0_1:H c0_1=some (.tok 6 a0.Fout.l.length)):ACalls Tryz.prog 29 [.d (.ptr c0 0),.d (.int .i64 a1),.d (.str a2),.d (.str a3),.d (.str a4),.d (.str a5)] H fun v h'=>v=.tup []/\h'=((H.set c0_1 (some (.tok 6 r.Fout.l.length))).set c0 (some (.cells (Z0.cg (some c0_1) r)))):=by
 unfold Z16 at hE;refine ACalls.oW 31 [] Tryz.call29 Tryz.func29 ?_;have ne_c0_c0_1:c0≠c0_1:=fun e_=>by subst e_; simp_all
 refine AWp.heqA (h':=((H.set c0_1 (some (.tok 6 a0.Fout.l.length))).set c0 (some (.cells (Z0.cg (some c0_1) a0))))) (by funext n_; simp only [Heap.set]; (repeat' split)<;>simp_all) ?_;refine AWp.draw rfl ?_;refine Sd Mv (Sd Mv (Sd NP ?_));refine DOps.s0 (fieldP (TK rfl) rfl rfl (TK rfl) rfl rfl) rfl ?_;refine DOps.s0 (loadP (TK rfl) rfl rfl hpG rfl) rfl ?_;refine Sd Mv (Sd Mv (Sd NP ?_));refine DOps.s0 (fieldP (TK rfl) rfl rfl (TK rfl) rfl rfl) rfl ?_
 refine DOps.s0 (loadP (TK rfl) rfl rfl hpG rfl) rfl ?_;refine Sd Mv (Sd Mv (Sd Mv (Sd Mv (Sd BU (Sd BV ?_)))));obtain⟨x1,gx1,hE⟩:=bO hE;refine DOps.sH (appM (f:=Z5.c) (TK rfl) rfl (TK rfl) (TK rfl) ⟨_,rfl⟩ rfl rfl (by decide) rfl rfl rfl rfl hpG rfl gx1) rfl ?_;refine DOps.Dh ((H.set c0_1 (some (.tok 6 x1.l.length))).set c0 (some (.cells (Z0.cg (some c0_1) a0)))) ?_;refine Sd NP ?_;refine DOps.s0 (fieldP (TK rfl) rfl rfl (TK rfl) rfl rfl) rfl ?_
 refine DOps.sHn (storeP1 (TK rfl) rfl rfl hpG rfl (by repeat (first|exact SetAt.zero|apply SetAt.succ))) rfl rfl ?_;refine DOps.Dh ((H.set c0_1 (some (.tok 6 x1.l.length))).set c0 (some (.cells (Z0.cg (some c0_1) (Z0.mk a0.Fname x1))))) ?_;refine DOps.nil (by decide +kernel) ?_;repeat (first|refine xBlock_normal ?_|refine xThen_exit ?_|refine xBlock_exit ?_)
 obtain rfl:=Option.some.inj hE;refine retQ.normalF ((H.set c0_1 (some (.tok 6 x1.l.length))).set c0 (some (.cells (Z0.cg (some c0_1) (Z0.mk a0.Fname x1))))) (xs:=[]) rfl ⟨rfl,rfl⟩ ?_;exact(fun _ _ h=>h)
def Z23 (a0:Int):Option Bs:=bif (decide (a0=(1:Int))) then(some ([116,121,112,101]:Bs)) else(bif (decide (a0=(2:Int))) then(some ([105,110,116,101,114,102,97,99,101]:Bs)) else(bif (decide (a0=(3:Int))) then(some ([117,110,105,111,110]:Bs)) else(bif (decide (a0=(4:Int))) then(some ([101,110,117,109]:Bs)) else(some ([105,110,112,117,116]:Bs)))))
theorem Z23_walk {a0:Int}{r:Bs}(hE:Z23 a0=some r) (H:Heap) :ACalls Tryz.prog 30 [.d (.int .i64 a0)] H fun v h'=>v=.a (.d (.str r))/\h'=H:=by
 unfold Z23 at hE;refine ACalls.oW 12 [.tmp 2] Tryz.call30 Tryz.func30 ?_;refine seqR (S As (nil ?_));refine seqK fun K2 hK2=>?_;refine seqR (S Mv (nil ?_));refine block ?_;refine seqR (S BI (S As (nil ?_)));refine cE hE (fun hc5 hE=>?_) (fun hc5 hE=>?_)
 ·refine seqR (S As (nil ?_));exact rt hE
 refine seqR (S BI (S As (nil ?_)));refine cE hE (fun hc8 hE=>?_) (fun hc8 hE=>?_)
 ·refine seqR (S As (nil ?_));exact rt hE
 refine seqR (S BI (S As (nil ?_)));refine cE hE (fun hc11 hE=>?_) (fun hc11 hE=>?_)
 ·refine seqR (S As (nil ?_));exact rt hE
 refine seqR (S BI (S As (nil ?_)));refine cE hE (fun hc14 hE=>?_) (fun hc14 hE=>?_)
 ·refine seqR (S As (nil ?_));exact rt hE
 refine sk hK2 ?_;clear hK2 K2;refine seqR (S As (nil ?_));exact rt hE
def Z117_j2  (y3_l0:Z7):Option (Z7×Bool):=some ((Z7.mk ([]:Bs) (Sl.nil:Sl Z9) TRef.zero (Sl.nil:Sl TDir)),false)
def Z117_l7 (a0:TDef) (a1:Bs) :Nat->Nat->Z7->Option (Z7×Bool)
 | 0,_,_=>none
 | n7+1,s11_8,y9_l0=>bif (decide (((s11_8:Nat):Int)<((a0.FFields.l.length:Nat):Int))) then((a0.FFields.l[s11_8]?).bind fun x15=>bif ((x15.FName==a1)) then(some (x15,true)) else((Z117_l7 a0 a1 n7) (s11_8+1) y9_l0)) else(Z117_j2   y9_l0)
def Z117 (a0:TDef) (a1:Bs):Option (Z7×Bool):=Z117_l7 a0 a1 (a0.FFields.l.length+1) 0 Z7.zero
theorem Z117_walk {a0:TDef}{a1:Bs}{r:Z7×Bool}(hE:Z117 a0 a1=some r) (H:Heap) :ACalls Tryz.prog 51 [.agg (TDef.c a0),.d (.str a1)] H fun v h'=>v=.tup [.agg (Z7.c r.1),.d (.bool r.2)]/\h'=H:=by
 unfold Z117 at hE;refine ACalls.oW 22 [.cell 4 53,.tmp 5] Tryz.call51 Tryz.func51 ?_;refine seqR (S BX ?_);refine Sl ?_;refine S As (nil ?_);refine seqJ (TA 4 KeepsT.nil) (fun(z:Z7)=>[]) (fun z=>[Z7.c z]) (fun z=>H) (fun z=>Z117_j2 z=some r) ?_ ?_
 ·intro K2 hK2;refine seqR (S Fv (S Ld ?_));refine sLen (f:=Z7.c) (s:=a0.FFields) (TK rfl) rfl rfl rfl rfl fun hL6=>?_;refine S Mv (nil ?_);refine block ?_;refine loopO (TA 1 (TA 4 (TA 9 (TA 10 KeepsT.nil)))) (fun(z:Nat×Nat×Z7)=>[(11,.a (.d (.int .i64 ((z.2.1:Nat):Int))))]) (fun z=>[Z7.c z.2.2]) (fun z=>H) (fun z=>z.1) (fun z=>Z117_l7 a0 a1 z.1 z.2.1 z.2.2=some r) ((a0.FFields.l.length+1),0,Z7.zero) hE Weak.toA ?_
  rintro ⟨n7,s11_8,y9_l0⟩ hE K7 hK7;try dsimp only at hE
  cases n7 with
  | zero=>cases hE
  | succ n7 =>
    rw [Z117_l7] at hE;refine seqR (S BI (nil ?_));refine seqK fun K11 hK11=>?_;refine cE hE (fun hc12 hE=>?_) (fun hc12 hE=>?_)
    ·try dsimp only at hc12
     have hf12:=of_decide_eq_true hc12;refine sk hK11 ?_;clear hK11 K11;refine seqK fun K13 hK13=>?_;refine block ?_;refine seqR ?_;obtain⟨x15,gx15,hE⟩:=bO hE;refine S (ix Z7.c s11_8 gx15) (S Ld ?_);refine Sl ?_;refine Sf ?_;refine nil ?_;refine freezeA 7 _ rfl (KA 1 (KA 4 (KA 9 (KA 10 (KA 11 Keeps.nil))))) ?_;refine seqR (S Fv (S Ld (S Mv (S BS (nil ?_)))));refine cE hE (fun hc17 hE=>?_) (fun hc17 hE=>?_)
     ·refine seqR (S Ld ?_);refine Sf ?_;refine S As (nil ?_);exact rt hE
     refine sk hK13 ?_;clear hK13 K13;refine region ?_;refine SI ?_;refine S Mv (nil ?_);exact hK7 _ (n7,(s11_8+1),y9_l0) Weak.toA hE (Nat.lt_succ_self _)
    refine AWp.exit ?_;exact hK2 _ y9_l0 Weak.toA hE
 rintro y3_l0 hE;try dsimp only at hE
 unfold Z117_j2 at hE;refine seqR (S BU ?_);refine Sf ?_;refine S As (nil ?_);exact rt hE
def Z119_j2  (y3_l0:Z9):Option (Z9×Bool):=some ((Z9.mk ([]:Bs) TRef.zero false Z12.zero (Sl.nil:Sl TDir)),false)
def Z119_l7 (a0:(Sl Z9)) (a1:Bs) :Nat->Nat->Z9->Option (Z9×Bool)
 | 0,_,_=>none
 | n7+1,s10_8,y9_l0=>bif (decide (((s10_8:Nat):Int)<((a0.l.length:Nat):Int))) then((a0.l[s10_8]?).bind fun x15=>bif ((x15.FName==a1)) then(some (x15,true)) else((Z119_l7 a0 a1 n7) (s10_8+1) y9_l0)) else(Z119_j2   y9_l0)
def Z119 (a0:(Sl Z9)) (a1:Bs):Option (Z9×Bool):=Z119_l7 a0 a1 (a0.l.length+1) 0 Z9.zero
theorem Z119_walk {a0:Sl Z9}{a1:Bs}{w0:Option Nat}{r:Z9×Bool}(hE:Z119 a0 a1=some r) (H:Heap) :ACalls Tryz.prog 56 [.d (Sl.d 10 Z9.c w0 a0),.d (.str a1)] H fun v h'=>v=.tup [.agg (Z9.c r.1),.d (.bool r.2)]/\h'=H:=by
 unfold Z119 at hE;refine ACalls.oW 21 [.cell 4 113,.tmp 5] Tryz.call56 Tryz.func56 ?_;refine seqR ?_;refine Sl ?_;refine S As (nil ?_);refine seqJ (TA 4 KeepsT.nil) (fun(z:Z9)=>[]) (fun z=>[Z9.c z]) (fun z=>H) (fun z=>Z119_j2 z=some r) ?_ ?_
 ·intro K2 hK2;refine seqR (S Mv ?_);refine sLen (f:=Z9.c) (s:=a0) (TK rfl) rfl rfl rfl rfl fun hL6=>?_;refine S Mv (nil ?_);refine block ?_;refine loopO (TA 1 (TA 4 (TA 8 (TA 9 KeepsT.nil)))) (fun(z:Nat×Nat×Z9)=>[(10,.a (.d (.int .i64 ((z.2.1:Nat):Int))))]) (fun z=>[Z9.c z.2.2]) (fun z=>H) (fun z=>z.1) (fun z=>Z119_l7 a0 a1 z.1 z.2.1 z.2.2=some r) ((a0.l.length+1),0,Z9.zero) hE Weak.toA ?_;rintro ⟨n7,s10_8,y9_l0⟩ hE K7 hK7
  try dsimp only at hE
  cases n7 with
  | zero=>cases hE
  | succ n7 =>
    rw [Z119_l7] at hE;refine seqR (S BI (nil ?_));refine seqK fun K11 hK11=>?_;refine cE hE (fun hc12 hE=>?_) (fun hc12 hE=>?_)
    ·try dsimp only at hc12
     have hf12:=of_decide_eq_true hc12;refine sk hK11 ?_;clear hK11 K11;refine seqK fun K13 hK13=>?_;refine block ?_;refine seqR ?_;obtain⟨x15,gx15,hE⟩:=bO hE;refine S (ix Z9.c s10_8 gx15) (S Ld ?_);refine Sl ?_;refine Sf ?_;refine nil ?_;refine freezeA 7 _ rfl (KA 1 (KA 4 (KA 8 (KA 9 (KA 10 Keeps.nil))))) ?_;refine seqR (S Fv (S Ld (S Mv (S BS (nil ?_)))));refine cE hE (fun hc17 hE=>?_) (fun hc17 hE=>?_)
     ·refine seqR (S Ld ?_);refine Sf ?_;refine S As (nil ?_);exact rt hE
     refine sk hK13 ?_;clear hK13 K13;refine region ?_;refine SI ?_;refine S Mv (nil ?_);exact hK7 _ (n7,(s10_8+1),y9_l0) Weak.toA hE (Nat.lt_succ_self _)
    refine AWp.exit ?_;exact hK2 _ y9_l0 Weak.toA hE
 rintro y3_l0 hE;try dsimp only at hE
 unfold Z119_j2 at hE;refine seqR (S BU ?_);refine Sf ?_;refine S As (nil ?_);exact rt hE
def Z124_j8  :Option Bool:=some true
def Z124_l12 (a0:(Sl Int)) (a1:(Sl Int)) :Nat->Nat->Option Bool
 | 0,_=>none
 | n12+1,s13_13=>bif (decide (((s13_13:Nat):Int)<((a0.l.length:Nat):Int))) then((a0.l[s13_13]?).bind fun x20=>(a1.l[s13_13]?).bind fun x21=>bif (!decide (x20=x21)) then(some false) else((Z124_l12 a0 a1 n12) (s13_13+1))) else(Z124_j8   )
def Z124 (a0:(Sl Int)) (a1:(Sl Int)):Option Bool:=bif (!decide (((a0.l.length:Nat):Int)=((a1.l.length:Nat):Int))) then(some false) else(Z124_l12 a0 a1 (a0.l.length+1) 0)
theorem Z124_walk {a0 a1:Sl Int}{w0 w1:Option Nat}{r:Bool}(hE:Z124 a0 a1=some r) (H:Heap) :ACalls Tryz.prog 205 [.d (Sl.d 1 (intE .i64) w0 a0),.d (Sl.d 1 (intE .i64) w1 a1)] H fun v h'=>v=.a (.d (.bool r))/\h'=H:=by
 unfold Z124 at hE;refine ACalls.oW 26 [.tmp 4] Tryz.call205 Tryz.func205 ?_;refine seqR (S As (nil ?_));refine seqK fun K2 hK2=>?_;refine seqR (S Mv ?_);refine sLen (f:=(intE .i64)) (s:=a0) (TK rfl) rfl rfl rfl rfl fun hL4=>?_;refine S Mv ?_;refine sLen (f:=(intE .i64)) (s:=a1) (TK rfl) rfl rfl rfl rfl fun hL5=>?_;refine S BI (nil ?_);refine cE hE (fun hc6 hE=>?_) (fun hc6 hE=>?_)
 ·refine seqR (S As (nil ?_));exact rt hE
 refine sk hK2 ?_;clear hK2 K2;refine seqJH KeepsT.nil (fun(z:Unit)=>[]) (fun z=>H) (fun z=>Z124_j8 =some r) ?_ ?_
 ·intro K8 hK8;refine seqR (S Mv ?_);refine sLen (f:=(intE .i64)) (s:=a0) (TK rfl) rfl rfl rfl rfl fun hL11=>?_;refine S Mv (nil ?_);refine block ?_;refine loopH (TA 0 (TA 1 (TA 12 KeepsT.nil))) (fun(z:Nat×Nat)=>[(13,.a (.d (.int .i64 ((z.2:Nat):Int))))]) (fun z=>H) (fun z=>z.1) (fun z=>Z124_l12 a0 a1 z.1 z.2=some r) ((a0.l.length+1),0) hE Weak.toA ?_;rintro ⟨n12,s13_13⟩ hE K12 hK12;try dsimp only at hE
  cases n12 with
  | zero=>cases hE
  | succ n12 =>
    rw [Z124_l12] at hE;refine seqR (S BI (nil ?_));refine seqK fun K15 hK15=>?_;refine cE hE (fun hc16 hE=>?_) (fun hc16 hE=>?_)
    ·try dsimp only at hc16
     have hf16:=of_decide_eq_true hc16;refine sk hK15 ?_;clear hK15 K15;refine seqK fun K17 hK17=>?_;refine block ?_;refine seqR (S Mv (S As (nil ?_)));refine AWp.seqD (Sd Mv (Sd Mv ?_));obtain⟨x20,gx20,hE⟩:=bO hE;refine Sd (ix (intE .i64) s13_13 gx20) ?_;refine Sd Ld (Sd Mv (Sd Mv ?_));obtain⟨x21,gx21,hE⟩:=bO hE;refine Sd (ix (intE .i64) s13_13 gx21) ?_;refine Sd Ld (Sd BI ?_);refine DOps.nil (by decide +kernel) ?_
     refine cE hE (fun hc22 hE=>?_) (fun hc22 hE=>?_)
     ·refine seqR (S As (nil ?_));exact rt hE
     refine sk hK17 ?_;clear hK17 K17;refine region ?_;refine SI ?_;refine S Mv (nil ?_);exact hK12 _ (n12,(s13_13+1)) Weak.toA hE (Nat.lt_succ_self _)
    refine AWp.exit ?_;exact hK8 _ () Weak.toA hE
 rintro _ hE;try dsimp only at hE
 unfold Z124_j8 at hE;refine seqR (S As (nil ?_));exact rt hE
def Z136 (a0:TRef) (a1:TRef):Option Bool:=guardO (((a0.FName==a1.FName))) (Z124 a0.FWraps a1.FWraps) false fun x3=>some (((a0.FName==a1.FName))&&x3)
theorem Z136_walk {a0 a1:TRef}{r:Bool}(hE:Z136 a0 a1=some r) (H:Heap) :ACalls Tryz.prog 140 [.agg (TRef.c a0),.agg (TRef.c a1)] H fun v h'=>v=.a (.d (.bool r))/\h'=H:=by
 unfold Z136 at hE;refine ACalls.oW 17 [.tmp 4] Tryz.call140 Tryz.func140 ?_;refine seqR (S BX (S BX (S As (nil ?_))));refine seqR (S Fv (S Ld (S Fv (S Ld (S BS (S Mv (G0 Fv ?_)))))));refine G1 11 rfl Ld ?_;refine G0 Fv ?_;refine G1 13 rfl Ld ?_;obtain⟨x3,gx3,hE⟩:=gO hE;refine Gc2 12 14 rfl rfl rfl rfl rfl rfl (fun hC=>Z124_walk (gx3 hC)) ?_;refine S PA (S As (nil ?_));exact rt hE
end Go.Proofs

namespace Go.Proofs
open Go Go.Ab
open AOps Cert AWp Keeps KeepsT
variable {lou:Lou}
def Tryz.lay253_ren:Go.Shelf.Ren:=⟨fun|240=>253|276=>309|n=>n,fun|0=>0|4=>4|9=>9|20=>20|70=>250|72=>253|164=>339|37=>251|n=>n,fun|n=>n⟩
theorem Tryz.lay253:Go.Proofs.Lays.n240 Tryz.prog Tryz.lay253_ren:={
 mixed:=by kernel_rfl
 f240:=Tryz.func253.trans (congrArg some (by kernel_rfl))
 f276:=Tryz.func309.trans (congrArg some (by kernel_rfl))
 t0:=Tryz.underlying0
 a0:=Tryz.isAgg0
 z0:=Tryz.sizeOf0
 v0:=Tryz.zeroValue0
 t4:=Tryz.underlying4
 a4:=Tryz.isAgg4
 z4:=Tryz.sizeOf4
 v4:=Tryz.zeroValue4
 t9:=Tryz.underlying9
 a9:=Tryz.isAgg9
 z9:=Tryz.sizeOf9
 v9:=Tryz.zeroValue9
 t20:=Tryz.underlying20
 a20:=Tryz.isAgg20
 z20:=Tryz.sizeOf20
 v20:=Tryz.zeroValue20
 t70:=Tryz.underlying250
 a70:=Tryz.isAgg250
 z70:=Tryz.sizeOf250
 v70:=Tryz.zeroValue250
 t72:=Tryz.underlying253
 a72:=Tryz.isAgg253
 z72:=Tryz.sizeOf253
 v72:=Tryz.zeroValue253
 t164:=Tryz.underlying339
 a164:=Tryz.isAgg339
 z164:=Tryz.sizeOf339
 v164:=Tryz.zeroValue339 }
def Z130 (a0:Strings_Builder):Option Strings_Builder:=some ⟨true,a0.Fbuf⟩
def Z130_q (a0:Strings_Builder):Option Strings_Builder:=some ⟨true,a0.Fbuf⟩
theorem Z130_eq (a0:Strings_Builder):Z130 a0=Z130_q a0:=rfl
theorem Z130_walk {a0:Strings_Builder}{c0 c0_1:Nat}{r:Strings_Builder}(hE:Z130 a0=some r) (H:Heap) (hc0:H c0=some (.tcells 253 (Strings_Builder.cg c0 (some c0_1) a0))) (ht0_1:H c0_1=some (.tok 1 a0.Fbuf.l.length (some 5))):ACalls Tryz.prog 253 [.d (.ptr c0 0)] H fun v h'=>v=.tup []/\h'=((H.set c0_1 (some (.tok 1 r.Fbuf.l.length (some 5)))).set c0 (some (.tcells 253 (Strings_Builder.cg c0 (some c0_1) r)))):=by
 obtain rfl:=Option.some.inj hE;refine(bld_check (T:=253) Tryz.lay253 ⟨by kernel_rfl,by kernel_rfl⟩ rfl rfl hc0).mono fun v h' e=>⟨e.1, ?_⟩;rw [e.2];show _=Heap.set (Heap.set H c0_1 _) _ _;rw [Heap.set_self H c0_1 _ ht0_1]
def Z128 (a0:Strings_Builder) (a1:Int):Option (Unit×Strings_Builder):=(Z130 a0).bind fun x3=>(appC 1 x3.Fbuf (⟨false,[a1]⟩:Sl Int)).bind fun x5=>some ((),(Strings_Builder.mk x3.Faddr x5))
theorem Z128_walk {a0:Strings_Builder}{a1:Int}{c0 c0_1:Nat}{r:Unit×Strings_Builder}(hE:Z128 a0 a1=some r) (H:Heap) (hc0:H c0=some (.tcells 253 (Strings_Builder.cg c0 (some c0_1) a0))) (ht0_1:H c0_1=some (.tok 1 a0.Fbuf.l.length (some 5))):ACalls Tryz.prog 206 [.d (.ptr c0 0),.d (.int .u8 a1)] H fun v h'=>v=.a (.d (.nilIface))/\h'=((H.set c0_1 (some (.tok 1 r.2.Fbuf.l.length (some 5)))).set c0 (some (.tcells 253 (Strings_Builder.cg c0 (some c0_1) r.2)))):=by
 unfold Z128 at hE;refine ACalls.oW 17 [.tmp 4] Tryz.call206 Tryz.func206 ?_;have ne_c0_c0_1:c0≠c0_1:=fun e_=>by subst e_; simp_all
 refine AWp.heqA (h':=((H.set c0_1 (some (.tok 1 a0.Fbuf.l.length (some 5)))).set c0 (some (.tcells 253 (Strings_Builder.cg c0 (some c0_1) a0))))) (by funext n_; simp only [Heap.set]; (repeat' split)<;>simp_all) ?_;refine seqR (S As (nil ?_));refine seqR (S Mv ?_);obtain⟨x3,gx3,hE⟩:=bO hE;refine sH (callH rfl rfl (Z130_walk gx3 _ hpG hpG)) rfl ?_;refine hq ((H.set c0_1 (some (.tok 1 x3.Fbuf.l.length (some 5)))).set c0 (some (.tcells 253 (Strings_Builder.cg c0 (some c0_1) x3)))) ?_
 refine nil ?_;refine seqR (S Mv (S Mv (S NP ?_)));refine s0 (fieldP (TK rfl) rfl rfl (TK rfl) rfl rfl) rfl ?_;refine s0 (loadPT (TK rfl) rfl rfl hpG rfl) rfl ?_;refine S Mv (S BV ?_);obtain⟨x5,gx5,hE⟩:=bO hE;refine sH (appMT (TK rfl) rfl (TK rfl) (TK rfl) ⟨_,rfl⟩ rfl rfl (by decide) rfl rfl rfl rfl hpG rfl rfl gx5) rfl ?_;refine hq ((H.set c0_1 (some (.tok 1 x5.l.length (some 5)))).set c0 (some (.tcells 253 (Strings_Builder.cg c0 (some c0_1) x3)))) ?_
 refine S NP ?_;refine s0 (fieldP (TK rfl) rfl rfl (TK rfl) rfl rfl) rfl ?_;refine sHn (storePT (TK rfl) rfl rfl hpG rfl (by repeat (first|exact SetAt.zero|apply SetAt.succ))) rfl rfl ?_;refine hq ((H.set c0_1 (some (.tok 1 x5.l.length (some 5)))).set c0 (some (.tcells 253 (Strings_Builder.cg c0 (some c0_1) (Strings_Builder.mk x3.Faddr x5))))) ?_;refine nil ?_;refine seqR (S As (nil ?_));exact rt hE
def Tryz.lay207_ren:Go.Shelf.Ren:=⟨fun|169=>207|n=>n,fun|70=>250|9=>9|0=>0|72=>253|37=>251|127=>291|3=>3|5=>5|n=>n,fun|n=>n⟩
theorem Tryz.lay207:Go.Proofs.Lays.n169 Tryz.prog Tryz.lay207_ren:={
 mixed:=by kernel_rfl
 f169:=Tryz.func207.trans (congrArg some (by kernel_rfl))
 t0:=Tryz.underlying0
 a0:=Tryz.isAgg0
 z0:=Tryz.sizeOf0
 v0:=Tryz.zeroValue0
 t3:=Tryz.underlying3
 a3:=Tryz.isAgg3
 z3:=Tryz.sizeOf3
 v3:=Tryz.zeroValue3
 t9:=Tryz.underlying9
 a9:=Tryz.isAgg9
 z9:=Tryz.sizeOf9
 v9:=Tryz.zeroValue9
 t37:=Tryz.underlying251
 a37:=Tryz.isAgg251
 z37:=Tryz.sizeOf251
 v37:=Tryz.zeroValue251
 t70:=Tryz.underlying250
 a70:=Tryz.isAgg250
 z70:=Tryz.sizeOf250
 v70:=Tryz.zeroValue250
 t72:=Tryz.underlying253
 a72:=Tryz.isAgg253
 z72:=Tryz.sizeOf253
 v72:=Tryz.zeroValue253
 t127:=Tryz.underlying291
 a127:=Tryz.isAgg291
 z127:=Tryz.sizeOf291
 v127:=Tryz.zeroValue291 }
theorem Tryz.extra207:Builder.Extra Tryz.prog Tryz.lay207_ren where
 sizeBuilder:=by kernel_rfl
 liesBuilder:=by kernel_rfl
 t5:=Tryz.underlying5
 a5:=Tryz.isAgg5
 z5:=Tryz.sizeOf5
 v5:=Tryz.zeroValue5
 infoByte:=by kernel_rfl
 cellsByte:=by kernel_rfl
 sizeByte:=by kernel_rfl
 neB5:=by decide
def Z127 (a0:Strings_Builder):Option Bs:=bldStr a0
def Z127_q (a0:Strings_Builder):Option Bs:=bldStr a0
theorem Z127_eq (a0:Strings_Builder):Z127 a0=Z127_q a0:=rfl
theorem Z127_walk {a0:Strings_Builder}{c0 t0:Nat}{r:Bs}(hE:Z127 a0=some r) (H:Heap) (hc0:H c0=some (.tcells 253 (Strings_Builder.cg c0 (some t0) a0))) (ht0:H t0=some (.tok 1 a0.Fbuf.l.length (some 5))):ACalls Tryz.prog 207 [.d (.ptr c0 0)] H fun v h'=>v=.a (.d (.str r))/\h'=(H.set t0 none).set c0 none:=bld_string Tryz.lay207 Tryz.extra207 rfl rfl rfl hE hc0 ht0
def Z135_j7 (a0:TRef)  (y8_id3_3:Strings_Builder) (y9_id4_5:Strings_Builder):Option Bs:=(Z127 y8_id3_3).bind fun x11=>(catC x11 a0.FName).bind fun x12=>(Z127 y9_id4_5).bind fun x13=>(catC x12 x13).bind fun x14=>some x14
def Z135_j25 (s5_19:Int) (k_next_18:Int->Strings_Builder->Strings_Builder->Option Bs) (y26_id3_3:Strings_Builder) (y27_id4_5:Strings_Builder):Option Bs:=(subC s5_19 (1:Int)).bind fun x28=>k_next_18 x28 y26_id3_3 y27_id4_5
def Z135_l18 (a0:TRef) :Nat->Int->Strings_Builder->Strings_Builder->Option Bs
 | 0,_,_,_=>none
 | n18+1,s5_19,y20_id3_3,y21_id4_5=>bif (decide ((0:Int)<=s5_19)) then((idxC a0.FWraps.l s5_19).bind fun x30=>bif (decide (x30=(1:Int))) then((Z128 y21_id4_5 (33:Int)).bind fun x32=>Z135_j25 s5_19 ((Z135_l18 a0 n18)) y20_id3_3 x32.2) else((Z128 y20_id3_3 (91:Int)).bind fun x34=>(Z128 y21_id4_5 (93:Int)).bind fun x35=>Z135_j25 s5_19 ((Z135_l18 a0 n18)) x34.2 x35.2)) else(Z135_j7 a0  y20_id3_3 y21_id4_5)
def Z135 (a0:TRef):Option Bs:=(subC ((a0.FWraps.l.length:Nat):Int) (1:Int)).bind fun x17=>Z135_l18 a0 F0 x17 Strings_Builder.zero Strings_Builder.zero
theorem Z135_walk {a0:TRef}{r:Bs}(hE:Z135 a0=some r) (H:Heap) :ACalls Tryz.prog 141 [.agg (TRef.c a0)] H fun v h'=>v=.a (.d (.str r))/\h'=H:=by
 unfold Z135 at hE;refine ACalls.oW 29 [.tmp 2] Tryz.call141 Tryz.func141 ?_;refine seqR (S BX (S As (nil ?_)));refine seqR ?_;refine AOps.tokE 1 5 fun tk3_4 htk3_4=>?_;refine sE (StepE.allocT (TK rfl) rfl) rfl (fun _ _ _ ⟨id3_3,hid3_3,e1,e2,e3⟩=>?_); subst e1 e2 e3;obtain⟨ne_id3_3_tk3_4,hid3_3⟩:=Heap.set_fresh hid3_3;refine AOps.recellT id3_3 _ hpG (fun j w cs hh hx=>tok_cell 1 1 1 hh (t:=tk3_4) hpG hx rfl) ?_
 refine hq ((H.set tk3_4 (some (.tok 1 0 (some 5)))).set id3_3 (some (.tcells 253 (Strings_Builder.cg id3_3 (some tk3_4) Strings_Builder.zero)))) ?_;refine AOps.tokE 1 5 fun tk4_6 htk4_6=>?_;obtain⟨ne_tk4_6_id3_3,htk4_6⟩:=Heap.set_fresh htk4_6;obtain⟨ne_tk4_6_tk3_4,htk4_6⟩:=Heap.set_fresh htk4_6;refine sE (StepE.allocT (TK rfl) rfl) rfl (fun _ _ _ ⟨id4_5,hid4_5,e1,e2,e3⟩=>?_); subst e1 e2 e3;obtain⟨ne_id4_5_tk4_6,hid4_5⟩:=Heap.set_fresh hid4_5
 obtain⟨ne_id4_5_id3_3,hid4_5⟩:=Heap.set_fresh hid4_5;obtain⟨ne_id4_5_tk3_4,hid4_5⟩:=Heap.set_fresh hid4_5;refine AOps.recellT id4_5 _ hpG (fun j w cs hh hx=>tok_cell 1 1 1 hh (t:=tk4_6) hpG hx rfl) ?_;refine hq ((((H.set tk3_4 (some (.tok 1 0 (some 5)))).set id3_3 (some (.tcells 253 (Strings_Builder.cg id3_3 (some tk3_4) Strings_Builder.zero)))).set tk4_6 (some (.tok 1 0 (some 5)))).set id4_5 (some (.tcells 253 (Strings_Builder.cg id4_5 (some tk4_6) Strings_Builder.zero)))) ?_
 refine nil ?_;refine seqJH (TA 1 (TA 3 (TA 4 KeepsT.nil))) (fun(z:Strings_Builder×Strings_Builder)=>[]) (fun z=>((((H.set tk3_4 (some (.tok 1 z.1.Fbuf.l.length (some 5)))).set id3_3 (some (.tcells 253 (Strings_Builder.cg id3_3 (some tk3_4) z.1)))).set tk4_6 (some (.tok 1 z.2.Fbuf.l.length (some 5)))).set id4_5 (some (.tcells 253 (Strings_Builder.cg id4_5 (some tk4_6) z.2))))) (fun z=>Z135_j7 a0 z.1 z.2=some r) ?_ ?_
 ·intro K7 hK7;refine seqR (S Fv (S Ld ?_));refine sLen (f:=(intE .i64)) (s:=a0.FWraps) (TK rfl) rfl rfl rfl rfl fun hL16=>?_;obtain⟨x17,gx17,hE⟩:=bO hE;refine s0 (subM rfl rfl gx17) rfl ?_;refine S As (nil ?_);refine block ?_;refine loopH (TA 1 (TA 3 (TA 4 KeepsT.nil))) (fun(z:Nat×Int×Strings_Builder×Strings_Builder)=>[(5,.a (.d (.int .i64 z.2.1)))]) (fun z=>((((H.set tk3_4 (some (.tok 1 z.2.2.1.Fbuf.l.length (some 5)))).set id3_3 (some (.tcells 253 (Strings_Builder.cg id3_3 (some tk3_4) z.2.2.1)))).set tk4_6 (some (.tok 1 z.2.2.2.Fbuf.l.length (some 5)))).set id4_5 (some (.tcells 253 (Strings_Builder.cg id4_5 (some tk4_6) z.2.2.2))))) (fun z=>z.1) (fun z=>Z135_l18 a0 z.1 z.2.1 z.2.2.1 z.2.2.2=some r) (F0,x17,Strings_Builder.zero,Strings_Builder.zero) hE Weak.toA ?_
  rintro ⟨n18,s5_19,y20_id3_3,y21_id4_5⟩ hE K18 hK18;try dsimp only at hE
  cases n18 with
  | zero=>cases hE
  | succ n18 =>
    rw [Z135_l18] at hE;refine seqK fun K22 hK22=>?_;refine seqR (S Mv (S BI (nil ?_)));refine cE hE (fun hc24 hE=>?_) (fun hc24 hE=>?_)
    ·refine sk hK22 ?_;clear hK22 K22;refine seqJH (TA 1 (TA 3 (TA 4 (TA 5 KeepsT.nil)))) (fun(z:Strings_Builder×Strings_Builder)=>[]) (fun z=>((((H.set tk3_4 (some (.tok 1 z.1.Fbuf.l.length (some 5)))).set id3_3 (some (.tcells 253 (Strings_Builder.cg id3_3 (some tk3_4) z.1)))).set tk4_6 (some (.tok 1 z.2.Fbuf.l.length (some 5)))).set id4_5 (some (.tcells 253 (Strings_Builder.cg id4_5 (some tk4_6) z.2))))) (fun z=>Z135_j25 s5_19 ((Z135_l18 a0 n18)) z.1 z.2=some r) ?_ ?_
     ·intro K25 hK25;refine block ?_;refine seqR (S Fv (S Ld (S Mv ?_)));obtain⟨x30,gx30,hE⟩:=bO hE;refine s0 (idxM (f:=(intE .i64)) (TK rfl) rfl (TK rfl) rfl rfl rfl gx30) rfl ?_;refine S Ld (S BI (nil ?_));refine cE hE (fun hc31 hE=>?_) (fun hc31 hE=>?_)
      ·refine region ?_;obtain⟨x32,gx32,hE⟩:=bO hE;refine sH (callH rfl rfl (Z128_walk gx32 _ hpG hpG)) rfl ?_;refine hq ((((H.set tk3_4 (some (.tok 1 y20_id3_3.Fbuf.l.length (some 5)))).set id3_3 (some (.tcells 253 (Strings_Builder.cg id3_3 (some tk3_4) y20_id3_3)))).set tk4_6 (some (.tok 1 x32.2.Fbuf.l.length (some 5)))).set id4_5 (some (.tcells 253 (Strings_Builder.cg id4_5 (some tk4_6) x32.2)))) ?_
       refine nil ?_;exact hK25 _ (y20_id3_3,x32.2) Weak.toA hE
      refine seqR ?_;obtain⟨x34,gx34,hE⟩:=bO hE;refine sH (callH rfl rfl (Z128_walk gx34 _ hpG hpG)) rfl ?_;refine hq ((((H.set tk3_4 (some (.tok 1 x34.2.Fbuf.l.length (some 5)))).set id3_3 (some (.tcells 253 (Strings_Builder.cg id3_3 (some tk3_4) x34.2)))).set tk4_6 (some (.tok 1 y21_id4_5.Fbuf.l.length (some 5)))).set id4_5 (some (.tcells 253 (Strings_Builder.cg id4_5 (some tk4_6) y21_id4_5)))) ?_
      refine nil ?_;refine region ?_;obtain⟨x35,gx35,hE⟩:=bO hE;refine sH (callH rfl rfl (Z128_walk gx35 _ hpG hpG)) rfl ?_;refine hq ((((H.set tk3_4 (some (.tok 1 x34.2.Fbuf.l.length (some 5)))).set id3_3 (some (.tcells 253 (Strings_Builder.cg id3_3 (some tk3_4) x34.2)))).set tk4_6 (some (.tok 1 x35.2.Fbuf.l.length (some 5)))).set id4_5 (some (.tcells 253 (Strings_Builder.cg id4_5 (some tk4_6) x35.2)))) ?_
      refine nil ?_;exact hK25 _ (x34.2,x35.2) Weak.toA hE
     rintro ⟨y26_id3_3,y27_id4_5⟩ hE;try dsimp only at hE
     unfold Z135_j25 at hE;refine region ?_;refine S Mv ?_;obtain⟨x28,gx28,hE⟩:=bO hE;refine s0 (subM rfl rfl gx28) rfl ?_;refine S As (nil ?_);exact hK18 _ (n18,x28,y26_id3_3,y27_id4_5) Weak.toA hE (Nat.lt_succ_self _)
    refine AWp.exit ?_;exact hK7 _ (y20_id3_3,y21_id4_5) Weak.toA hE
 rintro ⟨y8_id3_3,y9_id4_5⟩ hE;try dsimp only at hE
 unfold Z135_j7 at hE;refine AWp.seqD ?_;obtain⟨x11,gx11,hE⟩:=bO hE;refine DOps.sH (callH rfl rfl (Z127_walk gx11 _ hpG hpG)) rfl ?_;refine DOps.Dh ((H.set tk4_6 (some (.tok 1 y9_id4_5.Fbuf.l.length (some 5)))).set id4_5 (some (.tcells 253 (Strings_Builder.cg id4_5 (some tk4_6) y9_id4_5)))) ?_;refine Sd Fv (Sd Ld ?_);obtain⟨x12,gx12,hE⟩:=bO hE;refine DOps.s0 (catM rfl rfl gx12) rfl ?_;obtain⟨x13,gx13,hE⟩:=bO hE
 refine DOps.sH (callH rfl rfl (Z127_walk gx13 _ hpG hpG)) rfl ?_;refine DOps.Dh H ?_;obtain⟨x14,gx14,hE⟩:=bO hE;refine DOps.s0 (catM rfl rfl gx14) rfl ?_;refine Sd As ?_;refine DOps.nil (by decide +kernel) ?_;exact rt hE
def Tryz.lay200_ren:Go.Shelf.Ren:=⟨fun|171=>200|243=>239|246=>294|283=>334|284=>335|285=>336|286=>337|129=>293|317=>354|318=>355|319=>356|320=>357|337=>365|338=>366|n=>n,fun|3=>3|9=>9|2=>2|4=>4|171=>361|0=>0|53=>323|37=>251|5=>5|173=>363|212=>377|51=>321|20=>20|213=>378|46=>280|232=>391|233=>392|n=>n,fun|17=>1|18=>4|19=>5|n=>n⟩
theorem Tryz.lay200:Go.Proofs.LaysM.n171 Tryz.prog Tryz.lay200_ren:={
 mixed:=by kernel_rfl
 f129:=Tryz.func293.trans (congrArg some (by kernel_rfl))
 f171:=Tryz.func200.trans (congrArg some (by kernel_rfl))
 f243:=Tryz.func239.trans (congrArg some (by kernel_rfl))
 f246:=Tryz.func294.trans (congrArg some (by kernel_rfl))
 f283:=Tryz.func334.trans (congrArg some (by kernel_rfl))
 f284:=Tryz.func335.trans (congrArg some (by kernel_rfl))
 f285:=Tryz.func336.trans (congrArg some (by kernel_rfl))
 f286:=Tryz.func337.trans (congrArg some (by kernel_rfl))
 f317:=Tryz.func354.trans (congrArg some (by kernel_rfl))
 f318:=Tryz.func355.trans (congrArg some (by kernel_rfl))
 f319:=Tryz.func356.trans (congrArg some (by kernel_rfl))
 f320:=Tryz.func357.trans (congrArg some (by kernel_rfl))
 f337:=Tryz.func365.trans (congrArg some (by kernel_rfl))
 f338:=Tryz.func366.trans (congrArg some (by kernel_rfl))
 t0:=Tryz.underlying0
 a0:=Tryz.isAgg0
 z0:=Tryz.sizeOf0
 v0:=Tryz.zeroValue0
 t2:=Tryz.underlying2
 a2:=Tryz.isAgg2
 z2:=Tryz.sizeOf2
 v2:=Tryz.zeroValue2
 t3:=Tryz.underlying3
 a3:=Tryz.isAgg3
 z3:=Tryz.sizeOf3
 v3:=Tryz.zeroValue3
 t4:=Tryz.underlying4
 a4:=Tryz.isAgg4
 z4:=Tryz.sizeOf4
 v4:=Tryz.zeroValue4
 t5:=Tryz.underlying5
 a5:=Tryz.isAgg5
 z5:=Tryz.sizeOf5
 v5:=Tryz.zeroValue5
 t9:=Tryz.underlying9
 a9:=Tryz.isAgg9
 z9:=Tryz.sizeOf9
 v9:=Tryz.zeroValue9
 t20:=Tryz.underlying20
 a20:=Tryz.isAgg20
 z20:=Tryz.sizeOf20
 v20:=Tryz.zeroValue20
 t37:=Tryz.underlying251
 a37:=Tryz.isAgg251
 z37:=Tryz.sizeOf251
 v37:=Tryz.zeroValue251
 t46:=Tryz.underlying280
 a46:=Tryz.isAgg280
 z46:=Tryz.sizeOf280
 v46:=Tryz.zeroValue280
 t51:=Tryz.underlying321
 a51:=Tryz.isAgg321
 z51:=Tryz.sizeOf321
 v51:=Tryz.zeroValue321
 t53:=Tryz.underlying323
 a53:=Tryz.isAgg323
 z53:=Tryz.sizeOf323
 v53:=Tryz.zeroValue323
 t171:=Tryz.underlying361
 a171:=Tryz.isAgg361
 z171:=Tryz.sizeOf361
 v171:=Tryz.zeroValue361
 t173:=Tryz.underlying363
 a173:=Tryz.isAgg363
 z173:=Tryz.sizeOf363
 v173:=Tryz.zeroValue363
 t212:=Tryz.underlying377
 a212:=Tryz.isAgg377
 z212:=Tryz.sizeOf377
 v212:=Tryz.zeroValue377
 t213:=Tryz.underlying378
 a213:=Tryz.isAgg378
 z213:=Tryz.sizeOf378
 t232:=Tryz.underlying391
 a232:=Tryz.isAgg391
 z232:=Tryz.sizeOf391
 v232:=Tryz.zeroValue391
 t233:=Tryz.underlying392
 a233:=Tryz.isAgg392
 z233:=Tryz.sizeOf392
 v233:=Tryz.zeroValue392
 g17:=by kernel_rfl
 g18:=by kernel_rfl
 g19:=by kernel_rfl
 i0:=by kernel_rfl
 i2:=by kernel_rfl
 i3:=by kernel_rfl
 i4:=by kernel_rfl
 i5:=by kernel_rfl
 i9:=by kernel_rfl
 i20:=by kernel_rfl
 i37:=by kernel_rfl
 i46:=by kernel_rfl
 i51:=by kernel_rfl
 i53:=by kernel_rfl
 i171:=by kernel_rfl
 i173:=by kernel_rfl
 i212:=by kernel_rfl
 i232:=by kernel_rfl
 i233:=by kernel_rfl
 m17:=by kernel_rfl
 m18:=by kernel_rfl
 m19:=by kernel_rfl }
def Z126 (n:Int):Option Bs:=if -9223372036854775808<=n/\n<=9223372036854775807/\(Lib.itoa n).length<=maxS then some (Lib.itoa n) else none
def Z126_q (n:Int):Option Bs:=Z126 n
theorem Z126_eq (n:Int):Z126 n=Z126_q n:=rfl
theorem Z126_walk {a0:Int}{oT:Ab.Obj}{gT:Nat}{r:Bs}(hE:Z126 a0=some r) (H:Heap) (hgT:H gT=some oT) (hoT:IsTab Tryz.prog oT):ACalls Tryz.prog 200 [.d (.int .i64 a0)] H fun v h'=>v=.a (.d (.str r))/\h'=H:=by
 unfold Z126 at hE
 split at hE
 ·rename_i h
  obtain rfl:=Option.some.inj hE;exact itoa_calls Tryz.lay200 h.1 h.2.1 rfl hgT hoT h.2.2
 cases hE
def Z133 (a0:Int):Option Bs:=(Z126 a0).bind fun x3=>some x3
theorem Z133_walk {a0:Int}{oT:Ab.Obj}{gT:Nat}{r:Bs}(hE:Z133 a0=some r) (H:Heap) (hgT:H gT=some oT) (hoT:IsTab Tryz.prog oT):ACalls Tryz.prog 134 [.d (.int .i64 a0)] H fun v h'=>v=.a (.d (.str r))/\h'=H:=by
 unfold Z133 at hE;refine ACalls.oW 5 [.tmp 2] Tryz.call134 Tryz.func134 ?_;refine seqR (S As (nil ?_));refine seqR (S Mv ?_);obtain⟨x3,gx3,hE⟩:=bO hE;refine s0 (callR rfl rfl (Z126_walk (gT:=gT) (oT:=oT) gx3 _ hpG (by assumption))) rfl ?_;refine S As (nil ?_);exact rt hE
def Z129 (a0:Strings_Builder) (a1:Bs):Option (Int×Unit×Strings_Builder):=(Z130 a0).bind fun x3=>(appC 1 x3.Fbuf (strSl a1)).bind fun x5=>some (((a1.length:Nat):Int),(),(Strings_Builder.mk x3.Faddr x5))
theorem Z129_walk {a0:Strings_Builder}{a1:Bs}{c0 c0_1:Nat}{r:Int×Unit×Strings_Builder}(hE:Z129 a0 a1=some r) (H:Heap) (hc0:H c0=some (.tcells 253 (Strings_Builder.cg c0 (some c0_1) a0))) (ht0_1:H c0_1=some (.tok 1 a0.Fbuf.l.length (some 5))):ACalls Tryz.prog 312 [.d (.ptr c0 0),.d (.str a1)] H fun v h'=>v=.tup [.d (.int .i64 r.1),.d (.nilIface)]/\h'=((H.set c0_1 (some (.tok 1 r.2.2.Fbuf.l.length (some 5)))).set c0 (some (.tcells 253 (Strings_Builder.cg c0 (some c0_1) r.2.2)))):=by
 unfold Z129 at hE;refine ACalls.oW 19 [.tmp 4,.tmp 5] Tryz.call312 Tryz.func312 ?_;have ne_c0_c0_1:c0≠c0_1:=fun e_=>by subst e_; simp_all
 refine AWp.heqA (h':=((H.set c0_1 (some (.tok 1 a0.Fbuf.l.length (some 5)))).set c0 (some (.tcells 253 (Strings_Builder.cg c0 (some c0_1) a0))))) (by funext n_; simp only [Heap.set]; (repeat' split)<;>simp_all) ?_;refine seqR (S As (S As (nil ?_)));refine seqR (S Mv ?_);obtain⟨x3,gx3,hE⟩:=bO hE;refine sH (callH rfl rfl (Z130_walk gx3 _ hpG hpG)) rfl ?_;refine hq ((H.set c0_1 (some (.tok 1 x3.Fbuf.l.length (some 5)))).set c0 (some (.tcells 253 (Strings_Builder.cg c0 (some c0_1) x3)))) ?_
 refine nil ?_;refine seqR (S Mv (S Mv (S NP ?_)));refine s0 (fieldP (TK rfl) rfl rfl (TK rfl) rfl rfl) rfl ?_;refine s0 (loadPT (TK rfl) rfl rfl hpG rfl) rfl ?_;refine S Mv ?_;obtain⟨x5,gx5,hE⟩:=bO hE;refine sH (appST (TK rfl) rfl (TK rfl) (TK rfl) rfl rfl rfl rfl rfl rfl rfl hpG rfl rfl gx5) rfl ?_;refine hq ((H.set c0_1 (some (.tok 1 x5.l.length (some 5)))).set c0 (some (.tcells 253 (Strings_Builder.cg c0 (some c0_1) x3)))) ?_
 refine S NP ?_;refine s0 (fieldP (TK rfl) rfl rfl (TK rfl) rfl rfl) rfl ?_;refine sHn (storePT (TK rfl) rfl rfl hpG rfl (by repeat (first|exact SetAt.zero|apply SetAt.succ))) rfl rfl ?_;refine hq ((H.set c0_1 (some (.tok 1 x5.l.length (some 5)))).set c0 (some (.tcells 253 (Strings_Builder.cg c0 (some c0_1) (Strings_Builder.mk x3.Faddr x5))))) ?_;refine nil ?_;refine seqR (S Mv ?_);refine sLenS (TK rfl) rfl rfl rfl rfl fun hL7=>?_
 refine S As (S As (nil ?_));exact rt hE
def Z134_j7  (y8_id3_3:Strings_Builder):Option Bs:=(Z128 y8_id3_3 (34:Int)).bind fun x10=>(Z127 x10.2).bind fun x12=>some x12
def Z134_j21 (s9_16:Nat) (k_next_15:Nat->Strings_Builder->Option Bs) (y22_id3_3:Strings_Builder):Option Bs:=k_next_15 (s9_16+1) y22_id3_3
def Z134_j27 (s9_16:Nat) (y17_id3_3:Strings_Builder) (x25:UInt8) (k_next_15:Nat->Strings_Builder->Option Bs) (s33_28:Bool):Option Bs:=bif s33_28 then((Z128 y17_id3_3 (92:Int)).bind fun x31=>(Z128 x31.2 ((x25.toNat:Nat):Int)).bind fun x32=>Z134_j21 s9_16 k_next_15 x32.2) else(bif (decide (((x25.toNat:Nat):Int)=(10:Int))) then((Z129 y17_id3_3 ([92,110]:Bs)).bind fun x35=>Z134_j21 s9_16 k_next_15 x35.2.2) else(bif (decide (((x25.toNat:Nat):Int)=(13:Int))) then((Z129 y17_id3_3 ([92,114]:Bs)).bind fun x38=>Z134_j21 s9_16 k_next_15 x38.2.2) else(bif (decide (((x25.toNat:Nat):Int)=(9:Int))) then((Z129 y17_id3_3 ([92,116]:Bs)).bind fun x41=>Z134_j21 s9_16 k_next_15 x41.2.2) else(bif ((decide ((32:Int)<=((x25.toNat:Nat):Int)))&&(decide (((x25.toNat:Nat):Int)<=(126:Int)))) then((Z128 y17_id3_3 ((x25.toNat:Nat):Int)).bind fun x46=>Z134_j21 s9_16 k_next_15 x46.2) else((Z129 y17_id3_3 ([92,117,48,48]:Bs)).bind fun x48=>(idxC ([48,49,50,51,52,53,54,55,56,57,97,98,99,100,101,102]:Bs) (Int.fdiv ((x25.toNat:Nat):Int) (2 ^ (min (Int.toNat 4) (IntKind.bits .u8))))).bind fun x50=>(Z128 x48.2.2 ((x50.toNat:Nat):Int)).bind fun x51=>(idxC ([48,49,50,51,52,53,54,55,56,57,97,98,99,100,101,102]:Bs) (IntKind.wrap .u8 ((BitVec.ofInt (IntKind.bits .u8) ((x25.toNat:Nat):Int) &&& BitVec.ofInt (IntKind.bits .u8) (15:Int)).toNat:Int))).bind fun x52=>(Z128 x51.2 ((x52.toNat:Nat):Int)).bind fun x53=>Z134_j21 s9_16 k_next_15 x53.2)))))
def Z134_l15 (a0:Bs) :Nat->Nat->Strings_Builder->Option Bs
 | 0,_,_=>none
 | n15+1,s9_16,y17_id3_3=>bif (decide (((s9_16:Nat):Int)<((a0.length:Nat):Int))) then((a0[s9_16]?).bind fun x25=>bif (decide (((x25.toNat:Nat):Int)=(34:Int))) then(Z134_j27 s9_16 y17_id3_3 x25 ((Z134_l15 a0 n15)) (decide (((x25.toNat:Nat):Int)=(34:Int)))) else(Z134_j27 s9_16 y17_id3_3 x25 ((Z134_l15 a0 n15)) (decide (((x25.toNat:Nat):Int)=(92:Int))))) else(Z134_j7   y17_id3_3)
def Z134 (a0:Bs):Option Bs:=(Z128 Strings_Builder.zero (34:Int)).bind fun x6=>Z134_l15 a0 (a0.length+1) 0 x6.2
theorem Z134_walk {a0 r:Bs}(hE:Z134 a0=some r) (H:Heap) :ACalls Tryz.prog 257 [.d (.str a0)] H fun v h'=>v=.a (.d (.str r))/\h'=H:=by
 unfold Z134 at hE;refine ACalls.oW 51 [.tmp 2] Tryz.call257 Tryz.func257 ?_;refine seqR (S As (nil ?_));refine seqR ?_;refine AOps.tokE 1 5 fun tk3_4 htk3_4=>?_;refine sE (StepE.allocT (TK rfl) rfl) rfl (fun _ _ _ ⟨id3_3,hid3_3,e1,e2,e3⟩=>?_); subst e1 e2 e3;obtain⟨ne_id3_3_tk3_4,hid3_3⟩:=Heap.set_fresh hid3_3;refine AOps.recellT id3_3 _ hpG (fun j w cs hh hx=>tok_cell 1 1 1 hh (t:=tk3_4) hpG hx rfl) ?_
 refine hq ((H.set tk3_4 (some (.tok 1 0 (some 5)))).set id3_3 (some (.tcells 253 (Strings_Builder.cg id3_3 (some tk3_4) Strings_Builder.zero)))) ?_;refine nil ?_;refine seqR ?_;obtain⟨x6,gx6,hE⟩:=bO hE;refine sH (callH rfl rfl (Z128_walk gx6 _ hpG hpG)) rfl ?_;refine hq ((H.set tk3_4 (some (.tok 1 x6.2.Fbuf.l.length (some 5)))).set id3_3 (some (.tcells 253 (Strings_Builder.cg id3_3 (some tk3_4) x6.2)))) ?_
 refine nil ?_;refine seqJH (TA 3 KeepsT.nil) (fun(z:Strings_Builder)=>[]) (fun z=>((H.set tk3_4 (some (.tok 1 z.Fbuf.l.length (some 5)))).set id3_3 (some (.tcells 253 (Strings_Builder.cg id3_3 (some tk3_4) z))))) (fun z=>Z134_j7 z=some r) ?_ ?_
 ·intro K7 hK7;refine seqR (S Mv ?_);refine sLenS (TK rfl) rfl rfl rfl rfl fun hL14=>?_;refine S Mv (nil ?_);refine block ?_;refine loopH (TA 0 (TA 3 (TA 8 KeepsT.nil))) (fun(z:Nat×Nat×Strings_Builder)=>[(9,.a (.d (.int .i64 ((z.2.1:Nat):Int))))]) (fun z=>((H.set tk3_4 (some (.tok 1 z.2.2.Fbuf.l.length (some 5)))).set id3_3 (some (.tcells 253 (Strings_Builder.cg id3_3 (some tk3_4) z.2.2))))) (fun z=>z.1) (fun z=>Z134_l15 a0 z.1 z.2.1 z.2.2=some r) ((a0.length+1),0,x6.2) hE Weak.toA ?_
  rintro ⟨n15,s9_16,y17_id3_3⟩ hE K15 hK15;try dsimp only at hE
  cases n15 with
  | zero=>cases hE
  | succ n15 =>
    rw [Z134_l15] at hE;refine seqR (S BI (nil ?_));refine seqK fun K19 hK19=>?_;refine cE hE (fun hc20 hE=>?_) (fun hc20 hE=>?_)
    ·try dsimp only at hc20
     have hf20:=of_decide_eq_true hc20;refine sk hK19 ?_;clear hK19 K19;refine seqJH (TA 0 (TA 3 (TA 8 (TA 9 KeepsT.nil)))) (fun(z:Strings_Builder)=>[]) (fun z=>((H.set tk3_4 (some (.tok 1 z.Fbuf.l.length (some 5)))).set id3_3 (some (.tcells 253 (Strings_Builder.cg id3_3 (some tk3_4) z))))) (fun z=>Z134_j21 s9_16 ((Z134_l15 a0 n15)) z=some r) ?_ ?_
     ·intro K21 hK21;refine block ?_;refine seqR (S Mv (S As (nil ?_)));refine seqR (S Mv (S Mv ?_));obtain⟨x25,gx25,hE⟩:=bO hE;refine s0 (idxSn (n:=s9_16) (TK rfl) rfl rfl rfl gx25) rfl ?_;refine S As (nil ?_);refine seqR (S Mv (nil ?_));refine block ?_;refine seqJH (TA 0 (TA 3 (TA 5 (TA 8 (TA 9 (TA 15 KeepsT.nil)))))) (fun(z:Bool)=>[(33,.a (.d (.bool z)))]) (fun z=>((H.set tk3_4 (some (.tok 1 y17_id3_3.Fbuf.l.length (some 5)))).set id3_3 (some (.tcells 253 (Strings_Builder.cg id3_3 (some tk3_4) y17_id3_3))))) (fun z=>Z134_j27 s9_16 y17_id3_3 x25 ((Z134_l15 a0 n15)) z=some r) ?_ ?_
      ·intro K27 hK27;refine seqR (S BI (S As (nil ?_)));refine cE hE (fun hc55 hE=>?_) (fun hc55 hE=>?_)
       ·refine AWp.skip ?_;exact hK27 _ (decide (((x25.toNat:Nat):Int)=(34:Int))) Weak.toA hE
       refine region ?_;refine S BI (S As (nil ?_));exact hK27 _ (decide (((x25.toNat:Nat):Int)=(92:Int))) Weak.toA hE
      rintro s33_28 hE;try dsimp only at hE
      unfold Z134_j27 at hE;refine cE hE (fun hc29 hE=>?_) (fun hc29 hE=>?_)
      ·refine seqR ?_;obtain⟨x31,gx31,hE⟩:=bO hE;refine sH (callH rfl rfl (Z128_walk gx31 _ hpG hpG)) rfl ?_;refine hq ((H.set tk3_4 (some (.tok 1 x31.2.Fbuf.l.length (some 5)))).set id3_3 (some (.tcells 253 (Strings_Builder.cg id3_3 (some tk3_4) x31.2)))) ?_;refine nil ?_;refine region ?_;refine S Mv ?_;obtain⟨x32,gx32,hE⟩:=bO hE;refine sH (callH rfl rfl (Z128_walk gx32 _ hpG hpG)) rfl ?_;refine hq ((H.set tk3_4 (some (.tok 1 x32.2.Fbuf.l.length (some 5)))).set id3_3 (some (.tcells 253 (Strings_Builder.cg id3_3 (some tk3_4) x32.2)))) ?_
       refine nil ?_;exact hK21 _ x32.2 Weak.toA hE
      refine seqR (S BI (S As (nil ?_)));refine cE hE (fun hc34 hE=>?_) (fun hc34 hE=>?_)
      ·refine region ?_;obtain⟨x35,gx35,hE⟩:=bO hE;refine sH (callH rfl rfl (Z129_walk gx35 _ hpG hpG)) rfl ?_;refine hq ((H.set tk3_4 (some (.tok 1 x35.2.2.Fbuf.l.length (some 5)))).set id3_3 (some (.tcells 253 (Strings_Builder.cg id3_3 (some tk3_4) x35.2.2)))) ?_;refine nil ?_;exact hK21 _ x35.2.2 Weak.toA hE
      refine seqR (S BI (S As (nil ?_)));refine cE hE (fun hc37 hE=>?_) (fun hc37 hE=>?_)
      ·refine region ?_;obtain⟨x38,gx38,hE⟩:=bO hE;refine sH (callH rfl rfl (Z129_walk gx38 _ hpG hpG)) rfl ?_;refine hq ((H.set tk3_4 (some (.tok 1 x38.2.2.Fbuf.l.length (some 5)))).set id3_3 (some (.tcells 253 (Strings_Builder.cg id3_3 (some tk3_4) x38.2.2)))) ?_;refine nil ?_;exact hK21 _ x38.2.2 Weak.toA hE
      refine seqR (S BI (S As (nil ?_)));refine cE hE (fun hc40 hE=>?_) (fun hc40 hE=>?_)
      ·refine region ?_;obtain⟨x41,gx41,hE⟩:=bO hE;refine sH (callH rfl rfl (Z129_walk gx41 _ hpG hpG)) rfl ?_;refine hq ((H.set tk3_4 (some (.tok 1 x41.2.2.Fbuf.l.length (some 5)))).set id3_3 (some (.tcells 253 (Strings_Builder.cg id3_3 (some tk3_4) x41.2.2)))) ?_;refine nil ?_;exact hK21 _ x41.2.2 Weak.toA hE
      refine seqK fun K42 hK42=>?_;refine seqR (S Mv (S BI (S Mv (G0 Mv ?_))));refine G1 19 rfl BI ?_;refine S PA (nil ?_);refine cE hE (fun hc44 hE=>?_) (fun hc44 hE=>?_)
      ·refine seqR (S Mv ?_);obtain⟨x46,gx46,hE⟩:=bO hE;refine sH (callH rfl rfl (Z128_walk gx46 _ hpG hpG)) rfl ?_;refine hq ((H.set tk3_4 (some (.tok 1 x46.2.Fbuf.l.length (some 5)))).set id3_3 (some (.tcells 253 (Strings_Builder.cg id3_3 (some tk3_4) x46.2)))) ?_;refine nil ?_;refine AWp.exit ?_;exact hK21 _ x46.2 Weak.toA hE
      refine sk hK42 ?_;clear hK42 K42;refine seqR ?_;obtain⟨x48,gx48,hE⟩:=bO hE;refine sH (callH rfl rfl (Z129_walk gx48 _ hpG hpG)) rfl ?_;refine hq ((H.set tk3_4 (some (.tok 1 x48.2.2.Fbuf.l.length (some 5)))).set id3_3 (some (.tcells 253 (Strings_Builder.cg id3_3 (some tk3_4) x48.2.2)))) ?_;refine nil ?_;refine seqR (S Mv ?_);refine s0 (shrI rfl rfl (by decide)) rfl ?_;obtain⟨x50,gx50,hE⟩:=bO hE
      refine s0 (idxS (TK rfl) rfl rfl rfl gx50) rfl ?_;obtain⟨x51,gx51,hE⟩:=bO hE;refine sH (callH rfl rfl (Z128_walk gx51 _ hpG hpG)) rfl ?_;refine hq ((H.set tk3_4 (some (.tok 1 x51.2.Fbuf.l.length (some 5)))).set id3_3 (some (.tcells 253 (Strings_Builder.cg id3_3 (some tk3_4) x51.2)))) ?_;refine nil ?_;refine region ?_;refine S Mv ?_;refine s0 (andI rfl rfl) rfl ?_;obtain⟨x52,gx52,hE⟩:=bO hE;refine s0 (idxS (TK rfl) rfl rfl rfl gx52) rfl ?_
      obtain⟨x53,gx53,hE⟩:=bO hE;refine sH (callH rfl rfl (Z128_walk gx53 _ hpG hpG)) rfl ?_;refine hq ((H.set tk3_4 (some (.tok 1 x53.2.Fbuf.l.length (some 5)))).set id3_3 (some (.tcells 253 (Strings_Builder.cg id3_3 (some tk3_4) x53.2)))) ?_;refine nil ?_;exact hK21 _ x53.2 Weak.toA hE
     rintro y22_id3_3 hE;try dsimp only at hE
     unfold Z134_j21 at hE;refine region ?_;refine SI ?_;refine S Mv (nil ?_);exact hK15 _ (n15,(s9_16+1),y22_id3_3) Weak.toA hE (Nat.lt_succ_self _)
    refine AWp.exit ?_;exact hK7 _ y17_id3_3 Weak.toA hE
 rintro y8_id3_3 hE;try dsimp only at hE
 unfold Z134_j7 at hE;refine seqR ?_;obtain⟨x10,gx10,hE⟩:=bO hE;refine sH (callH rfl rfl (Z128_walk gx10 _ hpG hpG)) rfl ?_;refine hq ((H.set tk3_4 (some (.tok 1 x10.2.Fbuf.l.length (some 5)))).set id3_3 (some (.tcells 253 (Strings_Builder.cg id3_3 (some tk3_4) x10.2)))) ?_;refine nil ?_;refine seqR ?_;obtain⟨x12,gx12,hE⟩:=bO hE;refine sH (callH rfl rfl (Z127_walk gx12 _ hpG hpG)) rfl ?_;refine hq H ?_
 refine S As (nil ?_);exact rt hE
section
variable [IsLoud lou]
def Tryz.lay258_ren:Go.Shelf.Ren:=⟨fun|156=>258|165=>313|166=>312|169=>207|240=>253|241=>344|276=>309|277=>363|n=>n,fun|31=>55|9=>9|3=>3|4=>4|0=>0|20=>20|72=>253|76=>334|70=>250|37=>251|75=>255|127=>291|164=>339|5=>5|80=>257|n=>n,fun|n=>n⟩
theorem Tryz.lay258:Go.Proofs.Lays.n156 Tryz.prog Tryz.lay258_ren:={
 mixed:=by kernel_rfl
 f156:=Tryz.func258.trans (congrArg some (by kernel_rfl))
 f165:=Tryz.func313.trans (congrArg some (by kernel_rfl))
 f166:=Tryz.func312.trans (congrArg some (by kernel_rfl))
 f169:=Tryz.func207.trans (congrArg some (by kernel_rfl))
 f240:=Tryz.func253.trans (congrArg some (by kernel_rfl))
 f241:=Tryz.func344.trans (congrArg some (by kernel_rfl))
 f276:=Tryz.func309.trans (congrArg some (by kernel_rfl))
 f277:=Tryz.func363.trans (congrArg some (by kernel_rfl))
 t0:=Tryz.underlying0
 a0:=Tryz.isAgg0
 z0:=Tryz.sizeOf0
 v0:=Tryz.zeroValue0
 t3:=Tryz.underlying3
 a3:=Tryz.isAgg3
 z3:=Tryz.sizeOf3
 v3:=Tryz.zeroValue3
 t4:=Tryz.underlying4
 a4:=Tryz.isAgg4
 z4:=Tryz.sizeOf4
 v4:=Tryz.zeroValue4
 t9:=Tryz.underlying9
 a9:=Tryz.isAgg9
 z9:=Tryz.sizeOf9
 v9:=Tryz.zeroValue9
 t20:=Tryz.underlying20
 a20:=Tryz.isAgg20
 z20:=Tryz.sizeOf20
 v20:=Tryz.zeroValue20
 t31:=Tryz.underlying55
 a31:=Tryz.isAgg55
 z31:=Tryz.sizeOf55
 v31:=Tryz.zeroValue55
 t37:=Tryz.underlying251
 a37:=Tryz.isAgg251
 z37:=Tryz.sizeOf251
 v37:=Tryz.zeroValue251
 t70:=Tryz.underlying250
 a70:=Tryz.isAgg250
 z70:=Tryz.sizeOf250
 v70:=Tryz.zeroValue250
 t72:=Tryz.underlying253
 a72:=Tryz.isAgg253
 z72:=Tryz.sizeOf253
 v72:=Tryz.zeroValue253
 t75:=Tryz.underlying255
 a75:=Tryz.isAgg255
 z75:=Tryz.sizeOf255
 v75:=Tryz.zeroValue255
 t76:=Tryz.underlying334
 a76:=Tryz.isAgg334
 z76:=Tryz.sizeOf334
 v76:=Tryz.zeroValue334
 t127:=Tryz.underlying291
 a127:=Tryz.isAgg291
 z127:=Tryz.sizeOf291
 v127:=Tryz.zeroValue291
 t164:=Tryz.underlying339
 a164:=Tryz.isAgg339
 z164:=Tryz.sizeOf339
 v164:=Tryz.zeroValue339 }
theorem Tryz.extra258:Builder.Extra Tryz.prog Tryz.lay258_ren where
 sizeBuilder:=by kernel_rfl
 liesBuilder:=by kernel_rfl
 t5:=Tryz.underlying5
 a5:=Tryz.isAgg5
 z5:=Tryz.sizeOf5
 v5:=Tryz.zeroValue5
 infoByte:=by kernel_rfl
 cellsByte:=by kernel_rfl
 sizeByte:=by kernel_rfl
 neB5:=by decide
def Z132 (s:Sl Bs) (sep:Bs):Option Bs:=joinA s sep
theorem Z132_walk {a0:Sl Bs}{a1:Bs}{w0:Option Nat}{r:Bs}(hE:Z132 a0 a1=some r) (H:Heap):ACalls Tryz.prog 258 [.d (Sl.d 1 strE w0 a0),.d (.str a1)] H fun v h'=>v=.a (.d (.str r))/\h'=H:=joinA_calls Tryz.lay258 Tryz.extra258 hE rfl
end
end Go.Proofs
