import Derived.Test.YtimiconoebjfbaaGreatDoorV4
set_option maxRecDepth 100000
set_option maxHeartbeats 2000000
set_option linter.unusedVariables false
set_option linter.unusedSimpArgs false
namespace Go.Proofs
open Go Go.Ab
open AOps Cert AWp Keeps KeepsT
variable {lou:Lou}
def Z68_n:Nat->TDoc->TRef->TRef->Option Bool
 | 0,_,_,_=>none
 | n+1,a0,a1,a2=>(Z28 a2).bind fun x4=>bif x4 then((Z28 a1).bind fun x7=>guardO (x7) (Z29 a1) TRef.zero fun x8=>guardO (x7) (Z29 a2) TRef.zero fun x9=>guardO (x7) ((Z68_n n) a0 x8 x9) false fun x10=>some (x7&&x10)) else((Z28 a1).bind fun x13=>bif x13 then((Z29 a1).bind fun x16=>((Z68_n n) a0 x16 a2).bind fun x17=>some x17) else((Z26 a1).bind fun x19=>(Z26 a2).bind fun x21=>bif (x19.2&&x21.2) then(((Z68_n n) a0 x19.1 x21.1).bind fun x26=>some x26) else(guardO ((((!x19.2)&&(!x21.2))&&!((a1.FName==a2.FName)))) (Z65 a0 a1.FName a2.FName) false fun x28=>some (((!x19.2)&&(!x21.2))&&(((a1.FName==a2.FName))||x28)))))
theorem Z68_step (n:Nat) (ih_108:∀{a0:TDoc}{a1 a2:TRef}{r:Bool},Z68_n n a0 a1 a2=some r->∀(H:Heap),ACalls Tryz.prog 108 [.agg (TDoc.c a0),.agg (TRef.c a1),.agg (TRef.c a2)] H fun v h'=>v=.a (.d (.bool r))/\h'=H):∀{a0:TDoc}{a1 a2:TRef}{r:Bool},Z68_n (n+1) a0 a1 a2=some r->∀(H:Heap),ACalls Tryz.prog 108 [.agg (TDoc.c a0),.agg (TRef.c a1),.agg (TRef.c a2)] H fun v h'=>v=.a (.d (.bool r))/\h'=H:=by
 intro a0 a1 a2   r hE H ;rw [Z68_n] at hE;refine ACalls.oW 69 [.tmp 6] Tryz.call108 Tryz.func108 ?_;refine seqR ?_;refine S BX (S BX (S BX (S As ?_)));refine nil ?_;refine seqK fun K2 hK2=>?_;refine seqR ?_;refine S Ld ?_;obtain⟨x4,gx4,hE⟩:=bO hE;refine Sc rfl rfl (Z28_walk gx4) ?_;refine nil ?_;refine cE hE (fun hc5 hE=>?_) (fun hc5 hE=>?_)
 ·refine AWp.seqD ?_;refine Sd Ld ?_;obtain⟨x7,gx7,hE⟩:=bO hE;refine DOps.s0 (callP rfl rfl (fun H=>Z28_walk gx7 H)) rfl ?_;refine Sd Mv (g0d Ld (g0d Ld ?_));obtain⟨x8,gx8,hE⟩:=gO hE;refine gc1d 17 rfl rfl rfl rfl rfl (fun hC=>Z29_walk (gx8 hC)) ?_;refine g0d Ld ?_;obtain⟨x9,gx9,hE⟩:=gO hE;refine gc1d 19 rfl rfl rfl rfl rfl (fun hC=>Z29_walk (gx9 hC)) ?_;obtain⟨x10,gx10,hE⟩:=gO hE;refine DOps.gC rfl rfl (fun hC=>ungdA (k:=16) rfl (ungdA (k:=18) rfl (ungdA (k:=20) rfl (callP rfl rfl (fun H=>ih_108 (gx10 hC) H))))) rfl ?_
  refine Sd PA (Sd As ?_);refine DOps.nil (by decide +kernel) ?_;exact rt hE
 refine sk hK2 ?_;clear hK2 K2;refine seqK fun K11 hK11=>?_;refine seqR ?_;refine S Ld ?_;obtain⟨x13,gx13,hE⟩:=bO hE;refine Sc rfl rfl (Z28_walk gx13) ?_;refine nil ?_;refine cE hE (fun hc14 hE=>?_) (fun hc14 hE=>?_)
 ·refine AWp.seqD ?_;refine Sd Ld (Sd Ld ?_);obtain⟨x16,gx16,hE⟩:=bO hE;refine DOps.s0 (callP rfl rfl (fun H=>Z29_walk gx16 H)) rfl ?_;refine Sd Ld ?_;obtain⟨x17,gx17,hE⟩:=bO hE;refine DOps.s0 (callP rfl rfl (fun H=>ih_108 gx17 H)) rfl ?_;refine Sd As ?_;refine DOps.nil (by decide +kernel) ?_;exact rt hE
 refine sk hK11 ?_;clear hK11 K11;refine seqR ?_;refine S Ld ?_;obtain⟨x19,gx19,hE⟩:=bO hE;refine Sc rfl rfl (Z26_walk gx19) ?_;refine S Mv (S EX (S EX ?_));refine Sl ?_;refine Sf ?_;refine S As ?_;refine nil ?_;refine freezeA 7 _ rfl (KA 3 (KA 4 (KA 5 (KA 8 Keeps.nil)))) ?_;refine seqR ?_;refine S Ld ?_;obtain⟨x21,gx21,hE⟩:=bO hE;refine Sc rfl rfl (Z26_walk gx21) ?_;refine S Mv (S EX (S EX ?_));refine Sl ?_
 refine Sf ?_;refine S As ?_;refine nil ?_;refine freezeA 9 _ rfl (KA 3 (KA 4 (KA 5 (KA 7 (KA 8 (KA 10 Keeps.nil)))))) ?_;refine seqK fun K22 hK22=>?_;refine seqR ?_;refine S Mv (S Mv (g0 Mv (S PA ?_)));refine nil ?_;refine cE hE (fun hc24 hE=>?_) (fun hc24 hE=>?_)
 ·refine seqR ?_;refine S Ld (S Ld (S Ld ?_));obtain⟨x26,gx26,hE⟩:=bO hE;refine Sc rfl rfl (ih_108 gx26) ?_;refine S As ?_;refine nil ?_;exact rt hE
 refine sk hK22 ?_;clear hK22 K22;refine seqR ?_;refine S Mv (S NB (S Mv (g0 Mv ?_)));refine g1 51 rfl NB ?_;refine S PA (S Mv (g0 Fv ?_));refine g1 55 rfl Ld ?_;refine g0 Fv ?_;refine g1 57 rfl Ld ?_;refine g2 56 58 rfl rfl BS ?_;refine g1 59 rfl Mv ?_;refine g0 Ld (g0 Fv ?_);refine g1 62 rfl Ld ?_;refine g0 Fv ?_;refine g1 64 rfl Ld ?_;obtain⟨x28,gx28,hE⟩:=gO hE;refine gC rfl rfl (fun hC=>ungdA (k:=61) rfl (ungdA (k:=63) rfl (ungdA (k:=65) rfl (callP rfl rfl (fun H=>Z65_walk (gx28 hC) H))))) rfl ?_
 refine gC rfl rfl (fun hC=>ungdA (k:=60) rfl (pickOrA rfl rfl rfl)) rfl ?_;refine S PA (S As ?_);refine nil ?_;exact rt hE
theorem Z68_all:∀(n:Nat),(∀{a0:TDoc}{a1 a2:TRef}{r:Bool},Z68_n n a0 a1 a2=some r->∀(H:Heap),ACalls Tryz.prog 108 [.agg (TDoc.c a0),.agg (TRef.c a1),.agg (TRef.c a2)] H fun v h'=>v=.a (.d (.bool r))/\h'=H)
 | 0=>fun hE=>by first|cases hE|(rw [Z68_n] at hE; cases hE)
 | n+1=>Z68_step n (Z68_all n)
def Z68 (a0:TDoc) (a1:TRef) (a2:TRef):Option Bool:=Z68_n F0 a0 a1 a2
theorem Z68_walk {a0:TDoc}{a1 a2:TRef}{r:Bool}(hE:Z68 a0 a1 a2=some r) (H:Heap) :ACalls Tryz.prog 108 [.agg (TDoc.c a0),.agg (TRef.c a1),.agg (TRef.c a2)] H fun v h'=>v=.a (.d (.bool r))/\h'=H:=(Z68_all F0) hE H 
def Z33_j8  :Option Bool:=some true
def Z33_l11 (a0:(Sl Int)) (a1:(Sl Int)) :Nat->Nat->Option Bool
 | 0,_=>none
 | n11+1,s5_12=>bif (decide (((s5_12:Nat):Int)<((a0.l.length:Nat):Int))) then((a0.l[s5_12]?).bind fun x19=>(a1.l[s5_12]?).bind fun x20=>bif (!decide (x19=x20)) then(some false) else((Z33_l11 a0 a1 n11) (s5_12+1))) else(Z33_j8   )
def Z33 (a0:(Sl Int)) (a1:(Sl Int)):Option Bool:=bif (!decide (((a0.l.length:Nat):Int)=((a1.l.length:Nat):Int))) then(some false) else(Z33_l11 a0 a1 (a0.l.length+1) 0)
theorem Z33_walk {a0 a1:Sl Int}{w0 w1:Option Nat}{r:Bool}(hE:Z33 a0 a1=some r) (H:Heap) :ACalls Tryz.prog 131 [.d (Sl.d 1 (intE .i64) w0 a0),.d (Sl.d 1 (intE .i64) w1 a1)] H fun v h'=>v=.a (.d (.bool r))/\h'=H:=by
 unfold Z33 at hE;refine ACalls.oW 26 [.tmp 4] Tryz.call131 Tryz.func131 ?_;refine seqR ?_;refine S As ?_;refine nil ?_;refine seqK fun K2 hK2=>?_;refine seqR ?_;refine S Mv ?_;refine sLen (f:=(intE .i64)) (s:=a0) (TK rfl) rfl rfl rfl rfl fun hL4=>?_;refine S Mv ?_;refine sLen (f:=(intE .i64)) (s:=a1) (TK rfl) rfl rfl rfl rfl fun hL5=>?_;refine S BI ?_;refine nil ?_;refine cE hE (fun hc6 hE=>?_) (fun hc6 hE=>?_)
 ·refine seqR ?_;refine S As ?_;refine nil ?_;exact rt hE
 refine sk hK2 ?_;clear hK2 K2;refine seqJH KeepsT.nil (fun(z:Unit)=>[]) (fun z=>H) (fun z=>Z33_j8 =some r) ?_ ?_
 ·intro K8 hK8;refine seqR ?_;refine S As ?_;refine nil ?_;refine block ?_;refine loopH (TA 0 (TA 1 KeepsT.nil)) (fun(z:Nat×Nat)=>[(5,.a (.d (.int .i64 ((z.2:Nat):Int))))]) (fun z=>H) (fun z=>z.1) (fun z=>Z33_l11 a0 a1 z.1 z.2=some r) ((a0.l.length+1),0) hE Weak.toA ?_;rintro ⟨n11,s5_12⟩ hE K11 hK11;try dsimp only at hE
  cases n11 with
  | zero=>cases hE
  | succ n11 =>
    rw [Z33_l11] at hE;refine seqK fun K13 hK13=>?_;refine seqR ?_;refine S Mv (S Mv ?_);refine sLen (f:=(intE .i64)) (s:=a0) (TK rfl) rfl rfl rfl rfl fun hL15=>?_;refine S BI ?_;refine nil ?_;refine cE hE (fun hc16 hE=>?_) (fun hc16 hE=>?_)
    ·try dsimp only at hc16
     have hf16:=of_decide_eq_true hc16;refine sk hK13 ?_;clear hK13 K13;refine seqK fun K17 hK17=>?_;refine block ?_;refine AWp.seqD ?_;refine Sd Mv (Sd Mv ?_);obtain⟨x19,gx19,hE⟩:=bO hE;refine DOps.s0 (idxMn (f:=(intE .i64)) (n:=s5_12) (TK rfl) rfl (TK rfl) rfl rfl rfl gx19) rfl ?_;refine Sd Ld (Sd Mv (Sd Mv ?_));obtain⟨x20,gx20,hE⟩:=bO hE;refine DOps.s0 (idxMn (f:=(intE .i64)) (n:=s5_12) (TK rfl) rfl (TK rfl) rfl rfl rfl gx20) rfl ?_
     refine Sd Ld (Sd BI ?_);refine DOps.nil (by decide +kernel) ?_;refine cE hE (fun hc21 hE=>?_) (fun hc21 hE=>?_)
     ·refine seqR ?_;refine S As ?_;refine nil ?_;exact rt hE
     refine sk hK17 ?_;clear hK17 K17;refine region ?_;refine S Mv ?_;refine SI ?_;refine S As ?_;refine nil ?_;exact hK11 _ (n11,(s5_12+1)) Weak.toA hE (Nat.lt_succ_self _)
    refine AWp.exit ?_;exact hK8 _ () Weak.toA hE
 rintro _ hE;try dsimp only at hE
 unfold Z33_j8 at hE;refine seqR ?_;refine S As ?_;refine nil ?_;exact rt hE
def Z31 (a0:TRef) (a1:TRef):Option Bool:=guardO (((a0.FName==a1.FName))) (Z33 a0.FWraps a1.FWraps) false fun x3=>some (((a0.FName==a1.FName))&&x3)
theorem Z31_walk {a0 a1:TRef}{r:Bool}(hE:Z31 a0 a1=some r) (H:Heap) :ACalls Tryz.prog 109 [.agg (TRef.c a0),.agg (TRef.c a1)] H fun v h'=>v=.a (.d (.bool r))/\h'=H:=by
 unfold Z31 at hE;refine ACalls.oW 17 [.tmp 4] Tryz.call109 Tryz.func109 ?_;refine seqR ?_;refine S BX (S BX (S As ?_));refine nil ?_;refine seqR ?_;refine S Fv (S Ld (S Fv (S Ld (S BS (S Mv (g0 Fv ?_))))));refine g1 11 rfl Ld ?_;refine g0 Fv ?_;refine g1 13 rfl Ld ?_;obtain⟨x3,gx3,hE⟩:=gO hE;refine gc2 12 14 rfl rfl rfl rfl rfl rfl (fun hC=>Z33_walk (gx3 hC)) ?_;refine S PA (S As ?_);refine nil ?_
 exact rt hE
def Z69_j16  (s10_17:(Sl TFault)):Option (Sl TFault):=some s10_17
def Z69_j27 (s14_22:Nat) (k_next_20:(Sl TFault)->Nat->Option (Sl TFault)) (s10_28:(Sl TFault)):Option (Sl TFault):=k_next_20 s10_28 (s14_22+1)
def Z69_l20 (a2:TField) (x4:Bs) (x6:(TField×Bool)) :Nat->(Sl TFault)->Nat->Option (Sl TFault)
 | 0,_,_=>none
 | n20+1,s10_21,s14_22=>bif (decide (((s14_22:Nat):Int)<((x6.1.FArgs.l.length:Nat):Int))) then((x6.1.FArgs.l[s14_22]?).bind fun x30=>(Z46 a2.FArgs x30.FName).bind fun x31=>guardO ((!x31.2)) (x6.1.FArgs.l[s14_22]?) TInput.zero fun x33=>guardO ((!x31.2)) (Z28 x33.FType) false fun x34=>guardO (((!x31.2)&&x34)) (x6.1.FArgs.l[s14_22]?) TInput.zero fun x35=>bif (((!x31.2)&&x34)&&(!x35.FHas)) then((catC x4 ([40]:Bs)).bind fun x37=>(x6.1.FArgs.l[s14_22]?).bind fun x38=>(catC x37 x38.FName).bind fun x39=>(catC x39 ([41]:Bs)).bind fun x40=>(appC 24 s10_21 (⟨false,[(TFault.mk (22:Int) x40)]⟩:Sl TFault)).bind fun x41=>Z69_j27 s14_22 ((Z69_l20 a2 x4 x6 n20)) x41) else(Z69_j27 s14_22 ((Z69_l20 a2 x4 x6 n20)) s10_21)) else(Z69_j16   s10_21)
def Z69_j14 (a2:TField) (x4:Bs) (x6:(TField×Bool))  (s10_15:(Sl TFault)):Option (Sl TFault):=Z69_l20 a2 x4 x6 (x6.1.FArgs.l.length+1) s10_15 0
def Z69_j50 (s11_45:Nat) (k_next_43:(Sl TFault)->Nat->Option (Sl TFault)) (s10_51:(Sl TFault)):Option (Sl TFault):=k_next_43 s10_51 (s11_45+1)
def Z69_l43 (a2:TField) (x4:Bs) (x6:(TField×Bool)) :Nat->(Sl TFault)->Nat->Option (Sl TFault)
 | 0,_,_=>none
 | n43+1,s10_44,s11_45=>bif (decide (((s11_45:Nat):Int)<((a2.FArgs.l.length:Nat):Int))) then((a2.FArgs.l[s11_45]?).bind fun x53=>(Z46 x6.1.FArgs x53.FName).bind fun x54=>guardO (!(!x54.2)) (a2.FArgs.l[s11_45]?) TInput.zero fun x56=>guardO (!(!x54.2)) (Z31 x54.1.FType x56.FType) false fun x57=>bif ((!x54.2)||(!x57)) then((catC x4 ([40]:Bs)).bind fun x59=>(a2.FArgs.l[s11_45]?).bind fun x60=>(catC x59 x60.FName).bind fun x61=>(catC x61 ([41]:Bs)).bind fun x62=>(appC 24 s10_44 (⟨false,[(TFault.mk (22:Int) x62)]⟩:Sl TFault)).bind fun x63=>Z69_j50 s11_45 ((Z69_l43 a2 x4 x6 n43)) x63) else(Z69_j50 s11_45 ((Z69_l43 a2 x4 x6 n43)) s10_44)) else(Z69_j14 a2 x4 x6  s10_44)
def Z69_j12 (a2:TField) (x4:Bs) (x6:(TField×Bool))  (s10_13:(Sl TFault)):Option (Sl TFault):=Z69_l43 a2 x4 x6 (a2.FArgs.l.length+1) s10_13 0
def Z69 (a0:TDoc) (a1:TDef) (a2:TField):Option (Sl TFault):=(catC a1.FName ([46]:Bs)).bind fun x3=>(catC x3 a2.FName).bind fun x4=>(Z44 a1 a2.FName).bind fun x6=>bif (!x6.2) then(some (⟨false,[(TFault.mk (20:Int) x4)]⟩:Sl TFault)) else((Z68 a0 x6.1.FType a2.FType).bind fun x65=>bif (!x65) then((appC 24 (Sl.nil:Sl TFault) (⟨false,[(TFault.mk (10:Int) x4)]⟩:Sl TFault)).bind fun x67=>Z69_j12 a2 x4 x6  x67) else(Z69_j12 a2 x4 x6  (Sl.nil:Sl TFault)))
theorem Z69_walk {a0:TDoc}{a1:TDef}{a2:TField}{r:Sl TFault}(hE:Z69 a0 a1 a2=some r) (H:Heap) :ACalls Tryz.prog 77 [.agg (TDoc.c a0),.agg (TDef.c a1),.agg (TField.c a2)] H fun v h'=>v=.a (.d (Sl.d 2 TFault.c none r))/\h'=H:=by
 unfold Z69 at hE;refine ACalls.oW 148 [.tmp 6] Tryz.call77 Tryz.func77 ?_;refine AWp.tok 2 fun tk1 htk1=>?_;refine seqR ?_;refine S BX (S BX (S BX ?_));refine s0 (assignNil (k':=2) rfl) rfl ?_;refine nil ?_;refine seqR ?_;refine S Fv (S Ld ?_);obtain⟨x3,gx3,hE⟩:=bO hE;refine s0 (catM rfl rfl gx3) rfl ?_;refine S Fv (S Ld ?_);obtain⟨x4,gx4,hE⟩:=bO hE;refine s0 (catM rfl rfl gx4) rfl ?_;refine S As ?_
 refine nil ?_;refine seqR ?_;refine S Ld (S Fv (S Ld ?_));obtain⟨x6,gx6,hE⟩:=bO hE;refine Sc rfl rfl (Z44_walk gx6) ?_;refine S Mv (S EX (S EX ?_));refine Sl ?_;refine Sf ?_;refine S As ?_;refine nil ?_;refine freezeA 8 _ rfl (KA 3 (KA 5 (KA 7 (KA 9 Keeps.nil)))) ?_;refine seqK fun K7 hK7=>?_;refine seqR ?_;refine S Mv (S NB ?_);refine nil ?_;refine cE hE (fun hc9 hE=>?_) (fun hc9 hE=>?_)
 ·refine seqR ?_;refine S Mv (S BU (S BV (S As ?_)));refine nil ?_;refine AWp.ret ?_;repeat (first|refine xBlock_ret ?_|refine xThen_ret ?_)
  obtain rfl:=Option.some.inj hE;refine retQ.retF H rfl ⟨rfl,rfl⟩ ?_
  first|exact Heap.sub_set htk1|(simp only [Heap.set_set]; exact Heap.sub_set htk1)
 refine sk hK7 ?_;clear hK7 K7;refine seqR ?_;refine S As ?_;refine nil ?_;refine AWp.nilTok 10 2 tk1 rfl hpG ?_;refine seqJH (TA 5 (TA 7 (TA 8 KeepsT.nil))) (fun(z:(Sl TFault))=>[(10,.a (.d (Sl.d 2 TFault.c (some tk1) z)))]) (fun z=>(H.set tk1 (some (.tok 2 z.l.length)))) (fun z=>Z69_j12 a2 x4 x6 z=some r) ?_ ?_
 ·intro K12 hK12;refine seqR ?_;refine S Ld (S Fv (S Ld (S Fv (S Ld ?_))));obtain⟨x65,gx65,hE⟩:=bO hE;refine Sc rfl rfl (Z68_walk gx65) ?_;refine S NB ?_;refine nil ?_;refine cE hE (fun hc66 hE=>?_) (fun hc66 hE=>?_)
  ·refine region ?_;refine S Mv (S Mv (S BU (S BV ?_)));obtain⟨x67,gx67,hE⟩:=bO hE;refine sH (appM (f:=TFault.c) (TK rfl) rfl (TK rfl) (TK rfl) ⟨_,rfl⟩ rfl rfl (by decide) rfl rfl rfl rfl hpG rfl gx67) rfl ?_;refine hq (H.set tk1 (some (.tok 2 x67.l.length))) ?_;refine S As ?_;refine nil ?_;exact hK12 _ x67 Weak.toA hE
  refine AWp.skip ?_;exact hK12 _ (Sl.nil:Sl TFault) Weak.toA hE
 rintro s10_13 hE;try dsimp only at hE
 unfold Z69_j12 at hE;refine seqJH (TA 5 (TA 7 (TA 8 KeepsT.nil))) (fun(z:(Sl TFault))=>[(10,.a (.d (Sl.d 2 TFault.c (some tk1) z)))]) (fun z=>(H.set tk1 (some (.tok 2 z.l.length)))) (fun z=>Z69_j14 a2 x4 x6 z=some r) ?_ ?_
 ·intro K14 hK14;refine seqR ?_;refine S As ?_;refine nil ?_;refine block ?_;refine loopH (TA 5 (TA 7 (TA 8 KeepsT.nil))) (fun(z:Nat×(Sl TFault)×Nat)=>[(10,.a (.d (Sl.d 2 TFault.c (some tk1) z.2.1))),(11,.a (.d (.int .i64 ((z.2.2:Nat):Int))))]) (fun z=>(H.set tk1 (some (.tok 2 z.2.1.l.length)))) (fun z=>z.1) (fun z=>Z69_l43 a2 x4 x6 z.1 z.2.1 z.2.2=some r) ((a2.FArgs.l.length+1),s10_13,0) hE Weak.toA ?_
  rintro ⟨n43,s10_44,s11_45⟩ hE K43 hK43;try dsimp only at hE
  cases n43 with
  | zero=>cases hE
  | succ n43 =>
    rw [Z69_l43] at hE;refine seqK fun K46 hK46=>?_;refine seqR ?_;refine S Mv (S Fv (S Ld ?_));refine sLen (f:=TInput.c) (s:=a2.FArgs) (TK rfl) rfl rfl rfl rfl fun hL48=>?_;refine S BI ?_;refine nil ?_;refine cE hE (fun hc49 hE=>?_) (fun hc49 hE=>?_)
    ·try dsimp only at hc49
     have hf49:=of_decide_eq_true hc49;refine sk hK46 ?_;clear hK46 K46;refine seqJH (TA 5 (TA 7 (TA 8 (TA 11 KeepsT.nil)))) (fun(z:(Sl TFault))=>[(10,.a (.d (Sl.d 2 TFault.c (some tk1) z)))]) (fun z=>(H.set tk1 (some (.tok 2 z.l.length)))) (fun z=>Z69_j50 s11_45 ((Z69_l43 a2 x4 x6 n43)) z=some r) ?_ ?_
     ·intro K50 hK50;refine block ?_;refine AWp.seqD ?_;refine Sd Fv (Sd Ld (Sd Fv (Sd Ld (Sd Mv ?_))));obtain⟨x53,gx53,hE⟩:=bO hE;refine DOps.s0 (idxMn (f:=TInput.c) (n:=s11_45) (TK rfl) rfl (TK rfl) rfl rfl rfl gx53) rfl ?_;refine Sd Fv (Sd Ld ?_);obtain⟨x54,gx54,hE⟩:=bO hE;refine DOps.s0 (callP rfl rfl (fun H=>Z46_walk gx54 H)) rfl ?_;refine Sd Mv (Sd EX (Sd EX ?_));refine DOps.sB (TK rfl) rfl rfl ?_ (by repeat (first|exact Snoc.nil|apply Snoc.cons))
      refine DOps.sLn (storeLFA (TK rfl) rfl rfl rfl rfl rfl) ?_;refine Sd As ?_;refine DOps.nil (by decide +kernel) ?_;refine freezeA 12 _ rfl (KA 5 (KA 7 (KA 8 (KA 10 (KA 11 (KA 13 Keeps.nil)))))) ?_;refine AWp.seqD ?_;refine Sd Mv (Sd NB (Sd Mv (g0d Fv ?_)));refine g1d 69 rfl Ld ?_;refine g0d Fv ?_;refine g1d 71 rfl Ld ?_;refine g0d Mv ?_;obtain⟨x56,gx56,hE⟩:=gO hE;refine DOps.gC rfl rfl (fun hC=>ungdA (k:=72) rfl (ungdA (k:=73) rfl (idxMn (f:=TInput.c) (n:=s11_45) (TK rfl) rfl (TK rfl) rfl rfl rfl (gx56 hC)))) rfl ?_
      refine g1d 74 rfl Fv ?_;refine g1d 75 rfl Ld ?_;obtain⟨x57,gx57,hE⟩:=gO hE;refine gc2d 70 76 rfl rfl rfl rfl rfl rfl (fun hC=>Z31_walk (gx57 hC)) ?_;refine g1d 77 rfl NB ?_;refine Sd PO ?_;refine DOps.nil (by decide +kernel) ?_;refine cE hE (fun hc58 hE=>?_) (fun hc58 hE=>?_)
      ·refine region ?_;refine S Mv (S Mv ?_);obtain⟨x59,gx59,hE⟩:=bO hE;refine s0 (catM rfl rfl gx59) rfl ?_;refine S Fv (S Ld (S Mv ?_));obtain⟨x60,gx60,hE⟩:=bO hE;refine s0 (idxMn (f:=TInput.c) (n:=s11_45) (TK rfl) rfl (TK rfl) rfl rfl rfl gx60) rfl ?_;refine S Fv (S Ld ?_);obtain⟨x61,gx61,hE⟩:=bO hE;refine s0 (catM rfl rfl gx61) rfl ?_;obtain⟨x62,gx62,hE⟩:=bO hE;refine s0 (catM rfl rfl gx62) rfl ?_
       refine S BU (S BV ?_);obtain⟨x63,gx63,hE⟩:=bO hE;refine sH (appM (f:=TFault.c) (TK rfl) rfl (TK rfl) (TK rfl) ⟨_,rfl⟩ rfl rfl (by decide) rfl rfl rfl rfl hpG rfl gx63) rfl ?_;refine hq (H.set tk1 (some (.tok 2 x63.l.length))) ?_;refine S As ?_;refine nil ?_;exact hK50 _ x63 Weak.toA hE
      refine AWp.skip ?_;exact hK50 _ s10_44 Weak.toA hE
     rintro s10_51 hE;try dsimp only at hE
     unfold Z69_j50 at hE;refine region ?_;refine S Mv ?_;refine SI ?_;refine S As ?_;refine nil ?_;exact hK43 _ (n43,s10_51,(s11_45+1)) Weak.toA hE (Nat.lt_succ_self _)
    refine AWp.exit ?_;exact hK14 _ s10_44 Weak.toA hE
 rintro s10_15 hE;try dsimp only at hE
 unfold Z69_j14 at hE;refine seqJH KeepsT.nil (fun(z:(Sl TFault))=>[(10,.a (.d (Sl.d 2 TFault.c (some tk1) z)))]) (fun z=>(H.set tk1 (some (.tok 2 z.l.length)))) (fun z=>Z69_j16 z=some r) ?_ ?_
 ·intro K16 hK16;refine seqR ?_;refine S As ?_;refine nil ?_;refine block ?_;refine loopH (TA 5 (TA 7 (TA 8 KeepsT.nil))) (fun(z:Nat×(Sl TFault)×Nat)=>[(10,.a (.d (Sl.d 2 TFault.c (some tk1) z.2.1))),(14,.a (.d (.int .i64 ((z.2.2:Nat):Int))))]) (fun z=>(H.set tk1 (some (.tok 2 z.2.1.l.length)))) (fun z=>z.1) (fun z=>Z69_l20 a2 x4 x6 z.1 z.2.1 z.2.2=some r) ((x6.1.FArgs.l.length+1),s10_15,0) hE Weak.toA ?_
  rintro ⟨n20,s10_21,s14_22⟩ hE K20 hK20;try dsimp only at hE
  cases n20 with
  | zero=>cases hE
  | succ n20 =>
    rw [Z69_l20] at hE;refine seqK fun K23 hK23=>?_;refine seqR ?_;refine S Mv (S Fv (S Ld ?_));refine sLen (f:=TInput.c) (s:=x6.1.FArgs) (TK rfl) rfl rfl rfl rfl fun hL25=>?_;refine S BI ?_;refine nil ?_;refine cE hE (fun hc26 hE=>?_) (fun hc26 hE=>?_)
    ·try dsimp only at hc26
     have hf26:=of_decide_eq_true hc26;refine sk hK23 ?_;clear hK23 K23;refine seqJH (TA 5 (TA 7 (TA 8 (TA 14 KeepsT.nil)))) (fun(z:(Sl TFault))=>[(10,.a (.d (Sl.d 2 TFault.c (some tk1) z)))]) (fun z=>(H.set tk1 (some (.tok 2 z.l.length)))) (fun z=>Z69_j27 s14_22 ((Z69_l20 a2 x4 x6 n20)) z=some r) ?_ ?_
     ·intro K27 hK27;refine block ?_;refine AWp.seqD ?_;refine Sd Fv (Sd Ld (Sd Fv (Sd Ld (Sd Mv ?_))));obtain⟨x30,gx30,hE⟩:=bO hE;refine DOps.s0 (idxMn (f:=TInput.c) (n:=s14_22) (TK rfl) rfl (TK rfl) rfl rfl rfl gx30) rfl ?_;refine Sd Fv (Sd Ld ?_);obtain⟨x31,gx31,hE⟩:=bO hE;refine DOps.s0 (callP rfl rfl (fun H=>Z46_walk gx31 H)) rfl ?_;refine Sd Mv (Sd EX (Sd EX ?_));refine DOps.sB (TK rfl) rfl rfl ?_ (by repeat (first|exact Snoc.nil|apply Snoc.cons))
      refine DOps.sLn (storeLFA (TK rfl) rfl rfl rfl rfl rfl) ?_;refine Sd As ?_;refine DOps.nil (by decide +kernel) ?_;refine freezeA 15 _ rfl (KA 5 (KA 7 (KA 8 (KA 10 (KA 14 (KA 16 Keeps.nil)))))) ?_;refine seqR ?_;refine S Mv (S NB (S Mv (g0 Fv ?_)));refine g1 116 rfl Ld ?_;refine g0 Mv ?_;obtain⟨x33,gx33,hE⟩:=gO hE;refine gC rfl rfl (fun hC=>ungdA (k:=117) rfl (ungdA (k:=118) rfl (idxMn (f:=TInput.c) (n:=s14_22) (TK rfl) rfl (TK rfl) rfl rfl rfl (gx33 hC)))) rfl ?_
      refine g1 119 rfl Fv ?_;refine g1 120 rfl Ld ?_;obtain⟨x34,gx34,hE⟩:=gO hE;refine gc1 121 rfl rfl rfl rfl rfl (fun hC=>Z28_walk (gx34 hC)) ?_;refine S PA (S Mv (g0 Fv ?_));refine g1 125 rfl Ld ?_;refine g0 Mv ?_;obtain⟨x35,gx35,hE⟩:=gO hE;refine gC rfl rfl (fun hC=>ungdA (k:=126) rfl (ungdA (k:=127) rfl (idxMn (f:=TInput.c) (n:=s14_22) (TK rfl) rfl (TK rfl) rfl rfl rfl (gx35 hC)))) rfl ?_;refine g1 128 rfl Fv ?_
      refine g1 129 rfl Ld ?_;refine g1 130 rfl NB ?_;refine S PA ?_;refine nil ?_;refine cE hE (fun hc36 hE=>?_) (fun hc36 hE=>?_)
      ·refine region ?_;refine S Mv (S Mv ?_);obtain⟨x37,gx37,hE⟩:=bO hE;refine s0 (catM rfl rfl gx37) rfl ?_;refine S Fv (S Ld (S Mv ?_));obtain⟨x38,gx38,hE⟩:=bO hE;refine s0 (idxMn (f:=TInput.c) (n:=s14_22) (TK rfl) rfl (TK rfl) rfl rfl rfl gx38) rfl ?_;refine S Fv (S Ld ?_);obtain⟨x39,gx39,hE⟩:=bO hE;refine s0 (catM rfl rfl gx39) rfl ?_;obtain⟨x40,gx40,hE⟩:=bO hE;refine s0 (catM rfl rfl gx40) rfl ?_
       refine S BU (S BV ?_);obtain⟨x41,gx41,hE⟩:=bO hE;refine sH (appM (f:=TFault.c) (TK rfl) rfl (TK rfl) (TK rfl) ⟨_,rfl⟩ rfl rfl (by decide) rfl rfl rfl rfl hpG rfl gx41) rfl ?_;refine hq (H.set tk1 (some (.tok 2 x41.l.length))) ?_;refine S As ?_;refine nil ?_;exact hK27 _ x41 Weak.toA hE
      refine AWp.skip ?_;exact hK27 _ s10_21 Weak.toA hE
     rintro s10_28 hE;try dsimp only at hE
     unfold Z69_j27 at hE;refine region ?_;refine S Mv ?_;refine SI ?_;refine S As ?_;refine nil ?_;exact hK20 _ (n20,s10_28,(s14_22+1)) Weak.toA hE (Nat.lt_succ_self _)
    refine AWp.exit ?_;exact hK16 _ s10_21 Weak.toA hE
 rintro s10_17 hE;try dsimp only at hE
 unfold Z69_j16 at hE;refine seqR ?_;refine S Mv (S As ?_);refine nil ?_;refine AWp.dropTok 6 rfl ?_;refine AWp.ret ?_;repeat (first|refine xBlock_ret ?_|refine xThen_ret ?_)
 obtain rfl:=Option.some.inj hE;refine retQ.retF H rfl ⟨rfl,rfl⟩ ?_
 first|exact Heap.sub_set htk1|(simp only [Heap.set_set]; exact Heap.sub_set htk1)
end Go.Proofs

namespace Go.Proofs
open Go Go.Ab
open AOps Cert AWp Keeps KeepsT
variable {lou:Lou}
def Z74_j3  (s5_4:(Sl TFault)):Option (Sl TFault):=some s5_4
def Z74_j14 (s6_9:Nat) (k_next_7:(Sl TFault)->Nat->Option (Sl TFault)) (s5_15:(Sl TFault)):Option (Sl TFault):=k_next_7 s5_15 (s6_9+1)
def Z74_l30 (a0:TDoc) (a1:TDef) (s6_9:Nat) (x28:(TDef×Bool)) (k_next_7:(Sl TFault)->Nat->Option (Sl TFault)):Nat->(Sl TFault)->Nat->Option (Sl TFault)
 | 0,_,_=>none
 | n30+1,s5_31,s10_32=>bif (decide (((s10_32:Nat):Int)<((x28.1.FFields.l.length:Nat):Int))) then((x28.1.FFields.l[s10_32]?).bind fun x38=>(Z69 a0 a1 x38).bind fun x39=>(appC 24 s5_31 x39).bind fun x40=>(Z74_l30 a0 a1 s6_9 x28 k_next_7 n30) x40 (s10_32+1)) else(Z74_j14 s6_9 k_next_7 s5_31)
def Z74_j19 (a0:TDoc) (a1:TDef) (s5_8:(Sl TFault)) (s6_9:Nat) (k_next_7:(Sl TFault)->Nat->Option (Sl TFault)) (s7_20:Int):Option (Sl TFault):=bif (!decide (s7_20=(0:Int))) then((appC 24 s5_8 (⟨false,[(TFault.mk s7_20 a1.FName)]⟩:Sl TFault)).bind fun x25=>Z74_j14 s6_9 k_next_7 x25) else((a1.FImplements.l[s6_9]?).bind fun x27=>(Z45 a0 x27).bind fun x28=>Z74_l30 a0 a1 s6_9 x28 k_next_7 (x28.1.FFields.l.length+1) s5_8 0)
def Z74_l7 (a0:TDoc) (a1:TDef) :Nat->(Sl TFault)->Nat->Option (Sl TFault)
 | 0,_,_=>none
 | n7+1,s5_8,s6_9=>bif (decide (((s6_9:Nat):Int)<((a1.FImplements.l.length:Nat):Int))) then((a1.FImplements.l[s6_9]?).bind fun x17=>(Z72 a0 x17 (2:Int)).bind fun x18=>guardO ((decide (x18=(0:Int)))) (partC a1.FImplements none (some ((s6_9:Nat):Int))) (Sl.nil:Sl Bs) fun x42=>guardO ((decide (x18=(0:Int)))) (a1.FImplements.l[s6_9]?) ([]:Bs) fun x43=>guardO ((decide (x18=(0:Int)))) (Z71 x42 x43) false fun x44=>bif ((decide (x18=(0:Int)))&&x44) then(Z74_j19 a0 a1 s5_8 s6_9 ((Z74_l7 a0 a1 n7)) (7:Int)) else(Z74_j19 a0 a1 s5_8 s6_9 ((Z74_l7 a0 a1 n7)) x18)) else(Z74_j3   s5_8)
def Z74 (a0:TDoc) (a1:TDef):Option (Sl TFault):=Z74_l7 a0 a1 (a1.FImplements.l.length+1) (Sl.nil:Sl TFault) 0
theorem Z74_walk {a0:TDoc}{a1:TDef}{r:Sl TFault}(hE:Z74 a0 a1=some r) (H:Heap) :ACalls Tryz.prog 37 [.agg (TDoc.c a0),.agg (TDef.c a1)] H fun v h'=>v=.a (.d (Sl.d 2 TFault.c none r))/\h'=H:=by
 unfold Z74 at hE;refine ACalls.oW 76 [.tmp 4] Tryz.call37 Tryz.func37 ?_;refine AWp.tok 2 fun tk1 htk1=>?_;refine seqR ?_;refine S BX (S BX ?_);refine s0 (assignNil (k':=2) rfl) rfl ?_;refine nil ?_;refine seqR ?_;refine S As ?_;refine nil ?_;refine AWp.nilTok 5 2 tk1 rfl hpG ?_;refine seqJH KeepsT.nil (fun(z:(Sl TFault))=>[(5,.a (.d (Sl.d 2 TFault.c (some tk1) z)))]) (fun z=>(H.set tk1 (some (.tok 2 z.l.length)))) (fun z=>Z74_j3 z=some r) ?_ ?_
 ·intro K3 hK3;refine seqR ?_;refine S As ?_;refine nil ?_;refine block ?_;refine loopH (TA 2 (TA 3 KeepsT.nil)) (fun(z:Nat×(Sl TFault)×Nat)=>[(5,.a (.d (Sl.d 2 TFault.c (some tk1) z.2.1))),(6,.a (.d (.int .i64 ((z.2.2:Nat):Int))))]) (fun z=>(H.set tk1 (some (.tok 2 z.2.1.l.length)))) (fun z=>z.1) (fun z=>Z74_l7 a0 a1 z.1 z.2.1 z.2.2=some r) ((a1.FImplements.l.length+1),(Sl.nil:Sl TFault),0) hE Weak.toA ?_
  rintro ⟨n7,s5_8,s6_9⟩ hE K7 hK7;try dsimp only at hE
  cases n7 with
  | zero=>cases hE
  | succ n7 =>
    rw [Z74_l7] at hE;refine seqK fun K10 hK10=>?_;refine seqR ?_;refine S Mv (S Fv (S Ld ?_));refine sLen (f:=strE) (s:=a1.FImplements) (TK rfl) rfl rfl rfl rfl fun hL12=>?_;refine S BI ?_;refine nil ?_;refine cE hE (fun hc13 hE=>?_) (fun hc13 hE=>?_)
    ·try dsimp only at hc13
     have hf13:=of_decide_eq_true hc13;refine sk hK10 ?_;clear hK10 K10;refine seqJH (TA 2 (TA 3 (TA 6 KeepsT.nil))) (fun(z:(Sl TFault))=>[(5,.a (.d (Sl.d 2 TFault.c (some tk1) z)))]) (fun z=>(H.set tk1 (some (.tok 2 z.l.length)))) (fun z=>Z74_j14 s6_9 ((Z74_l7 a0 a1 n7)) z=some r) ?_ ?_
     ·intro K14 hK14;refine block ?_;refine AWp.seqD ?_;refine Sd Ld (Sd Fv (Sd Ld (Sd Mv ?_)));obtain⟨x17,gx17,hE⟩:=bO hE;refine DOps.s0 (idxMn (f:=strE) (n:=s6_9) (TK rfl) rfl (TK rfl) rfl rfl rfl gx17) rfl ?_;refine Sd Ld ?_;obtain⟨x18,gx18,hE⟩:=bO hE;refine DOps.s0 (callP rfl rfl (fun H=>Z72_walk gx18 H)) rfl ?_;refine Sd As ?_;refine DOps.nil (by decide +kernel) ?_;refine seqJH (TA 2 (TA 3 (TA 5 (TA 6 KeepsT.nil)))) (fun(z:Int)=>[(7,.a (.d (.int .i64 z)))]) (fun z=>(H.set tk1 (some (.tok 2 s5_8.l.length)))) (fun z=>Z74_j19 a0 a1 s5_8 s6_9 ((Z74_l7 a0 a1 n7)) z=some r) ?_ ?_
      ·intro K19 hK19;refine AWp.seqD ?_;refine Sd Mv (Sd BI (Sd Mv (g0d Fv ?_)));refine g1d 28 rfl Ld ?_;refine g0d Mv ?_;obtain⟨x42,gx42,hE⟩:=gO hE;refine DOps.gC rfl rfl (fun hC=>ungdA (k:=29) rfl (ungdA (k:=30) rfl (partM (f:=strE) (l:=none) (r:=(some ((s6_9:Nat):Int))) (TK rfl) rfl (TK rfl) rfl rfl trivial rfl (gx42 hC)))) rfl ?_;refine g0d Fv ?_;refine g1d 32 rfl Ld ?_;refine g0d Mv ?_;obtain⟨x43,gx43,hE⟩:=gO hE
       refine DOps.gC rfl rfl (fun hC=>ungdA (k:=33) rfl (ungdA (k:=34) rfl (idxMn (f:=strE) (n:=s6_9) (TK rfl) rfl (TK rfl) rfl rfl rfl (gx43 hC)))) rfl ?_;refine g1d 35 rfl Ld ?_;obtain⟨x44,gx44,hE⟩:=gO hE;refine gc2d 31 36 rfl rfl rfl rfl rfl rfl (fun hC=>Z71_walk (gx44 hC)) ?_;refine Sd PA ?_;refine DOps.nil (by decide +kernel) ?_;refine cE hE (fun hc45 hE=>?_) (fun hc45 hE=>?_)
       ·refine region ?_;refine S As ?_;refine nil ?_;exact hK19 _ (7:Int) Weak.toA hE
       refine AWp.skip ?_;exact hK19 _ x18 Weak.toA hE
      rintro s7_20 hE;try dsimp only at hE
      unfold Z74_j19 at hE;refine seqK fun K21 hK21=>?_;refine seqR ?_;refine S Mv (S BI ?_);refine nil ?_;refine cE hE (fun hc23 hE=>?_) (fun hc23 hE=>?_)
      ·refine seqR ?_;refine S Mv (S Mv (S Fv (S Ld (S BU (S BV ?_)))));obtain⟨x25,gx25,hE⟩:=bO hE;refine sH (appM (f:=TFault.c) (TK rfl) rfl (TK rfl) (TK rfl) ⟨_,rfl⟩ rfl rfl (by decide) rfl rfl rfl rfl hpG rfl gx25) rfl ?_;refine hq (H.set tk1 (some (.tok 2 x25.l.length))) ?_;refine S As ?_;refine nil ?_;refine AWp.exit ?_;exact hK14 _ x25 Weak.toA hE
      refine sk hK21 ?_;clear hK21 K21;refine AWp.seqD ?_;refine Sd Ld (Sd Fv (Sd Ld (Sd Mv ?_)));obtain⟨x27,gx27,hE⟩:=bO hE;refine DOps.s0 (idxMn (f:=strE) (n:=s6_9) (TK rfl) rfl (TK rfl) rfl rfl rfl gx27) rfl ?_;refine Sd Ld ?_;obtain⟨x28,gx28,hE⟩:=bO hE;refine DOps.s0 (callP rfl rfl (fun H=>Z45_walk gx28 H)) rfl ?_;refine Sd Mv (Sd EX (Sd EX ?_));refine DOps.sB (TK rfl) rfl rfl ?_ (by repeat (first|exact Snoc.nil|apply Snoc.cons))
      refine DOps.sLn (storeLFA (TK rfl) rfl rfl rfl rfl rfl) ?_;refine Sd As ?_;refine DOps.nil (by decide +kernel) ?_;refine freezeA 8 _ rfl (KA 2 (KA 3 (KA 5 (KA 6 Keeps.nil)))) ?_;refine seqR ?_;refine S As ?_;refine nil ?_;refine block ?_;refine loopH (TA 2 (TA 3 (TA 6 (TA 8 KeepsT.nil)))) (fun(z:Nat×(Sl TFault)×Nat)=>[(5,.a (.d (Sl.d 2 TFault.c (some tk1) z.2.1))),(10,.a (.d (.int .i64 ((z.2.2:Nat):Int))))]) (fun z=>(H.set tk1 (some (.tok 2 z.2.1.l.length)))) (fun z=>z.1) (fun z=>Z74_l30 a0 a1 s6_9 x28 ((Z74_l7 a0 a1 n7)) z.1 z.2.1 z.2.2=some r) ((x28.1.FFields.l.length+1),s5_8,0) hE Weak.toA ?_
      rintro ⟨n30,s5_31,s10_32⟩ hE K30 hK30;try dsimp only at hE
      cases n30 with
      | zero=>cases hE
      | succ n30 =>
        rw [Z74_l30] at hE;refine seqK fun K33 hK33=>?_;refine seqR ?_;refine S Mv (S Fv (S Ld ?_));refine sLen (f:=TField.c) (s:=x28.1.FFields) (TK rfl) rfl rfl rfl rfl fun hL35=>?_;refine S BI ?_;refine nil ?_;refine cE hE (fun hc36 hE=>?_) (fun hc36 hE=>?_)
        ·try dsimp only at hc36
         have hf36:=of_decide_eq_true hc36;refine sk hK33 ?_;clear hK33 K33;refine seqK fun K37 hK37=>?_;refine block ?_;refine AWp.draw rfl ?_;refine Sd Mv (Sd Ld (Sd Ld (Sd Fv (Sd Ld (Sd Mv ?_)))));obtain⟨x38,gx38,hE⟩:=bO hE;refine DOps.s0 (idxMn (f:=TField.c) (n:=s10_32) (TK rfl) rfl (TK rfl) rfl rfl rfl gx38) rfl ?_;refine Sd Ld ?_;obtain⟨x39,gx39,hE⟩:=bO hE;refine DOps.s0 (callP rfl rfl (fun H=>Z69_walk gx39 H)) rfl ?_
         obtain⟨x40,gx40,hE⟩:=bO hE;refine DOps.sH (appM (f:=TFault.c) (TK rfl) rfl (TK rfl) (TK rfl) ⟨_,rfl⟩ rfl rfl (by decide) rfl rfl rfl rfl hpG rfl gx40) rfl ?_;refine DOps.Dh (H.set tk1 (some (.tok 2 x40.l.length))) ?_;refine Sd As ?_;refine DOps.nil (by decide +kernel) ?_;refine hK37 _ ?_;clear hK37 K37;refine region ?_;refine S Mv ?_;refine SI ?_;refine S As ?_;refine nil ?_;exact hK30 _ (n30,x40,(s10_32+1)) Weak.toA hE (Nat.lt_succ_self _)
        refine AWp.exit ?_;exact hK14 _ s5_31 Weak.toA hE
     rintro s5_15 hE;try dsimp only at hE
     unfold Z74_j14 at hE;refine region ?_;refine S Mv ?_;refine SI ?_;refine S As ?_;refine nil ?_;exact hK7 _ (n7,s5_15,(s6_9+1)) Weak.toA hE (Nat.lt_succ_self _)
    refine AWp.exit ?_;exact hK3 _ s5_8 Weak.toA hE
 rintro s5_4 hE;try dsimp only at hE
 unfold Z74_j3 at hE;refine seqR ?_;refine S Mv (S As ?_);refine nil ?_;refine AWp.dropTok 4 rfl ?_;refine AWp.ret ?_;repeat (first|refine xBlock_ret ?_|refine xThen_ret ?_)
 obtain rfl:=Option.some.inj hE;refine retQ.retF H rfl ⟨rfl,rfl⟩ ?_
 first|exact Heap.sub_set htk1|(simp only [Heap.set_set]; exact Heap.sub_set htk1)
def Z75_j3  (s5_4:(Sl TFault)):Option (Sl TFault):=some s5_4
def Z75_j14 (s6_9:Nat) (k_next_7:(Sl TFault)->Nat->Option (Sl TFault)) (s5_15:(Sl TFault)):Option (Sl TFault):=k_next_7 s5_15 (s6_9+1)
def Z75_j20 (a1:TDef) (s5_8:(Sl TFault)) (s6_9:Nat) (x17:TMember) (k_next_7:(Sl TFault)->Nat->Option (Sl TFault)) (s8_21:Int):Option (Sl TFault):=bif (!decide (s8_21=(0:Int))) then((catC a1.FName ([46]:Bs)).bind fun x24=>(catC x24 x17.FName).bind fun x25=>(appC 24 s5_8 (⟨false,[(TFault.mk s8_21 x25)]⟩:Sl TFault)).bind fun x26=>Z75_j14 s6_9 k_next_7 x26) else(Z75_j14 s6_9 k_next_7 s5_8)
def Z75_l7 (a0:TDoc) (a1:TDef) :Nat->(Sl TFault)->Nat->Option (Sl TFault)
 | 0,_,_=>none
 | n7+1,s5_8,s6_9=>bif (decide (((s6_9:Nat):Int)<((a1.FMembers.l.length:Nat):Int))) then((a1.FMembers.l[s6_9]?).bind fun x17=>(Z72 a0 x17.FName (1:Int)).bind fun x19=>guardO ((decide (x19=(0:Int)))) (partC a1.FMembers none (some ((s6_9:Nat):Int))) (Sl.nil:Sl TMember) fun x28=>guardO ((decide (x19=(0:Int)))) (Z73 (TDef.mk (0:Int) ([]:Bs) (Sl.nil:Sl Bs) (Sl.nil:Sl TDir) (Sl.nil:Sl TField) x28 (Sl.nil:Sl TInput)) x17.FName) false fun x29=>bif ((decide (x19=(0:Int)))&&x29) then(Z75_j20 a1 s5_8 s6_9 x17 ((Z75_l7 a0 a1 n7)) (7:Int)) else(Z75_j20 a1 s5_8 s6_9 x17 ((Z75_l7 a0 a1 n7)) x19)) else(Z75_j3   s5_8)
def Z75 (a0:TDoc) (a1:TDef):Option (Sl TFault):=Z75_l7 a0 a1 (a1.FMembers.l.length+1) (Sl.nil:Sl TFault) 0
theorem Z75_walk {a0:TDoc}{a1:TDef}{r:Sl TFault}(hE:Z75 a0 a1=some r) (H:Heap) :ACalls Tryz.prog 38 [.agg (TDoc.c a0),.agg (TDef.c a1)] H fun v h'=>v=.a (.d (Sl.d 2 TFault.c none r))/\h'=H:=by
 unfold Z75 at hE;refine ACalls.oW 49 [.tmp 4] Tryz.call38 Tryz.func38 ?_;refine AWp.tok 2 fun tk1 htk1=>?_;refine seqR ?_;refine S BX (S BX ?_);refine s0 (assignNil (k':=2) rfl) rfl ?_;refine nil ?_;refine seqR ?_;refine S As ?_;refine nil ?_;refine AWp.nilTok 5 2 tk1 rfl hpG ?_;refine seqJH KeepsT.nil (fun(z:(Sl TFault))=>[(5,.a (.d (Sl.d 2 TFault.c (some tk1) z)))]) (fun z=>(H.set tk1 (some (.tok 2 z.l.length)))) (fun z=>Z75_j3 z=some r) ?_ ?_
 ·intro K3 hK3;refine seqR ?_;refine S As ?_;refine nil ?_;refine block ?_;refine loopH (TA 2 (TA 3 KeepsT.nil)) (fun(z:Nat×(Sl TFault)×Nat)=>[(5,.a (.d (Sl.d 2 TFault.c (some tk1) z.2.1))),(6,.a (.d (.int .i64 ((z.2.2:Nat):Int))))]) (fun z=>(H.set tk1 (some (.tok 2 z.2.1.l.length)))) (fun z=>z.1) (fun z=>Z75_l7 a0 a1 z.1 z.2.1 z.2.2=some r) ((a1.FMembers.l.length+1),(Sl.nil:Sl TFault),0) hE Weak.toA ?_
  rintro ⟨n7,s5_8,s6_9⟩ hE K7 hK7;try dsimp only at hE
  cases n7 with
  | zero=>cases hE
  | succ n7 =>
    rw [Z75_l7] at hE;refine seqK fun K10 hK10=>?_;refine seqR ?_;refine S Mv (S Fv (S Ld ?_));refine sLen (f:=TMember.c) (s:=a1.FMembers) (TK rfl) rfl rfl rfl rfl fun hL12=>?_;refine S BI ?_;refine nil ?_;refine cE hE (fun hc13 hE=>?_) (fun hc13 hE=>?_)
    ·try dsimp only at hc13
     have hf13:=of_decide_eq_true hc13;refine sk hK10 ?_;clear hK10 K10;refine seqJH (TA 2 (TA 3 (TA 6 KeepsT.nil))) (fun(z:(Sl TFault))=>[(5,.a (.d (Sl.d 2 TFault.c (some tk1) z)))]) (fun z=>(H.set tk1 (some (.tok 2 z.l.length)))) (fun z=>Z75_j14 s6_9 ((Z75_l7 a0 a1 n7)) z=some r) ?_ ?_
     ·intro K14 hK14;refine block ?_;refine seqR ?_;refine S Fv (S Ld (S Mv ?_));obtain⟨x17,gx17,hE⟩:=bO hE;refine s0 (idxMn (f:=TMember.c) (n:=s6_9) (TK rfl) rfl (TK rfl) rfl rfl rfl gx17) rfl ?_;refine S Fv (S Ld (S As ?_));refine nil ?_;refine seqR ?_;refine S Ld (S Mv ?_);obtain⟨x19,gx19,hE⟩:=bO hE;refine Sc rfl rfl (Z72_walk gx19) ?_;refine S As ?_;refine nil ?_;refine seqJH (TA 2 (TA 3 (TA 5 (TA 6 (TA 7 KeepsT.nil))))) (fun(z:Int)=>[(8,.a (.d (.int .i64 z)))]) (fun z=>(H.set tk1 (some (.tok 2 s5_8.l.length)))) (fun z=>Z75_j20 a1 s5_8 s6_9 x17 ((Z75_l7 a0 a1 n7)) z=some r) ?_ ?_
      ·intro K20 hK20;refine seqR ?_;refine S Mv (S BI (S Mv (g0 Fv ?_)));refine g1 28 rfl Ld ?_;refine g0 Mv ?_;obtain⟨x28,gx28,hE⟩:=gO hE;refine gC rfl rfl (fun hC=>ungdA (k:=29) rfl (ungdA (k:=30) rfl (partM (f:=TMember.c) (l:=none) (r:=(some ((s6_9:Nat):Int))) (TK rfl) rfl (TK rfl) rfl rfl trivial rfl (gx28 hC)))) rfl ?_;refine g1 31 rfl BU ?_;refine g0 Mv ?_;obtain⟨x29,gx29,hE⟩:=gO hE;refine gc2 32 33 rfl rfl rfl rfl rfl rfl (fun hC=>Z73_walk (gx29 hC)) ?_
       refine S PA ?_;refine nil ?_;refine cE hE (fun hc30 hE=>?_) (fun hc30 hE=>?_)
       ·refine region ?_;refine S As ?_;refine nil ?_;exact hK20 _ (7:Int) Weak.toA hE
       refine AWp.skip ?_;exact hK20 _ x19 Weak.toA hE
      rintro s8_21 hE;try dsimp only at hE
      unfold Z75_j20 at hE;refine seqR ?_;refine S Mv (S BI ?_);refine nil ?_;refine cE hE (fun hc23 hE=>?_) (fun hc23 hE=>?_)
      ·refine region ?_;refine S Mv (S Mv (S Fv (S Ld ?_)));obtain⟨x24,gx24,hE⟩:=bO hE;refine s0 (catM rfl rfl gx24) rfl ?_;refine S Mv ?_;obtain⟨x25,gx25,hE⟩:=bO hE;refine s0 (catM rfl rfl gx25) rfl ?_;refine S BU (S BV ?_);obtain⟨x26,gx26,hE⟩:=bO hE;refine sH (appM (f:=TFault.c) (TK rfl) rfl (TK rfl) (TK rfl) ⟨_,rfl⟩ rfl rfl (by decide) rfl rfl rfl rfl hpG rfl gx26) rfl ?_;refine hq (H.set tk1 (some (.tok 2 x26.l.length))) ?_
       refine S As ?_;refine nil ?_;exact hK14 _ x26 Weak.toA hE
      refine AWp.skip ?_;exact hK14 _ s5_8 Weak.toA hE
     rintro s5_15 hE;try dsimp only at hE
     unfold Z75_j14 at hE;refine region ?_;refine S Mv ?_;refine SI ?_;refine S As ?_;refine nil ?_;exact hK7 _ (n7,s5_15,(s6_9+1)) Weak.toA hE (Nat.lt_succ_self _)
    refine AWp.exit ?_;exact hK3 _ s5_8 Weak.toA hE
 rintro s5_4 hE;try dsimp only at hE
 unfold Z75_j3 at hE;refine seqR ?_;refine S Mv (S As ?_);refine nil ?_;refine AWp.dropTok 4 rfl ?_;refine AWp.ret ?_;repeat (first|refine xBlock_ret ?_|refine xThen_ret ?_)
 obtain rfl:=Option.some.inj hE;refine retQ.retF H rfl ⟨rfl,rfl⟩ ?_
 first|exact Heap.sub_set htk1|(simp only [Heap.set_set]; exact Heap.sub_set htk1)
def Z64_j3  (s3_4:(Sl TFault)):Option (Sl TFault):=some s3_4
def Z64_j14 (s4_9:Nat) (k_next_7:(Sl TFault)->Nat->Option (Sl TFault)) (s3_15:(Sl TFault)):Option (Sl TFault):=k_next_7 s3_15 (s4_9+1)
def Z64_l7 (a0:TDoc) :Nat->(Sl TFault)->Nat->Option (Sl TFault)
 | 0,_,_=>none
 | n7+1,s3_8,s4_9=>bif (decide (((s4_9:Nat):Int)<((a0.FDefs.l.length:Nat):Int))) then((a0.FDefs.l[s4_9]?).bind fun x17=>bif (decide (x17.FKind=(1:Int))) then((a0.FDefs.l[s4_9]?).bind fun x20=>(Z74 a0 x20).bind fun x21=>(appC 24 s3_8 x21).bind fun x22=>Z64_j14 s4_9 ((Z64_l7 a0 n7)) x22) else(bif (decide (x17.FKind=(3:Int))) then((a0.FDefs.l[s4_9]?).bind fun x25=>(Z75 a0 x25).bind fun x26=>(appC 24 s3_8 x26).bind fun x27=>Z64_j14 s4_9 ((Z64_l7 a0 n7)) x27) else(Z64_j14 s4_9 ((Z64_l7 a0 n7)) s3_8))) else(Z64_j3   s3_8)
def Z64 (a0:TDoc):Option (Sl TFault):=Z64_l7 a0 (a0.FDefs.l.length+1) (Sl.nil:Sl TFault) 0
theorem Z64_walk {a0:TDoc}{r:Sl TFault}(hE:Z64 a0=some r) (H:Heap) :ACalls Tryz.prog 15 [.agg (TDoc.c a0)] H fun v h'=>v=.a (.d (Sl.d 2 TFault.c none r))/\h'=H:=by
 unfold Z64 at hE;refine ACalls.oW 41 [.tmp 2] Tryz.call15 Tryz.func15 ?_;refine AWp.tok 2 fun tk1 htk1=>?_;refine seqR ?_;refine S BX ?_;refine s0 (assignNil (k':=2) rfl) rfl ?_;refine nil ?_;refine seqR ?_;refine S As ?_;refine nil ?_;refine AWp.nilTok 3 2 tk1 rfl hpG ?_;refine seqJH KeepsT.nil (fun(z:(Sl TFault))=>[(3,.a (.d (Sl.d 2 TFault.c (some tk1) z)))]) (fun z=>(H.set tk1 (some (.tok 2 z.l.length)))) (fun z=>Z64_j3 z=some r) ?_ ?_
 ·intro K3 hK3;refine seqR ?_;refine S As ?_;refine nil ?_;refine block ?_;refine loopH (TA 1 KeepsT.nil) (fun(z:Nat×(Sl TFault)×Nat)=>[(3,.a (.d (Sl.d 2 TFault.c (some tk1) z.2.1))),(4,.a (.d (.int .i64 ((z.2.2:Nat):Int))))]) (fun z=>(H.set tk1 (some (.tok 2 z.2.1.l.length)))) (fun z=>z.1) (fun z=>Z64_l7 a0 z.1 z.2.1 z.2.2=some r) ((a0.FDefs.l.length+1),(Sl.nil:Sl TFault),0) hE Weak.toA ?_;rintro ⟨n7,s3_8,s4_9⟩ hE K7 hK7
  try dsimp only at hE
  cases n7 with
  | zero=>cases hE
  | succ n7 =>
    rw [Z64_l7] at hE;refine seqK fun K10 hK10=>?_;refine seqR ?_;refine S Mv (S Fv (S Ld ?_));refine sLen (f:=TDef.c) (s:=a0.FDefs) (TK rfl) rfl rfl rfl rfl fun hL12=>?_;refine S BI ?_;refine nil ?_;refine cE hE (fun hc13 hE=>?_) (fun hc13 hE=>?_)
    ·try dsimp only at hc13
     have hf13:=of_decide_eq_true hc13;refine sk hK10 ?_;clear hK10 K10;refine seqJH (TA 1 (TA 4 KeepsT.nil)) (fun(z:(Sl TFault))=>[(3,.a (.d (Sl.d 2 TFault.c (some tk1) z)))]) (fun z=>(H.set tk1 (some (.tok 2 z.l.length)))) (fun z=>Z64_j14 s4_9 ((Z64_l7 a0 n7)) z=some r) ?_ ?_
     ·intro K14 hK14;refine block ?_;refine seqR ?_;refine S Fv (S Ld (S Mv ?_));obtain⟨x17,gx17,hE⟩:=bO hE;refine s0 (idxMn (f:=TDef.c) (n:=s4_9) (TK rfl) rfl (TK rfl) rfl rfl rfl gx17) rfl ?_;refine S Fv (S Ld ?_);refine nil ?_;refine block ?_;refine seqR ?_;refine S BI (S As ?_);refine nil ?_;refine cE hE (fun hc19 hE=>?_) (fun hc19 hE=>?_)
      ·refine AWp.draw rfl ?_;refine Sd Mv (Sd Ld (Sd Fv (Sd Ld (Sd Mv ?_))));obtain⟨x20,gx20,hE⟩:=bO hE;refine DOps.s0 (idxMn (f:=TDef.c) (n:=s4_9) (TK rfl) rfl (TK rfl) rfl rfl rfl gx20) rfl ?_;refine Sd Ld ?_;obtain⟨x21,gx21,hE⟩:=bO hE;refine DOps.s0 (callP rfl rfl (fun H=>Z74_walk gx21 H)) rfl ?_;obtain⟨x22,gx22,hE⟩:=bO hE;refine DOps.sH (appM (f:=TFault.c) (TK rfl) rfl (TK rfl) (TK rfl) ⟨_,rfl⟩ rfl rfl (by decide) rfl rfl rfl rfl hpG rfl gx22) rfl ?_
       refine DOps.Dh (H.set tk1 (some (.tok 2 x22.l.length))) ?_;refine Sd As ?_;refine DOps.nil (by decide +kernel) ?_;exact hK14 _ x22 Weak.toA hE
      refine seqR ?_;refine S BI (S As ?_);refine nil ?_;refine cE hE (fun hc24 hE=>?_) (fun hc24 hE=>?_)
      ·refine AWp.draw rfl ?_;refine Sd Mv (Sd Ld (Sd Fv (Sd Ld (Sd Mv ?_))));obtain⟨x25,gx25,hE⟩:=bO hE;refine DOps.s0 (idxMn (f:=TDef.c) (n:=s4_9) (TK rfl) rfl (TK rfl) rfl rfl rfl gx25) rfl ?_;refine Sd Ld ?_;obtain⟨x26,gx26,hE⟩:=bO hE;refine DOps.s0 (callP rfl rfl (fun H=>Z75_walk gx26 H)) rfl ?_;obtain⟨x27,gx27,hE⟩:=bO hE;refine DOps.sH (appM (f:=TFault.c) (TK rfl) rfl (TK rfl) (TK rfl) ⟨_,rfl⟩ rfl rfl (by decide) rfl rfl rfl rfl hpG rfl gx27) rfl ?_
       refine DOps.Dh (H.set tk1 (some (.tok 2 x27.l.length))) ?_;refine Sd As ?_;refine DOps.nil (by decide +kernel) ?_;exact hK14 _ x27 Weak.toA hE
      refine AWp.skip ?_;exact hK14 _ s3_8 Weak.toA hE
     rintro s3_15 hE;try dsimp only at hE
     unfold Z64_j14 at hE;refine region ?_;refine S Mv ?_;refine SI ?_;refine S As ?_;refine nil ?_;exact hK7 _ (n7,s3_15,(s4_9+1)) Weak.toA hE (Nat.lt_succ_self _)
    refine AWp.exit ?_;exact hK3 _ s3_8 Weak.toA hE
 rintro s3_4 hE;try dsimp only at hE
 unfold Z64_j3 at hE;refine seqR ?_;refine S Mv (S As ?_);refine nil ?_;refine AWp.dropTok 2 rfl ?_;refine AWp.ret ?_;repeat (first|refine xBlock_ret ?_|refine xThen_ret ?_)
 obtain rfl:=Option.some.inj hE;refine retQ.retF H rfl ⟨rfl,rfl⟩ ?_
 first|exact Heap.sub_set htk1|(simp only [Heap.set_set]; exact Heap.sub_set htk1)
def Z42 (a0:TDoc) (a1:Bs):Option Bool:=(Z45 a0 a1).bind fun x3=>(Z51 a1).bind fun x5=>some (((!x5)&&x3.2)&&(((decide (x3.1.FKind=(1:Int)))||(decide (x3.1.FKind=(2:Int))))||(decide (x3.1.FKind=(3:Int)))))
theorem Z42_walk {a0:TDoc}{a1:Bs}{r:Bool}(hE:Z42 a0 a1=some r) (H:Heap) :ACalls Tryz.prog 82 [.agg (TDoc.c a0),.d (.str a1)] H fun v h'=>v=.a (.d (.bool r))/\h'=H:=by
 unfold Z42 at hE;refine ACalls.oW 34 [.tmp 4] Tryz.call82 Tryz.func82 ?_;refine seqR ?_;refine S BX (S As ?_);refine nil ?_;refine seqR ?_;refine S Ld (S Mv ?_);obtain⟨x3,gx3,hE⟩:=bO hE;refine Sc rfl rfl (Z45_walk gx3) ?_;refine S Mv (S EX (S EX ?_));refine Sl ?_;refine Sf ?_;refine S As ?_;refine nil ?_;refine freezeA 5 _ rfl (KA 1 (KA 6 Keeps.nil)) ?_;refine seqR ?_;refine S Mv ?_;obtain⟨x5,gx5,hE⟩:=bO hE
 refine Sc rfl rfl (Z51_walk gx5) ?_;refine S NB (S Mv (g0 Mv (S PA (S Mv (g0 Fv ?_)))));refine g1 20 rfl Ld ?_;refine g1 21 rfl BI ?_;refine g1 22 rfl Mv ?_;refine g0 Fv ?_;refine g1 24 rfl Ld ?_;refine g1 25 rfl BI ?_;refine gC rfl rfl (fun hC=>ungdA (k:=23) rfl (pickOrA rfl rfl rfl)) rfl ?_;refine g1 27 rfl Mv ?_;refine g0 Fv ?_;refine g1 29 rfl Ld ?_;refine g1 30 rfl BI ?_;refine gC rfl rfl (fun hC=>ungdA (k:=28) rfl (pickOrA rfl rfl rfl)) rfl ?_
 refine S PA (S As ?_);refine nil ?_;exact rt hE
def Z85 (a0:TDoc) (a1:Bs):Option Bs:=(Z42 a0 a1).bind fun x4=>bif x4 then(some a1) else(some ([]:Bs))
theorem Z85_walk {a0:TDoc}{a1 r:Bs}(hE:Z85 a0 a1=some r) (H:Heap) :ACalls Tryz.prog 40 [.agg (TDoc.c a0),.d (.str a1)] H fun v h'=>v=.a (.d (.str r))/\h'=H:=by
 unfold Z85 at hE;refine ACalls.oW 9 [.tmp 4] Tryz.call40 Tryz.func40 ?_;refine seqR ?_;refine S BX (S As ?_);refine nil ?_;refine seqK fun K2 hK2=>?_;refine seqR ?_;refine S Ld (S Mv ?_);obtain⟨x4,gx4,hE⟩:=bO hE;refine Sc rfl rfl (Z42_walk gx4) ?_;refine nil ?_;refine cE hE (fun hc5 hE=>?_) (fun hc5 hE=>?_)
 ·refine seqR ?_;refine S Mv (S As ?_);refine nil ?_;exact rt hE
 refine sk hK2 ?_;clear hK2 K2;refine seqR ?_;refine S As ?_;refine nil ?_;exact rt hE
def Z77_j2  (y3_l0:TFrag):Option (TFrag×Bool):=some ((TFrag.mk ([]:Bs) ([]:Bs) (Sl.nil:Sl TSel)),false)
def Z77_l6 (a0:TQuery) (a1:Bs) :Nat->Nat->TFrag->Option (TFrag×Bool)
 | 0,_,_=>none
 | n6+1,s6_7,y8_l0=>bif (decide (((s6_7:Nat):Int)<((a0.FFrags.l.length:Nat):Int))) then((a0.FFrags.l[s6_7]?).bind fun x15=>bif ((x15.FName==a1)) then((a0.FFrags.l[s6_7]?).bind fun x18=>some (x18,true)) else((Z77_l6 a0 a1 n6) (s6_7+1) y8_l0)) else(Z77_j2   y8_l0)
def Z77 (a0:TQuery) (a1:Bs):Option (TFrag×Bool):=Z77_l6 a0 a1 (a0.FFrags.l.length+1) 0 TFrag.zero
theorem Z77_walk {a0:TQuery}{a1:Bs}{r:TFrag×Bool}(hE:Z77 a0 a1=some r) (H:Heap) :ACalls Tryz.prog 59 [.agg (TQuery.c a0),.d (.str a1)] H fun v h'=>v=.tup [.agg (TFrag.c r.1),.d (.bool r.2)]/\h'=H:=by
 unfold Z77 at hE;refine ACalls.oW 28 [.cell 4 65,.tmp 5] Tryz.call59 Tryz.func59 ?_;refine seqR ?_;refine S BX ?_;refine Sl ?_;refine S As ?_;refine nil ?_;refine seqJ (TA 4 KeepsT.nil) (fun(z:TFrag)=>[]) (fun z=>[TFrag.c z]) (fun z=>H) (fun z=>Z77_j2 z=some r) ?_ ?_
 ·intro K2 hK2;refine seqR ?_;refine S As ?_;refine nil ?_;refine block ?_;refine loopO (TA 1 (TA 2 (TA 4 KeepsT.nil))) (fun(z:Nat×Nat×TFrag)=>[(6,.a (.d (.int .i64 ((z.2.1:Nat):Int))))]) (fun z=>[TFrag.c z.2.2]) (fun z=>H) (fun z=>z.1) (fun z=>Z77_l6 a0 a1 z.1 z.2.1 z.2.2=some r) ((a0.FFrags.l.length+1),0,TFrag.zero) hE Weak.toA ?_;rintro ⟨n6,s6_7,y8_l0⟩ hE K6 hK6;try dsimp only at hE
  cases n6 with
  | zero=>cases hE
  | succ n6 =>
    rw [Z77_l6] at hE;refine seqK fun K9 hK9=>?_;refine seqR ?_;refine S Mv (S Fv (S Ld ?_));refine sLen (f:=TFrag.c) (s:=a0.FFrags) (TK rfl) rfl rfl rfl rfl fun hL11=>?_;refine S BI ?_;refine nil ?_;refine cE hE (fun hc12 hE=>?_) (fun hc12 hE=>?_)
    ·try dsimp only at hc12
     have hf12:=of_decide_eq_true hc12;refine sk hK9 ?_;clear hK9 K9;refine seqK fun K13 hK13=>?_;refine block ?_;refine seqR ?_;refine S Fv (S Ld (S Mv ?_));obtain⟨x15,gx15,hE⟩:=bO hE;refine s0 (idxMn (f:=TFrag.c) (n:=s6_7) (TK rfl) rfl (TK rfl) rfl rfl rfl gx15) rfl ?_;refine S Fv (S Ld (S Mv (S BS ?_)));refine nil ?_;refine cE hE (fun hc16 hE=>?_) (fun hc16 hE=>?_)
     ·refine seqR ?_;refine S Fv (S Ld (S Mv ?_));obtain⟨x18,gx18,hE⟩:=bO hE;refine s0 (idxMn (f:=TFrag.c) (n:=s6_7) (TK rfl) rfl (TK rfl) rfl rfl rfl gx18) rfl ?_;refine S Ld ?_;refine Sf ?_;refine S As ?_;refine nil ?_;exact rt hE
     refine sk hK13 ?_;clear hK13 K13;refine region ?_;refine S Mv ?_;refine SI ?_;refine S As ?_;refine nil ?_;exact hK6 _ (n6,(s6_7+1),y8_l0) Weak.toA hE (Nat.lt_succ_self _)
    refine AWp.exit ?_;exact hK2 _ y8_l0 Weak.toA hE
 rintro y3_l0 hE;try dsimp only at hE
 unfold Z77_j2 at hE;refine seqR ?_;refine S BU ?_;refine Sf ?_;refine S As ?_;refine nil ?_;exact rt hE
def Z66_j4  :Option Bool:=some false
def Z66_l7 (a0:TDoc) (a2:Bs) (x3:(Sl Bs)) :Nat->Nat->Option Bool
 | 0,_=>none
 | n7+1,s8_8=>bif (decide (((s8_8:Nat):Int)<((x3.l.length:Nat):Int))) then((x3.l[s8_8]?).bind fun x15=>(Z65 a0 x15 a2).bind fun x16=>bif x16 then(some true) else((Z66_l7 a0 a2 x3 n7) (s8_8+1))) else(Z66_j4   )
def Z66 (a0:TDoc) (a1:Bs) (a2:Bs):Option Bool:=(Z67 a0 a1).bind fun x3=>Z66_l7 a0 a2 x3 (x3.l.length+1) 0
theorem Z66_walk {a0:TDoc}{a1 a2:Bs}{r:Bool}(hE:Z66 a0 a1 a2=some r) (H:Heap) :ACalls Tryz.prog 111 [.agg (TDoc.c a0),.d (.str a1),.d (.str a2)] H fun v h'=>v=.a (.d (.bool r))/\h'=H:=by
 unfold Z66 at hE;refine ACalls.oW 25 [.tmp 6] Tryz.call111 Tryz.func111 ?_;refine seqR ?_;refine S BX (S As ?_);refine nil ?_;refine seqR ?_;refine S Ld (S Mv ?_);obtain⟨x3,gx3,hE⟩:=bO hE;refine Sc rfl rfl (Z67_walk gx3) ?_;refine S As ?_;refine nil ?_;refine seqJH KeepsT.nil (fun(z:Unit)=>[]) (fun z=>H) (fun z=>Z66_j4 =some r) ?_ ?_
 ·intro K4 hK4;refine seqR ?_;refine S As ?_;refine nil ?_;refine block ?_;refine loopH (TA 2 (TA 3 (TA 7 KeepsT.nil))) (fun(z:Nat×Nat)=>[(8,.a (.d (.int .i64 ((z.2:Nat):Int))))]) (fun z=>H) (fun z=>z.1) (fun z=>Z66_l7 a0 a2 x3 z.1 z.2=some r) ((x3.l.length+1),0) hE Weak.toA ?_;rintro ⟨n7,s8_8⟩ hE K7 hK7;try dsimp only at hE
  cases n7 with
  | zero=>cases hE
  | succ n7 =>
    rw [Z66_l7] at hE;refine seqK fun K9 hK9=>?_;refine seqR ?_;refine S Mv (S Mv ?_);refine sLen (f:=strE) (s:=x3) (TK rfl) rfl rfl rfl rfl fun hL11=>?_;refine S BI ?_;refine nil ?_;refine cE hE (fun hc12 hE=>?_) (fun hc12 hE=>?_)
    ·try dsimp only at hc12
     have hf12:=of_decide_eq_true hc12;refine sk hK9 ?_;clear hK9 K9;refine seqK fun K13 hK13=>?_;refine block ?_;refine AWp.seqD ?_;refine Sd Ld (Sd Mv (Sd Mv ?_));obtain⟨x15,gx15,hE⟩:=bO hE;refine DOps.s0 (idxMn (f:=strE) (n:=s8_8) (TK rfl) rfl (TK rfl) rfl rfl rfl gx15) rfl ?_;refine Sd Ld (Sd Mv ?_);obtain⟨x16,gx16,hE⟩:=bO hE;refine DOps.s0 (callP rfl rfl (fun H=>Z65_walk gx16 H)) rfl ?_;refine DOps.nil (by decide +kernel) ?_
     refine cE hE (fun hc17 hE=>?_) (fun hc17 hE=>?_)
     ·refine seqR ?_;refine S As ?_;refine nil ?_;exact rt hE
     refine sk hK13 ?_;clear hK13 K13;refine region ?_;refine S Mv ?_;refine SI ?_;refine S As ?_;refine nil ?_;exact hK7 _ (n7,(s8_8+1)) Weak.toA hE (Nat.lt_succ_self _)
    refine AWp.exit ?_;exact hK4 _ () Weak.toA hE
 rintro _ hE;try dsimp only at hE
 unfold Z66_j4 at hE;refine seqR ?_;refine S As ?_;refine nil ?_;exact rt hE
end Go.Proofs
