import Derived.Test.YtimiconoebjfbaaGreatDoorV9
set_option maxRecDepth 100000
set_option maxHeartbeats 2000000
set_option linter.unusedVariables false
set_option linter.unusedSimpArgs false
namespace Go.Proofs
open Go Go.Ab
open AOps Cert AWp Keeps KeepsT
variable {lou:Lou}
def Z0 (a0:TDoc) (a1:TRef) (a2:TValue) (a3:TValue):Option (TValue×Int):=(Z4 (Coerce_coercer.mk a0 a3 true (0:Int)) a2).bind fun x6=>bif x6 then((Z94 a0 a1.FName).bind fun x10=>bif (!x10) then(some ((TValue.mk (0:Int) (0:Int) ([]:Bs) true ([]) (Sl.nil:Sl Bs)),(10:Int))) else(some ((TValue.mk (0:Int) (0:Int) ([]:Bs) true ([]) (Sl.nil:Sl Bs)),(8:Int)))) else((coerce_coercer_at (Coerce_coercer.mk a0 a3 true (0:Int)) a1 a2 (1:Int)).bind fun x15=>(Z8 x15.1 x15.2.1).bind fun x16=>some (x16.1,x16.2))
theorem Z0_walk {a0:TDoc}{a1:TRef}{a2 a3:TValue}{oT:Ab.Obj}{gT:Nat}{r:TValue×Int}(hE:Z0 a0 a1 a2 a3=some r) (H:Heap) (hgT:H gT=some oT) (hoT:IsTab Tryz.prog oT):ACalls Tryz.prog 50 [.agg (TDoc.c a0),.agg (TRef.c a1),.agg (TValue.c a2),.agg (TValue.c a3)] H fun v h'=>v=.tup [.agg (TValue.c r.1),.d (.int .i64 r.2)]/\h'=H:=by
 unfold Z0 at hE;refine ACalls.oW 34 [.cell 8 44,.tmp 9] Tryz.call50 Tryz.func50 ?_;refine seqR ?_;refine S BX (S BX (S BX (S BX ?_)));refine Sl ?_;refine S As ?_;refine nil ?_;refine seqR ?_;refine S Ld (S Ld (S BU ?_));refine sE (StepE.boxO rfl) rfl (fun _ _ _ ⟨id14_3,hid14_3,e1,e2,e3⟩=>?_); subst e1 e2 e3;have ne_id14_3_gT:id14_3≠gT:=fun e_=>by subst e_; simp_all
 refine hq (H.set id14_3 (some (.cells (Coerce_coercer.c (Coerce_coercer.mk a0 a3 true (0:Int)))))) ?_;refine S As ?_;refine nil ?_;refine seqK fun K4 hK4=>?_;refine seqR ?_;refine S Mv (S Ld ?_);obtain⟨x6,gx6,hE⟩:=bO hE;refine s0 (callR rfl rfl (Z4_walk gx6 _ hpG)) rfl ?_;refine nil ?_;refine cE hE (fun hc7 hE=>?_) (fun hc7 hE=>?_)
 ·refine seqK fun K8 hK8=>?_;refine seqR ?_;refine S Ld (S Fv (S Ld ?_));obtain⟨x10,gx10,hE⟩:=bO hE;refine Sc rfl rfl (Z94_walk gx10) ?_;refine S NB ?_;refine nil ?_;refine cE hE (fun hc11 hE=>?_) (fun hc11 hE=>?_)
  ·refine seqR ?_;refine S BU ?_;refine Sf ?_;refine S As ?_;refine nil ?_;refine AWp.ret ?_;repeat (first|refine xBlock_ret ?_|refine xThen_ret ?_)
   obtain rfl:=Option.some.inj hE;refine retQ.retF H rfl ⟨rfl,rfl⟩ ?_
   first|exact Heap.sub_set hid14_3|(simp only [Heap.set_set]; exact Heap.sub_set hid14_3)
  refine sk hK8 ?_;clear hK8 K8;refine seqR ?_;refine S BU ?_;refine Sf ?_;refine S As ?_;refine nil ?_;refine AWp.ret ?_;repeat (first|refine xBlock_ret ?_|refine xThen_ret ?_)
  obtain rfl:=Option.some.inj hE;refine retQ.retF H rfl ⟨rfl,rfl⟩ ?_
  first|exact Heap.sub_set hid14_3|(simp only [Heap.set_set]; exact Heap.sub_set hid14_3)
 refine sk hK4 ?_;clear hK4 K4;refine seqR ?_;refine S Mv (S Ld (S Ld ?_));obtain⟨x15,gx15,hE⟩:=bO hE;refine sH (callH rfl rfl (coerce_coercer_at_walk (gT:=gT) (oT:=oT) gx15 _ hpG hpG (by assumption))) rfl ?_;refine hq (H.set id14_3 (some (.cells (Coerce_coercer.c x15.2.2)))) ?_;refine S EX (S EX ?_);obtain⟨x16,gx16,hE⟩:=bO hE;refine Sc rfl rfl (Z8_walk gx16) ?_;refine S EX (S EX ?_);refine Sf ?_;refine S As ?_
 refine nil ?_;refine AWp.ret ?_;repeat (first|refine xBlock_ret ?_|refine xThen_ret ?_)
 obtain rfl:=Option.some.inj hE;refine retQ.retF H rfl ⟨rfl,rfl⟩ ?_
 first|exact Heap.sub_set hid14_3|(simp only [Heap.set_set]; exact Heap.sub_set hid14_3)
def Z130_j10 (s17_5:Nat) (k_next_4:Nat->Vars_checker->Option Vars_checker) (y11_c0:Vars_checker):Option Vars_checker:=k_next_4 (s17_5+1) y11_c0
def Z130_j29 (a1:TOp) (a2:(Sl Bs)) (s17_5:Nat) (x13:TVar) (k_next_4:Nat->Vars_checker->Option Vars_checker) (y30_c0:Vars_checker):Option Vars_checker:=(Z103 a2 x13.FName).bind fun x31=>(Z129 y30_c0 (!x31) (26:Int) a1.FName).bind fun x32=>Z130_j10 s17_5 k_next_4 x32
def Z130_l4 (a1:TOp) (a2:(Sl Bs)) :Nat->Nat->Vars_checker->Option Vars_checker
 | 0,_,_=>none
 | n4+1,s17_5,y6_c0=>bif (decide (((s17_5:Nat):Int)<((a1.FVars.l.length:Nat):Int))) then((a1.FVars.l[s17_5]?).bind fun x13=>(partC a1.FVars none (some ((s17_5:Nat):Int))).bind fun x15=>(Z101 x15 (fun y0=>Z131 y0 x13)).bind fun x16=>(Z129 y6_c0 x16 (7:Int) a1.FName).bind fun x18=>(Z92 x18.Fd x13.FType.FName).bind fun x20=>guardO (!x20.2) (Z97 x13.FType.FName) false fun x22=>(Z94 x18.Fd x13.FType.FName).bind fun x24=>(Z129 x18 (!(x20.2||x22)) (8:Int) a1.FName).bind fun x26=>(Z129 x26 ((x20.2||x22)&&(!x24)) (10:Int) a1.FName).bind fun x28=>bif (x13.FHas&&x24) then((Z0 x28.Fd x13.FType x13.FDefault (TValue.mk (6:Int) (0:Int) ([]:Bs) true ([]) (Sl.nil:Sl Bs))).bind fun x36=>(Z129 x28 (!decide (x36.2=(0:Int))) (23:Int) a1.FName).bind fun x37=>Z130_j29 a1 a2 s17_5 x13 ((Z130_l4 a1 a2 n4)) x37) else(Z130_j29 a1 a2 s17_5 x13 ((Z130_l4 a1 a2 n4)) x28)) else(some y6_c0)
def Z130 (a0:Vars_checker) (a1:TOp) (a2:(Sl Bs)):Option Vars_checker:=Z130_l4 a1 a2 (a1.FVars.l.length+1) 0 a0
theorem Z130_walk {a0:Vars_checker}{a1:TOp}{a2:Sl Bs}{w2:Option Nat}{oT:Ab.Obj}{c0 c0_2 gT:Nat}{r:Vars_checker}(hE:Z130 a0 a1 a2=some r) (H:Heap) (hc0:H c0=some (.cells (Vars_checker.cg (some c0_2) a0))) (ht0_2:H c0_2=some (.tok 2 a0.Fout.l.length)) (hgT:H gT=some oT) (hoT:IsTab Tryz.prog oT):ACalls Tryz.prog 17 [.d (.ptr c0 0),.agg (TOp.c a1),.d (Sl.d 1 strE w2 a2)] H fun v h'=>v=.tup []/\h'=((H.set c0_2 (some (.tok 2 r.Fout.l.length))).set c0 (some (.cells (Vars_checker.cg (some c0_2) r)))):=by
 unfold Z130 at hE;refine ACalls.oW 108 [] Tryz.call17 Tryz.func17 ?_;have ne_c0_c0_2:c0≠c0_2:=fun e_=>by subst e_; simp_all
 have ne_gT_c0_2:gT≠c0_2:=fun e_=>by subst e_; obtain⟨_,_,_,e2_,_⟩:=hoT; simp_all
 have ne_gT_c0:gT≠c0:=fun e_=>by subst e_; obtain⟨_,_,_,e2_,_⟩:=hoT; simp_all
 refine AWp.heqA (h':=((H.set c0_2 (some (.tok 2 a0.Fout.l.length))).set c0 (some (.cells (Vars_checker.cg (some c0_2) a0))))) (by funext n_; simp only [Heap.set]; (repeat' split)<;>simp_all) ?_;refine seqR ?_;refine S BX ?_;refine nil ?_;refine seqR ?_;refine S Fv (S Ld ?_);refine sLen (f:=TVar.c) (s:=a1.FVars) (TK rfl) rfl rfl rfl rfl fun hL3=>?_;refine S Mv ?_;refine nil ?_;refine block ?_;refine loopH (TA 0 (TA 2 (TA 4 (TA 15 (TA 16 KeepsT.nil))))) (fun(z:Nat×Nat×Vars_checker)=>[(17,.a (.d (.int .i64 ((z.2.1:Nat):Int))))]) (fun z=>((H.set c0_2 (some (.tok 2 z.2.2.Fout.l.length))).set c0 (some (.cells (Vars_checker.cg (some c0_2) z.2.2))))) (fun z=>z.1) (fun z=>Z130_l4 a1 a2 z.1 z.2.1 z.2.2=some r) ((a1.FVars.l.length+1),0,a0) hE Weak.toA ?_
 rintro ⟨n4,s17_5,y6_c0⟩ hE K4 hK4;try dsimp only at hE
 cases n4 with
 | zero=>cases hE
 | succ n4 =>
   rw [Z130_l4] at hE;refine seqR ?_;refine S BI ?_;refine nil ?_;refine seqK fun K8 hK8=>?_;refine cE hE (fun hc9 hE=>?_) (fun hc9 hE=>?_)
   ·try dsimp only at hc9
    have hf9:=of_decide_eq_true hc9;refine sk hK8 ?_;clear hK8 K8;refine seqJH (TA 0 (TA 2 (TA 4 (TA 15 (TA 16 (TA 17 KeepsT.nil)))))) (fun(z:Vars_checker)=>[]) (fun z=>((H.set c0_2 (some (.tok 2 z.Fout.l.length))).set c0 (some (.cells (Vars_checker.cg (some c0_2) z))))) (fun z=>Z130_j10 s17_5 ((Z130_l4 a1 a2 n4)) z=some r) ?_ ?_
    ·intro K10 hK10;refine block ?_;refine seqR ?_;refine S Mv ?_;obtain⟨x13,gx13,hE⟩:=bO hE;refine s0 (idxMn (f:=TVar.c) (n:=s17_5) (TK rfl) rfl (TK rfl) rfl rfl rfl gx13) rfl ?_;refine S Ld ?_;refine Sl ?_;refine S As ?_;refine Sf ?_;refine nil ?_;refine freezeA 7 _ rfl (KA 0 (KA 2 (KA 4 (KA 6 (KA 15 (KA 16 (KA 17 Keeps.nil))))))) ?_;refine seqR ?_;refine S Fv (S Ld (S Mv ?_));obtain⟨x15,gx15,hE⟩:=bO hE
     refine s0 (partM (f:=TVar.c) (l:=none) (r:=(some ((s17_5:Nat):Int))) (TK rfl) rfl (TK rfl) rfl rfl trivial rfl gx15) rfl ?_;refine s0 (makeFunc rfl) rfl ?_;obtain⟨x16,gx16,hE⟩:=bO hE;refine s0 (callP rfl rfl (fun H=>Z101_walk gx16 H (fun _ _ hx=>Z131_walk hx))) rfl ?_;refine S As ?_;refine nil ?_;refine seqR ?_;refine S Mv (S Mv (S Fv (S Ld ?_)));obtain⟨x18,gx18,hE⟩:=bO hE;refine sH (callH rfl rfl (Z129_walk gx18 _ hpG hpG)) rfl ?_
     refine hq ((H.set c0_2 (some (.tok 2 x18.Fout.l.length))).set c0 (some (.cells (Vars_checker.cg (some c0_2) x18)))) ?_;refine nil ?_;refine AWp.seqD ?_;refine Sd Mv (Sd NP ?_);refine DOps.s0 (fieldP (TK rfl) rfl rfl (TK rfl) rfl rfl) rfl ?_;refine DOps.s0 (loadP (TK rfl) rfl rfl hpG rfl) rfl ?_;refine Sd Fv (Sd Fv (Sd Ld ?_));obtain⟨x20,gx20,hE⟩:=bO hE;refine DOps.s0 (callP rfl rfl (fun H=>Z92_walk gx20 H)) rfl ?_
     refine Sd Mv (Sd EX (Sd EX ?_));refine DOps.sB (TK rfl) rfl rfl ?_ (by repeat (first|exact Snoc.nil|apply Snoc.cons));refine DOps.sLn (storeLFA (TK rfl) rfl rfl rfl rfl rfl) ?_;refine Sd As ?_;refine DOps.nil (by decide +kernel) ?_;refine freezeA 9 _ rfl (KA 0 (KA 2 (KA 4 (KA 7 (KA 10 (KA 15 (KA 16 (KA 17 Keeps.nil)))))))) ?_;refine seqR ?_;refine S Mv (S Mv (g0 Fv ?_));refine g1 46 rfl Fv ?_
     refine g1 47 rfl Ld ?_;obtain⟨x22,gx22,hE⟩:=gO hE;refine gc1 48 rfl rfl rfl rfl rfl (fun hC=>Z97_walk (gx22 hC)) ?_;refine S PO (S As ?_);refine nil ?_;refine AWp.seqD ?_;refine Sd Mv (Sd NP ?_);refine DOps.s0 (fieldP (TK rfl) rfl rfl (TK rfl) rfl rfl) rfl ?_;refine DOps.s0 (loadP (TK rfl) rfl rfl hpG rfl) rfl ?_;refine Sd Fv (Sd Fv (Sd Ld ?_));obtain⟨x24,gx24,hE⟩:=bO hE;refine DOps.s0 (callP rfl rfl (fun H=>Z94_walk gx24 H)) rfl ?_
     refine Sd As ?_;refine DOps.nil (by decide +kernel) ?_;refine seqR ?_;refine S Mv (S Mv (S NB (S Fv (S Ld ?_))));obtain⟨x26,gx26,hE⟩:=bO hE;refine sH (callH rfl rfl (Z129_walk gx26 _ hpG hpG)) rfl ?_;refine hq ((H.set c0_2 (some (.tok 2 x26.Fout.l.length))).set c0 (some (.cells (Vars_checker.cg (some c0_2) x26)))) ?_;refine nil ?_;refine seqR ?_;refine S Mv (S Mv (S Mv (g0 Mv ?_)));refine g1 68 rfl NB ?_
     refine S PA (S Fv (S Ld ?_));obtain⟨x28,gx28,hE⟩:=bO hE;refine sH (callH rfl rfl (Z129_walk gx28 _ hpG hpG)) rfl ?_;refine hq ((H.set c0_2 (some (.tok 2 x28.Fout.l.length))).set c0 (some (.cells (Vars_checker.cg (some c0_2) x28)))) ?_;refine nil ?_;refine seqJH (TA 0 (TA 2 (TA 4 (TA 7 (TA 15 (TA 16 (TA 17 KeepsT.nil))))))) (fun(z:Vars_checker)=>[]) (fun z=>((H.set c0_2 (some (.tok 2 z.Fout.l.length))).set c0 (some (.cells (Vars_checker.cg (some c0_2) z))))) (fun z=>Z130_j29 a1 a2 s17_5 x13 ((Z130_l4 a1 a2 n4)) z=some r) ?_ ?_
     ·intro K29 hK29;refine seqR ?_;refine S Fv (S Ld (S Mv (g0 Mv (S PA ?_))));refine nil ?_;refine cE hE (fun hc34 hE=>?_) (fun hc34 hE=>?_)
      ·refine AWp.seqD ?_;refine Sd Mv (Sd NP ?_);refine DOps.s0 (fieldP (TK rfl) rfl rfl (TK rfl) rfl rfl) rfl ?_;refine DOps.s0 (loadP (TK rfl) rfl rfl hpG rfl) rfl ?_;refine Sd Fv (Sd Ld (Sd Fv (Sd Ld (Sd BU ?_))));obtain⟨x36,gx36,hE⟩:=bO hE;refine DOps.s0 (callR rfl rfl (Z0_walk (gT:=gT) (oT:=oT) gx36 _ hpG (by assumption))) rfl ?_;refine Sd Mv (Sd EX (Sd EX ?_));refine DOps.sB (TK rfl) rfl rfl ?_ (by repeat (first|exact Snoc.nil|apply Snoc.cons))
       refine DOps.sLn (storeLFA (TK rfl) rfl rfl rfl rfl rfl) ?_;refine Sd As ?_;refine DOps.nil (by decide +kernel) ?_;refine freezeA 12 _ rfl (KA 0 (KA 2 (KA 4 (KA 7 (KA 13 (KA 15 (KA 16 (KA 17 Keeps.nil)))))))) ?_;refine region ?_;refine S Mv (S Mv (S BI (S Fv (S Ld ?_))));obtain⟨x37,gx37,hE⟩:=bO hE;refine sH (callH rfl rfl (Z129_walk gx37 _ hpG hpG)) rfl ?_;refine hq ((H.set c0_2 (some (.tok 2 x37.Fout.l.length))).set c0 (some (.cells (Vars_checker.cg (some c0_2) x37)))) ?_
       refine nil ?_;exact hK29 _ x37 Weak.toA hE
      refine AWp.skip ?_;exact hK29 _ x28 Weak.toA hE
     rintro y30_c0 hE;try dsimp only at hE
     unfold Z130_j29 at hE;refine AWp.draw rfl ?_;refine Sd Mv (Sd Mv (Sd Fv (Sd Ld ?_)));obtain⟨x31,gx31,hE⟩:=bO hE;refine DOps.s0 (callP rfl rfl (fun H=>Z103_walk gx31 H)) rfl ?_;refine Sd NB (Sd Fv (Sd Ld ?_));obtain⟨x32,gx32,hE⟩:=bO hE;refine DOps.sH (callH rfl rfl (Z129_walk gx32 _ hpG hpG)) rfl ?_;refine DOps.Dh ((H.set c0_2 (some (.tok 2 x32.Fout.l.length))).set c0 (some (.cells (Vars_checker.cg (some c0_2) x32)))) ?_
     refine DOps.nil (by decide +kernel) ?_;exact hK10 _ x32 Weak.toA hE
    rintro y11_c0 hE;try dsimp only at hE
    unfold Z130_j10 at hE;refine region ?_;refine SI ?_;refine S Mv ?_;refine nil ?_;exact hK4 _ (n4,(s17_5+1),y11_c0) Weak.toA hE (Nat.lt_succ_self _)
   refine AWp.exit ?_;repeat (first|refine xBlock_normal ?_|refine xThen_exit ?_|refine xBlock_exit ?_)
   obtain rfl:=Option.some.inj hE;refine retQ.normalF ((H.set c0_2 (some (.tok 2 y6_c0.Fout.l.length))).set c0 (some (.cells (Vars_checker.cg (some c0_2) y6_c0)))) (xs:=[]) rfl ⟨rfl,rfl⟩ ?_;exact(fun _ _ h=>h)
def Z105_j8  :Option Bool:=some true
def Z105_l12 (a0:(Sl Int)) (a1:(Sl Int)) :Nat->Nat->Option Bool
 | 0,_=>none
 | n12+1,s13_13=>bif (decide (((s13_13:Nat):Int)<((a0.l.length:Nat):Int))) then((a0.l[s13_13]?).bind fun x20=>(a1.l[s13_13]?).bind fun x21=>bif (!decide (x20=x21)) then(some false) else((Z105_l12 a0 a1 n12) (s13_13+1))) else(Z105_j8   )
def Z105 (a0:(Sl Int)) (a1:(Sl Int)):Option Bool:=bif (!decide (((a0.l.length:Nat):Int)=((a1.l.length:Nat):Int))) then(some false) else(Z105_l12 a0 a1 (a0.l.length+1) 0)
theorem Z105_walk {a0 a1:Sl Int}{w0 w1:Option Nat}{r:Bool}(hE:Z105 a0 a1=some r) (H:Heap) :ACalls Tryz.prog 124 [.d (Sl.d 1 (intE .i64) w0 a0),.d (Sl.d 1 (intE .i64) w1 a1)] H fun v h'=>v=.a (.d (.bool r))/\h'=H:=by
 unfold Z105 at hE;refine ACalls.oW 26 [.tmp 4] Tryz.call124 Tryz.func124 ?_;refine seqR ?_;refine S As ?_;refine nil ?_;refine seqK fun K2 hK2=>?_;refine seqR ?_;refine S Mv ?_;refine sLen (f:=(intE .i64)) (s:=a0) (TK rfl) rfl rfl rfl rfl fun hL4=>?_;refine S Mv ?_;refine sLen (f:=(intE .i64)) (s:=a1) (TK rfl) rfl rfl rfl rfl fun hL5=>?_;refine S BI ?_;refine nil ?_;refine cE hE (fun hc6 hE=>?_) (fun hc6 hE=>?_)
 ·refine seqR ?_;refine S As ?_;refine nil ?_;exact rt hE
 refine sk hK2 ?_;clear hK2 K2;refine seqJH KeepsT.nil (fun(z:Unit)=>[]) (fun z=>H) (fun z=>Z105_j8 =some r) ?_ ?_
 ·intro K8 hK8;refine seqR ?_;refine S Mv ?_;refine sLen (f:=(intE .i64)) (s:=a0) (TK rfl) rfl rfl rfl rfl fun hL11=>?_;refine S Mv ?_;refine nil ?_;refine block ?_;refine loopH (TA 0 (TA 1 (TA 12 KeepsT.nil))) (fun(z:Nat×Nat)=>[(13,.a (.d (.int .i64 ((z.2:Nat):Int))))]) (fun z=>H) (fun z=>z.1) (fun z=>Z105_l12 a0 a1 z.1 z.2=some r) ((a0.l.length+1),0) hE Weak.toA ?_;rintro ⟨n12,s13_13⟩ hE K12 hK12
  try dsimp only at hE
  cases n12 with
  | zero=>cases hE
  | succ n12 =>
    rw [Z105_l12] at hE;refine seqR ?_;refine S BI ?_;refine nil ?_;refine seqK fun K15 hK15=>?_;refine cE hE (fun hc16 hE=>?_) (fun hc16 hE=>?_)
    ·try dsimp only at hc16
     have hf16:=of_decide_eq_true hc16;refine sk hK15 ?_;clear hK15 K15;refine seqK fun K17 hK17=>?_;refine block ?_;refine seqR ?_;refine S Mv (S As ?_);refine nil ?_;refine AWp.seqD ?_;refine Sd Mv (Sd Mv ?_);obtain⟨x20,gx20,hE⟩:=bO hE;refine DOps.s0 (idxMn (f:=(intE .i64)) (n:=s13_13) (TK rfl) rfl (TK rfl) rfl rfl rfl gx20) rfl ?_;refine Sd Ld (Sd Mv (Sd Mv ?_));obtain⟨x21,gx21,hE⟩:=bO hE;refine DOps.s0 (idxMn (f:=(intE .i64)) (n:=s13_13) (TK rfl) rfl (TK rfl) rfl rfl rfl gx21) rfl ?_
     refine Sd Ld (Sd BI ?_);refine DOps.nil (by decide +kernel) ?_;refine cE hE (fun hc22 hE=>?_) (fun hc22 hE=>?_)
     ·refine seqR ?_;refine S As ?_;refine nil ?_;exact rt hE
     refine sk hK17 ?_;clear hK17 K17;refine region ?_;refine SI ?_;refine S Mv ?_;refine nil ?_;exact hK12 _ (n12,(s13_13+1)) Weak.toA hE (Nat.lt_succ_self _)
    refine AWp.exit ?_;exact hK8 _ () Weak.toA hE
 rintro _ hE;try dsimp only at hE
 unfold Z105_j8 at hE;refine seqR ?_;refine S As ?_;refine nil ?_;exact rt hE
def Tryz.lay150_ren:Go.Shelf.Ren:=⟨fun|10=>150|6=>153|n=>n,fun|22=>39|23=>3|25=>176|3=>3|4=>4|0=>0|n=>n,fun|n=>n⟩
theorem Tryz.lay150:Go.Proofs.SlLaysH.n10 Tryz.prog Tryz.lay150_ren:={
 mixed:=by kernel_rfl
 f6:=⟨Tryz.f153.name,by decide,Tryz.func153.trans (congrArg some (by kernel_rfl))⟩
 f10:=⟨Tryz.f150.name,by decide,Tryz.func150.trans (congrArg some (by kernel_rfl))⟩
 t0:=Tryz.underlying0
 a0:=Tryz.isAgg0
 z0:=Tryz.sizeOf0
 v0:=Tryz.zeroValue0
 t3:=Tryz.underlying3
 a3:=Tryz.isAgg3
 z3:=Tryz.sizeOf3
 v3:=Tryz.zeroValue3
 t4:=Tryz.underlying4
 a4:=Tryz.isAgg4
 z4:=Tryz.sizeOf4
 v4:=Tryz.zeroValue4
 t22:=Tryz.underlying39
 a22:=Tryz.isAgg39
 z22:=Tryz.sizeOf39
 v22:=Tryz.zeroValue39
 a23:=Tryz.isAgg3
 z23:=Tryz.sizeOf3
 t25:=Tryz.underlying176
 a25:=Tryz.isAgg176
 z25:=Tryz.sizeOf176
 v25:=Tryz.zeroValue176 }
theorem Z104_walk {s:Sl Int}{f:Int->Option Bool}{g:Nat}(ht:∀x,∃z,f x=some z) (eg:∀args w,(callFunc g args).run Tryz.prog w=.ok (.enter g args) w) (hg:∀x z w,f x=some z->Calls Tryz.prog g #[.int .i64 x] w fun e w'=>e=.returned (.bool z)/\w'=w)
  {H:Heap}{id m:Nat}{nl:Bool}(hH:H id=some (.arr 1 (s.l.map (intE .i64)))) (hm:m=s.l.length) (hn:nl=s.nl):ACalls Tryz.prog 150 [.d (.arr 1 id nl m),.d (.func g [])] H fun r h'=>r=.a (.d (Sl.d 1 (intE .i64) none (delL f s)))/\h'=H.set id none :=
 delI_calls Tryz.lay150 Tryz.zeroValue3 ht eg hg hH hm hn rfl
def Z122 (a0:Int):Option Bool:=some (decide (a0=(1:Int)))
theorem Z122_tot (x:Int):∃z,Z122 x=some z:=⟨_,rfl⟩
theorem Z122_enter (args:Array Value) (w:World):(callFunc 151 args).run Tryz.prog w=.ok (.enter 151 args) w:=Tryz.call151 args w
theorem Z122_calls (x:Int) (z:Bool) (w:World) (h:Z122 x=some z):Calls Tryz.prog 151 #[.int .i64 x] w fun e w'=>e=.returned (.bool z)/\w'=w:=by
 obtain rfl:=Option.some.inj h
 go_enter Tryz.func151,Tryz.ntmps151
 go_wp2
 go_ret
 exact⟨rfl,rfl⟩
def Z121 (a0:(Sl Int)):Option (Sl Int):=(Z99 a0).bind fun x3=>(some (delL Z122 x3)).bind fun x4=>some x4
theorem Z121_walk {a0:Sl Int}{w0:Option Nat}{r:Sl Int}(hE:Z121 a0=some r) (H:Heap) :ACalls Tryz.prog 142 [.d (Sl.d 1 (intE .i64) w0 a0)] H fun v h'=>v=.a (.d (Sl.d 1 (intE .i64) none r))/\h'=H:=by
 unfold Z121 at hE;refine ACalls.oW 6 [.tmp 2] Tryz.call142 Tryz.func142 ?_;refine AWp.arrO 1 fun ar1 har1=>?_;refine seqR ?_;refine s0 (assignNil (k':=1) rfl) rfl ?_;refine nil ?_;refine seqR ?_;refine S Mv ?_;obtain⟨x3,gx3,hE⟩:=bO hE;refine sH (callH rfl rfl (Z99_arr gx3 _ hpG)) rfl ?_;refine hq (H.set ar1 (some (.arr 1 (x3.l.map (intE .i64))))) ?_;obtain⟨x4,gx4,hE⟩:=bO hE;have ex4:=Option.some.inj gx4
 refine sH (callH rfl rfl (Z104_walk (s:=x3) (f:=Z122) Z122_tot Z122_enter Z122_calls hpG (by first|rfl|simp [Sl.setL,Sl.nil,sortL_len]) rfl)) rfl ?_;refine hq H ?_;rw [ex4];refine S As ?_;refine nil ?_;exact rt hE
def Z119 (a0:TRef) (a1:TRef):Option Bool:=guardO (((a0.FName==a1.FName))) (Z121 a0.FWraps) (Sl.nil:Sl Int) fun x3=>guardO (((a0.FName==a1.FName))) (Z121 a1.FWraps) (Sl.nil:Sl Int) fun x4=>guardO (((a0.FName==a1.FName))) (Z105 x3 x4) false fun x5=>some (((a0.FName==a1.FName))&&x5)
theorem Z119_walk {a0 a1:TRef}{r:Bool}(hE:Z119 a0 a1=some r) (H:Heap) :ACalls Tryz.prog 123 [.agg (TRef.c a0),.agg (TRef.c a1)] H fun v h'=>v=.a (.d (.bool r))/\h'=H:=by
 unfold Z119 at hE;refine ACalls.oW 19 [.tmp 4] Tryz.call123 Tryz.func123 ?_;refine seqR ?_;refine S BX (S BX (S As ?_));refine nil ?_;refine AWp.seqD ?_;refine Sd Fv (Sd Ld (Sd Fv (Sd Ld (Sd BS (Sd Mv (g0d Fv ?_))))));refine g1d 11 rfl Ld ?_;obtain⟨x3,gx3,hE⟩:=gO hE;refine gc1d 12 rfl rfl rfl rfl rfl (fun hC=>Z121_walk (gx3 hC)) ?_;refine g0d Fv ?_;refine g1d 14 rfl Ld ?_;obtain⟨x4,gx4,hE⟩:=gO hE
 refine gc1d 15 rfl rfl rfl rfl rfl (fun hC=>Z121_walk (gx4 hC)) ?_;obtain⟨x5,gx5,hE⟩:=gO hE;refine gc2d 13 16 rfl rfl rfl rfl rfl rfl (fun hC=>Z105_walk (gx5 hC)) ?_;refine Sd PA (Sd As ?_);refine DOps.nil (by decide +kernel) ?_;exact rt hE
def Z120_j14 (y10_l0:TRef) (y11_l1:TRef) (y12_l2:TRef) (k_next_9:TRef->TRef->TRef->TRef->Option (TRef×Bool)) (y15_l3:TRef):Option (TRef×Bool):=(Z112 y10_l0).bind fun x17=>(Z112 y11_l1).bind fun x19=>bif ((!x17.2)||(!x19.2)) then(some (y15_l3,true)) else((appC 8 y15_l3.FWraps (⟨false,[(2:Int)]⟩:Sl Int)).bind fun x25=>k_next_9 x17.1 x19.1 y12_l2 (TRef.mk y15_l3.FName x25))
def Z120_l9 :Nat->TRef->TRef->TRef->TRef->Option (TRef×Bool)
 | 0,_,_,_,_=>none
 | n9+1,y10_l0,y11_l1,y12_l2,y13_l3=>(Z114 y10_l0).bind fun x27=>guardO (x27) (Z114 y11_l1) false fun x28=>bif (x27&&x28) then((appC 8 y13_l3.FWraps (⟨false,[(1:Int)]⟩:Sl Int)).bind fun x30=>Z120_j14 y10_l0 y11_l1 y12_l2 ((Z120_l9  n9)) (TRef.mk y13_l3.FName x30)) else(Z120_j14 y10_l0 y11_l1 y12_l2 ((Z120_l9  n9)) y13_l3)
def Z120 (a0:TRef) (a1:TRef):Option (TRef×Bool):=(Z119 a0 a1).bind fun x4=>bif (!x4) then(some ((TRef.mk ([]:Bs) (Sl.nil:Sl Int)),false)) else(Z120_l9 F0 a0 a1 TRef.zero (TRef.mk a0.FName (Sl.nil:Sl Int)))
theorem Z120_walk {a0 a1:TRef}{r:TRef×Bool}(hE:Z120 a0 a1=some r) (H:Heap) :ACalls Tryz.prog 97 [.agg (TRef.c a0),.agg (TRef.c a1)] H fun v h'=>v=.tup [.agg (TRef.c r.1),.d (.bool r.2)]/\h'=H:=by
 unfold Z120 at hE;refine ACalls.oW 54 [.cell 4 41,.tmp 5] Tryz.call97 Tryz.func97 ?_;refine seqR ?_;refine sL (boxL rfl (by repeat (first|exact Snoc.nil|apply Snoc.cons))) rfl ?_;refine sL (boxL rfl (by repeat (first|exact Snoc.nil|apply Snoc.cons))) rfl ?_;refine Sl ?_;refine S As ?_;refine nil ?_;refine seqK fun K2 hK2=>?_;refine seqR ?_;refine S LL (S LL ?_);obtain⟨x4,gx4,hE⟩:=bO hE;refine Sc rfl rfl (Z119_walk gx4) ?_
 refine S NB ?_;refine nil ?_;refine cE hE (fun hc5 hE=>?_) (fun hc5 hE=>?_)
 ·refine seqR ?_;refine S BU ?_;refine Sf ?_;refine S As ?_;refine nil ?_;exact rt hE
 refine sk hK2 ?_;clear hK2 K2;refine seqR ?_;refine S FL (S LL (S BU ?_));refine Sl ?_;refine AOps.tok 1 fun tk6_8 htk6_8=>?_;refine AOps.relocal 3 _ rfl (fun j w cs hh hx=>tok_cell 1 1 1 hh (t:=tk6_8) hpG hx rfl) ?_;refine Sf ?_;refine AOps.relocal 3 _ rfl (fun j w cs hh hx=>tok_cell 1 1 1 hh (t:=tk6_8) hpG hx rfl) ?_;refine nil ?_;refine block ?_;refine loopO (TA 2 (TA 3 (TA 4 (TA 6 KeepsT.nil)))) (fun(z:Nat×TRef×TRef×TRef×TRef)=>[]) (fun z=>[TRef.c z.2.1,TRef.c z.2.2.1,TRef.c z.2.2.2.1,(strE z.2.2.2.2.FName++[Sl.d 1 (intE .i64) (some tk6_8) z.2.2.2.2.FWraps])]) (fun z=>(H.set tk6_8 (some (.tok 1 z.2.2.2.2.FWraps.l.length)))) (fun z=>z.1) (fun z=>Z120_l9 z.1 z.2.1 z.2.2.1 z.2.2.2.1 z.2.2.2.2=some r) (F0,a0,a1,TRef.zero,(TRef.mk a0.FName (Sl.nil:Sl Int))) hE Weak.toA ?_
 rintro ⟨n9,y10_l0,y11_l1,y12_l2,y13_l3⟩ hE K9 hK9;try dsimp only at hE
 cases n9 with
 | zero=>cases hE
 | succ n9 =>
   rw [Z120_l9] at hE;refine block ?_;refine seqJ (TA 2 (TA 3 (TA 4 (TA 6 KeepsT.nil)))) (fun(z:TRef)=>[]) (fun z=>[TRef.c y10_l0,TRef.c y11_l1,TRef.c y12_l2,(strE z.FName++[Sl.d 1 (intE .i64) (some tk6_8) z.FWraps])]) (fun z=>(H.set tk6_8 (some (.tok 1 z.FWraps.l.length)))) (fun z=>Z120_j14 y10_l0 y11_l1 y12_l2 ((Z120_l9 n9)) z=some r) ?_ ?_
   ·intro K14 hK14;refine seqR ?_;refine S LL ?_;obtain⟨x27,gx27,hE⟩:=bO hE;refine Sc rfl rfl (Z114_walk gx27) ?_;refine S Mv (g0 LL ?_);obtain⟨x28,gx28,hE⟩:=gO hE;refine gc1 22 rfl rfl rfl rfl rfl (fun hC=>Z114_walk (gx28 hC)) ?_;refine S PA ?_;refine nil ?_;refine cE hE (fun hc29 hE=>?_) (fun hc29 hE=>?_)
    ·refine region ?_;refine S FL (S LL (S BV ?_));obtain⟨x30,gx30,hE⟩:=bO hE;refine sH (appM (f:=(intE .i64)) (TK rfl) rfl (TK rfl) (TK rfl) ⟨_,rfl⟩ rfl rfl (by decide) rfl rfl rfl rfl hpG rfl gx30) rfl ?_;refine hq (H.set tk6_8 (some (.tok 1 x30.l.length))) ?_;refine S FL ?_;refine Sf ?_;refine nil ?_;exact hK14 _ (TRef.mk y13_l3.FName x30) Weak.toA hE
    refine AWp.skip ?_;exact hK14 _ y13_l3 Weak.toA hE
   rintro y15_l3 hE;try dsimp only at hE
   unfold Z120_j14 at hE;refine seqR ?_;refine S LL ?_;obtain⟨x17,gx17,hE⟩:=bO hE;refine Sc rfl rfl (Z112_walk gx17) ?_;refine S Mv (S EX (S EX ?_));refine Sl ?_;refine Sf ?_;refine S As ?_;refine nil ?_;refine freezeA 7 _ rfl (KA 2 (KA 3 (KA 4 (KA 6 (KA 8 Keeps.nil))))) ?_;refine seqR ?_;refine S LL ?_;obtain⟨x19,gx19,hE⟩:=bO hE;refine Sc rfl rfl (Z112_walk gx19) ?_;refine S Mv (S EX (S EX ?_));refine Sl ?_
   refine Sf ?_;refine S As ?_;refine nil ?_;refine freezeA 9 _ rfl (KA 2 (KA 3 (KA 4 (KA 6 (KA 7 (KA 8 (KA 10 Keeps.nil))))))) ?_;refine seqK fun K20 hK20=>?_;refine seqR ?_;refine S Mv (S NB (S Mv (g0 Mv ?_)));refine g1 43 rfl NB ?_;refine S PO ?_;refine nil ?_;refine cE hE (fun hc22 hE=>?_) (fun hc22 hE=>?_)
   ·refine seqK fun K23 hK23=>?_;refine AWp.relocal 3 _ rfl (fun j w cs hh hx=>untok_cell 1 hx rfl) ?_;refine region ?_;refine S LL ?_;refine Sf ?_;refine S As ?_;refine nil ?_;refine hK23 _ ?_;clear hK23 K23;refine AWp.ret ?_;repeat (first|refine xBlock_ret ?_|refine xThen_ret ?_)
    obtain rfl:=Option.some.inj hE;refine retQ.retF H rfl ⟨rfl,rfl⟩ ?_
    first|exact Heap.sub_set htk6_8|(simp only [Heap.set_set]; exact Heap.sub_set htk6_8)
   refine sk hK20 ?_;clear hK20 K20;refine seqR ?_;refine S FL (S LL (S BV ?_));obtain⟨x25,gx25,hE⟩:=bO hE;refine sH (appM (f:=(intE .i64)) (TK rfl) rfl (TK rfl) (TK rfl) ⟨_,rfl⟩ rfl rfl (by decide) rfl rfl rfl rfl hpG rfl gx25) rfl ?_;refine hq (H.set tk6_8 (some (.tok 1 x25.l.length))) ?_;refine S FL ?_;refine Sf ?_;refine nil ?_;refine AWp.draw rfl ?_;refine Sd Ld (Sd Ld ?_);refine DOps.sLn (storeLFA (TK rfl) rfl rfl rfl rfl rfl) ?_
   refine DOps.sLn (storeLFA (TK rfl) rfl rfl rfl rfl rfl) ?_;refine DOps.nil (by decide +kernel) ?_;exact hK9 _ (n9,x17.1,x19.1,y12_l2,(TRef.mk y15_l3.FName x25)) Weak.toA hE (Nat.lt_succ_self _)
def Z118 (a0:TRef) (a1:TRef):Option Bool:=guardO (((a0.FName==a1.FName))) (Z105 a0.FWraps a1.FWraps) false fun x3=>some (((a0.FName==a1.FName))&&x3)
theorem Z118_walk {a0 a1:TRef}{r:Bool}(hE:Z118 a0 a1=some r) (H:Heap) :ACalls Tryz.prog 98 [.agg (TRef.c a0),.agg (TRef.c a1)] H fun v h'=>v=.a (.d (.bool r))/\h'=H:=by
 unfold Z118 at hE;refine ACalls.oW 17 [.tmp 4] Tryz.call98 Tryz.func98 ?_;refine seqR ?_;refine S BX (S BX (S As ?_));refine nil ?_;refine seqR ?_;refine S Fv (S Ld (S Fv (S Ld (S BS (S Mv (g0 Fv ?_))))));refine g1 11 rfl Ld ?_;refine g0 Fv ?_;refine g1 13 rfl Ld ?_;obtain⟨x3,gx3,hE⟩:=gO hE;refine gc2 12 14 rfl rfl rfl rfl rfl rfl (fun hC=>Z105_walk (gx3 hC)) ?_;refine S PA (S As ?_);refine nil ?_
 exact rt hE
def Z111 (a0:TRef) (a1:TRef):Option Bool:=(Z120 a0 a1).bind fun x3=>guardO (x3.2) (Z118 x3.1 a1) false fun x5=>some (x3.2&&x5)
theorem Z111_walk {a0 a1:TRef}{r:Bool}(hE:Z111 a0 a1=some r) (H:Heap) :ACalls Tryz.prog 55 [.agg (TRef.c a0),.agg (TRef.c a1)] H fun v h'=>v=.a (.d (.bool r))/\h'=H:=by
 unfold Z111 at hE;refine ACalls.oW 19 [.tmp 4] Tryz.call55 Tryz.func55 ?_;refine seqR ?_;refine S BX (S BX (S As ?_));refine nil ?_;refine seqR ?_;refine S Ld (S Ld ?_);obtain⟨x3,gx3,hE⟩:=bO hE;refine Sc rfl rfl (Z120_walk gx3) ?_;refine S Mv (S EX (S EX ?_));refine Sl ?_;refine Sf ?_;refine S As ?_;refine nil ?_;refine freezeA 5 _ rfl (KA 3 (KA 6 Keeps.nil)) ?_;refine seqR ?_;refine S Mv (S Mv (g0 Ld (g0 Ld ?_)))
 obtain⟨x5,gx5,hE⟩:=gO hE;refine gc2 15 16 rfl rfl rfl rfl rfl rfl (fun hC=>Z118_walk (gx5 hC)) ?_;refine S PA (S As ?_);refine nil ?_;exact rt hE
end Go.Proofs

namespace Go.Proofs
open Go Go.Ab
open AOps Cert AWp Keeps KeepsT
variable {lou:Lou}
def Z127 (a0:TDoc) (a1:TVar) (a2:TRef) (a3:Bool):Option Bool:=(Z111 a1.FType a2).bind fun x3=>some x3
theorem Z127_walk {a0:TDoc}{a1:TVar}{a2:TRef}{a3 r:Bool}(hE:Z127 a0 a1 a2 a3=some r) (H:Heap) :ACalls Tryz.prog 22 [.agg (TDoc.c a0),.agg (TVar.c a1),.agg (TRef.c a2),.d (.bool a3)] H fun v h'=>v=.a (.d (.bool r))/\h'=H:=by
 unfold Z127 at hE;refine ACalls.oW 13 [.tmp 8] Tryz.call22 Tryz.func22 ?_;refine seqR ?_;refine S BX (S BX (S BX (S As ?_)));refine nil ?_;refine seqR ?_;refine S Fv (S Ld (S Ld ?_));obtain⟨x3,gx3,hE⟩:=bO hE;refine Sc rfl rfl (Z111_walk gx3) ?_;refine S As ?_;refine nil ?_;exact rt hE
def Z135 (a0:TVar) (a1:TValue):Option Bool:=some ((a0.FName==a1.FText))
theorem Z135_walk {a0:TVar}{a1:TValue}{r:Bool}(hE:Z135 a0 a1=some r) (H:Heap) :ACalls Tryz.prog 121 [.agg (TVar.c a0),.d (.view (TValue.c a1))] H fun v h'=>v=.a (.d (.bool r))/\h'=H:=by
 unfold Z135 at hE;refine ACalls.oW 9 [.tmp 3] Tryz.call121 Tryz.func121 ?_;refine seqR ?_;refine S BX (S As ?_);refine nil ?_;refine seqR ?_;refine S Fv (S Ld (S Fv (S Ld (S BS (S As ?_)))));refine nil ?_;exact rt hE
def Z134_l16 (a1:TValue) (a3:Bool) (a4:Bs) (x13:(TRef×Bool)) (k_rec_91:Vars_checker->TValue->TRef->Bool->Bs->Option Vars_checker):Nat->Nat->Vars_checker->Option Vars_checker
 | 0,_,_=>none
 | n16+1,s66_17,y18_c0=>bif (decide (((s66_17:Nat):Int)<((a1.FItems.l.length:Nat):Int))) then((a1.FItems.l[s66_17]?).bind fun x24=>(k_rec_91 y18_c0 x24 x13.1 (a3&&x13.2) a4).bind fun x25=>(Z134_l16 a1 a3 a4 x13 k_rec_91 n16) (s66_17+1) x25) else(some y18_c0)
def Z134_j39 (s104_34:Nat) (k_next_33:Nat->Vars_checker->Option Vars_checker) (y40_c0:Vars_checker):Option Vars_checker:=k_next_33 (s104_34+1) y40_c0
def Z134_j45 (a4:Bs) (s104_34:Nat) (y35_c0:Vars_checker) (x42:TValue) (k_next_33:Nat->Vars_checker->Option Vars_checker) (k_rec_91:Vars_checker->TValue->TRef->Bool->Bs->Option Vars_checker) (s20_46:Bool) (y47_l0:TInput):Option Vars_checker:=(k_rec_91 y35_c0 x42 y47_l0.FType s20_46 a4).bind fun x48=>Z134_j39 s104_34 k_next_33 x48
def Z134_l33 (a1:TValue) (a3:Bool) (a4:Bs) (x29:(TDef×Bool)) (k_rec_91:Vars_checker->TValue->TRef->Bool->Bs->Option Vars_checker):Nat->Nat->Vars_checker->Option Vars_checker
 | 0,_,_=>none
 | n33+1,s104_34,y35_c0=>bif (decide (((s104_34:Nat):Int)<((a1.FItems.l.length:Nat):Int))) then((a1.FItems.l[s104_34]?).bind fun x42=>bif (((x29.2&&a3)&&(decide (x29.1.FKind=(5:Int))))&&(decide (((s104_34:Nat):Int)<((a1.FKeys.l.length:Nat):Int)))) then((a1.FKeys.l[s104_34]?).bind fun x51=>(Z93 x29.1.FInputs x51).bind fun x52=>Z134_j45 a4 s104_34 y35_c0 x42 ((Z134_l33 a1 a3 a4 x29 k_rec_91 n33)) k_rec_91 x52.2 x52.1) else(Z134_j45 a4 s104_34 y35_c0 x42 ((Z134_l33 a1 a3 a4 x29 k_rec_91 n33)) k_rec_91 false TInput.zero)) else(some y35_c0)
def Z134_n:Nat->Vars_checker->TValue->TRef->Bool->Bs->Option Vars_checker
 | 0,_,_,_,_,_=>none
 | n+1,a0,a1,a2,a3,a4=>bif (decide (a1.FKind=(7:Int))) then((Z106 a0.Fvars (fun y0=>Z135 y0 a1)).bind fun x6=>guardO ((!(decide (x6<(0:Int)))&&a3)) (idxC a0.Fvars.l (if (0:Int)>x6 then(0:Int) else x6)) TVar.zero fun x7=>guardO ((!(decide (x6<(0:Int)))&&a3)) (Z127 a0.Fd x7 a2 false) false fun x8=>(Z129 a0 ((decide (x6<(0:Int)))||(a3&&(!x8))) (27:Int) a4).bind fun x9=>some x9) else(bif (decide (a1.FKind=(5:Int))) then((Z112 a2).bind fun x13=>Z134_l16 a1 a3 a4 x13 (Z134_n n) (a1.FItems.l.length+1) 0 a0) else(bif (decide (a1.FKind=(6:Int))) then((Z92 a0.Fd a2.FName).bind fun x29=>Z134_l33 a1 a3 a4 x29 (Z134_n n) (a1.FItems.l.length+1) 0 a0) else(some a0)))
theorem Z134_step (n:Nat) (ih_91:∀{a0:Vars_checker}{a1:TValue}{a2:TRef}{a3:Bool}{a4:Bs}{c0 c0_2:Nat}{r:Vars_checker},Z134_n n a0 a1 a2 a3 a4=some r->∀(H:Heap) (hc0:H c0=some (.cells (Vars_checker.cg (some c0_2) a0))) (ht0_2:H c0_2=some (.tok 2 a0.Fout.l.length)),ACalls Tryz.prog 91 [.d (.ptr c0 0),.agg (TValue.c a1),.agg (TRef.c a2),.d (.bool a3),.d (.str a4)] H fun v h'=>v=.tup []/\h'=((H.set c0_2 (some (.tok 2 r.Fout.l.length))).set c0 (some (.cells (Vars_checker.cg (some c0_2) r))))):∀{a0:Vars_checker}{a1:TValue}{a2:TRef}{a3:Bool}{a4:Bs}{c0 c0_2:Nat}{r:Vars_checker},Z134_n (n+1) a0 a1 a2 a3 a4=some r->∀(H:Heap) (hc0:H c0=some (.cells (Vars_checker.cg (some c0_2) a0))) (ht0_2:H c0_2=some (.tok 2 a0.Fout.l.length)),ACalls Tryz.prog 91 [.d (.ptr c0 0),.agg (TValue.c a1),.agg (TRef.c a2),.d (.bool a3),.d (.str a4)] H fun v h'=>v=.tup []/\h'=((H.set c0_2 (some (.tok 2 r.Fout.l.length))).set c0 (some (.cells (Vars_checker.cg (some c0_2) r)))):=by
 intro a0 a1 a2 a3 a4  c0 c0_2 r hE H hc0 ht0_2;rw [Z134_n] at hE;refine ACalls.oW 136 [] Tryz.call91 Tryz.func91 ?_;have ne_c0_c0_2:c0≠c0_2:=fun e_=>by subst e_; simp_all
 refine AWp.heqA (h':=((H.set c0_2 (some (.tok 2 a0.Fout.l.length))).set c0 (some (.cells (Vars_checker.cg (some c0_2) a0))))) (by funext n_; simp only [Heap.set]; (repeat' split)<;>simp_all) ?_;refine seqR ?_;refine S BX (S BX ?_);refine nil ?_;refine seqR ?_;refine S Fv (S Ld ?_);refine nil ?_;refine block ?_;refine seqR ?_;refine S BI (S As ?_);refine nil ?_;refine cE hE (fun hc4 hE=>?_) (fun hc4 hE=>?_)
 ·refine seqR ?_;refine S Mv (S NP ?_);refine s0 (fieldP (TK rfl) rfl rfl (TK rfl) rfl rfl) rfl ?_;refine s0 (loadP (TK rfl) rfl rfl hpG rfl) rfl ?_;refine s0 (makeFunc rfl) rfl ?_;obtain⟨x6,gx6,hE⟩:=bO hE;refine s0 (callP rfl rfl (fun H=>Z106_walk gx6 H (fun _ _ hx=>Z135_walk hx))) rfl ?_;refine S As ?_;refine nil ?_;refine AWp.draw rfl ?_;refine Sd Mv (Sd Mv (Sd BI (Sd Mv (g0d Mv ?_))));refine g1d 35 rfl Mv ?_
  refine g0d Mv ?_;refine g1d 37 rfl NP ?_;refine DOps.gC rfl rfl (fun hC=>ungdA (k:=38) rfl (fieldP (TK rfl) rfl rfl (TK rfl) rfl rfl)) rfl ?_;refine DOps.gC rfl rfl (fun hC=>ungdA (k:=39) rfl (loadP (TK rfl) rfl rfl hpG rfl)) rfl ?_;refine g0d Mv ?_;refine g1d 41 rfl NP ?_;refine DOps.gC rfl rfl (fun hC=>ungdA (k:=42) rfl (fieldP (TK rfl) rfl rfl (TK rfl) rfl rfl)) rfl ?_;refine DOps.gC rfl rfl (fun hC=>ungdA (k:=43) rfl (loadP (TK rfl) rfl rfl hpG rfl)) rfl ?_
  refine g0d Mv ?_;refine DOps.gC rfl rfl (fun hC=>ungdA (k:=45) rfl (maxM rfl rfl)) rfl ?_;obtain⟨x7,gx7,hE⟩:=gO hE;refine DOps.gC rfl rfl (fun hC=>ungdA (k:=44) rfl (ungdA (k:=46) rfl (idxM (f:=TVar.c) (TK rfl) rfl (TK rfl) rfl rfl rfl (gx7 hC)))) rfl ?_;refine g1d 47 rfl Ld ?_;refine g0d Ld ?_;obtain⟨x8,gx8,hE⟩:=gO hE;refine DOps.gC rfl rfl (fun hC=>ungdA (k:=40) rfl (ungdA (k:=48) rfl (ungdA (k:=49) rfl (callP rfl rfl (fun H=>Z127_walk (gx8 hC) H))))) rfl ?_
  refine g1d 50 rfl NB ?_;refine DOps.gC rfl rfl (fun hC=>ungdA (k:=36) rfl (pickAndA rfl rfl rfl)) rfl ?_;refine Sd PO (Sd Mv ?_);obtain⟨x9,gx9,hE⟩:=bO hE;refine DOps.sH (callH rfl rfl (Z129_walk gx9 _ hpG hpG)) rfl ?_;refine DOps.Dh ((H.set c0_2 (some (.tok 2 x9.Fout.l.length))).set c0 (some (.cells (Vars_checker.cg (some c0_2) x9)))) ?_;refine DOps.nil (by decide +kernel) ?_;repeat (first|refine xBlock_normal ?_|refine xThen_exit ?_|refine xBlock_exit ?_)
  obtain rfl:=Option.some.inj hE;refine retQ.normalF ((H.set c0_2 (some (.tok 2 x9.Fout.l.length))).set c0 (some (.cells (Vars_checker.cg (some c0_2) x9)))) (xs:=[]) rfl ⟨rfl,rfl⟩ ?_;exact(fun _ _ h=>h)
 refine seqR ?_;refine S BI (S As ?_);refine nil ?_;refine cE hE (fun hc11 hE=>?_) (fun hc11 hE=>?_)
 ·refine seqR ?_;refine S Ld ?_;obtain⟨x13,gx13,hE⟩:=bO hE;refine Sc rfl rfl (Z112_walk gx13) ?_;refine S Mv (S EX (S EX ?_));refine Sl ?_;refine Sf ?_;refine S As ?_;refine nil ?_;refine freezeA 11 _ rfl (KA 0 (KA 3 (KA 4 (KA 6 (KA 12 Keeps.nil))))) ?_;refine seqR ?_;refine S Fv ?_;refine s0 (loadV (TK rfl) rfl rfl (congrArg (fun x=>some (A.d x)) (TValue.FItemsD_eq _))) rfl ?_;refine sLen (f:=TValue.c) (s:=a1.FItems) (TK rfl) rfl rfl rfl rfl fun hL15=>?_
  refine S Mv ?_;refine nil ?_;refine block ?_;refine loopH (TA 0 (TA 3 (TA 4 (TA 11 (TA 12 (TA 64 (TA 65 KeepsT.nil))))))) (fun(z:Nat×Nat×Vars_checker)=>[(66,.a (.d (.int .i64 ((z.2.1:Nat):Int))))]) (fun z=>((H.set c0_2 (some (.tok 2 z.2.2.Fout.l.length))).set c0 (some (.cells (Vars_checker.cg (some c0_2) z.2.2))))) (fun z=>z.1) (fun z=>Z134_l16 a1 a3 a4 x13 (Z134_n n) z.1 z.2.1 z.2.2=some r) ((a1.FItems.l.length+1),0,a0) hE Weak.toA ?_
  rintro ⟨n16,s66_17,y18_c0⟩ hE K16 hK16;try dsimp only at hE
  cases n16 with
  | zero=>cases hE
  | succ n16 =>
    rw [Z134_l16] at hE;refine seqR ?_;refine S BI ?_;refine nil ?_;refine seqK fun K20 hK20=>?_;refine cE hE (fun hc21 hE=>?_) (fun hc21 hE=>?_)
    ·try dsimp only at hc21
     have hf21:=of_decide_eq_true hc21;refine sk hK20 ?_;clear hK20 K20;refine seqK fun K22 hK22=>?_;refine block ?_;refine seqR ?_;obtain⟨x24,gx24,hE⟩:=bO hE;refine s0 (idxMn (f:=TValue.c) (n:=s66_17) (TK rfl) rfl (TK rfl) rfl rfl rfl gx24) rfl ?_;refine S Ld ?_;refine Sl ?_;refine Sf ?_;refine nil ?_;refine freezeA 14 _ rfl (KA 0 (KA 3 (KA 4 (KA 11 (KA 12 (KA 64 (KA 65 (KA 66 Keeps.nil)))))))) ?_
     refine region ?_;refine S Mv (S Ld (S Ld (S Mv (S Mv (g0 Mv (S PA (S Mv ?_)))))));obtain⟨x25,gx25,hE⟩:=bO hE;refine sH (callH rfl rfl (ih_91 gx25 _ hpG hpG)) rfl ?_;refine hq ((H.set c0_2 (some (.tok 2 x25.Fout.l.length))).set c0 (some (.cells (Vars_checker.cg (some c0_2) x25)))) ?_;refine nil ?_;refine hK22 _ ?_;clear hK22 K22;refine region ?_;refine SI ?_;refine S Mv ?_;refine nil ?_;exact hK16 _ (n16,(s66_17+1),x25) Weak.toA hE (Nat.lt_succ_self _)
    refine AWp.exit ?_;repeat (first|refine xBlock_normal ?_|refine xThen_exit ?_|refine xBlock_exit ?_)
    obtain rfl:=Option.some.inj hE;refine retQ.normalF ((H.set c0_2 (some (.tok 2 y18_c0.Fout.l.length))).set c0 (some (.cells (Vars_checker.cg (some c0_2) y18_c0)))) (xs:=[]) rfl ⟨rfl,rfl⟩ ?_;exact(fun _ _ h=>h)
 refine seqR ?_;refine S BI (S As ?_);refine nil ?_;refine cE hE (fun hc27 hE=>?_) (fun hc27 hE=>?_)
 ·refine AWp.seqD ?_;refine Sd Mv (Sd NP ?_);refine DOps.s0 (fieldP (TK rfl) rfl rfl (TK rfl) rfl rfl) rfl ?_;refine DOps.s0 (loadP (TK rfl) rfl rfl hpG rfl) rfl ?_;refine Sd Fv (Sd Ld ?_);obtain⟨x29,gx29,hE⟩:=bO hE;refine DOps.s0 (callP rfl rfl (fun H=>Z92_walk gx29 H)) rfl ?_;refine Sd Mv (Sd EX (Sd EX ?_));refine DOps.sB (TK rfl) rfl rfl ?_ (by repeat (first|exact Snoc.nil|apply Snoc.cons));refine DOps.sLn (storeLFA (TK rfl) rfl rfl rfl rfl rfl) ?_
  refine Sd As ?_;refine DOps.nil (by decide +kernel) ?_;refine freezeA 15 _ rfl (KA 0 (KA 3 (KA 4 (KA 6 (KA 16 Keeps.nil))))) ?_;refine seqR ?_;refine S Mv (S Mv (g0 Mv (S PA (S Mv (g0 Fv ?_)))));refine g1 97 rfl Ld ?_;refine g1 98 rfl BI ?_;refine S PA (S As ?_);refine nil ?_;refine seqR ?_;refine S Fv ?_;refine s0 (loadV (TK rfl) rfl rfl (congrArg (fun x=>some (A.d x)) (TValue.FItemsD_eq _))) rfl ?_
  refine sLen (f:=TValue.c) (s:=a1.FItems) (TK rfl) rfl rfl rfl rfl fun hL32=>?_;refine S Mv ?_;refine nil ?_;refine block ?_;refine loopH (TA 0 (TA 4 (TA 6 (TA 15 (TA 16 (TA 102 (TA 103 KeepsT.nil))))))) (fun(z:Nat×Nat×Vars_checker)=>[(104,.a (.d (.int .i64 ((z.2.1:Nat):Int))))]) (fun z=>((H.set c0_2 (some (.tok 2 z.2.2.Fout.l.length))).set c0 (some (.cells (Vars_checker.cg (some c0_2) z.2.2))))) (fun z=>z.1) (fun z=>Z134_l33 a1 a3 a4 x29 (Z134_n n) z.1 z.2.1 z.2.2=some r) ((a1.FItems.l.length+1),0,a0) hE Weak.toA ?_
  rintro ⟨n33,s104_34,y35_c0⟩ hE K33 hK33;try dsimp only at hE
  cases n33 with
  | zero=>cases hE
  | succ n33 =>
    rw [Z134_l33] at hE;refine seqR ?_;refine S BI ?_;refine nil ?_;refine seqK fun K37 hK37=>?_;refine cE hE (fun hc38 hE=>?_) (fun hc38 hE=>?_)
    ·try dsimp only at hc38
     have hf38:=of_decide_eq_true hc38;refine sk hK37 ?_;clear hK37 K37;refine seqJH (TA 0 (TA 4 (TA 6 (TA 15 (TA 16 (TA 102 (TA 103 (TA 104 KeepsT.nil)))))))) (fun(z:Vars_checker)=>[]) (fun z=>((H.set c0_2 (some (.tok 2 z.Fout.l.length))).set c0 (some (.cells (Vars_checker.cg (some c0_2) z))))) (fun z=>Z134_j39 s104_34 ((Z134_l33 a1 a3 a4 x29 (Z134_n n) n33)) z=some r) ?_ ?_
     ·intro K39 hK39;refine block ?_;refine seqR ?_;refine S Mv ?_;obtain⟨x42,gx42,hE⟩:=bO hE;refine s0 (idxMn (f:=TValue.c) (n:=s104_34) (TK rfl) rfl (TK rfl) rfl rfl rfl gx42) rfl ?_;refine S Ld ?_;refine Sl ?_;refine S As ?_;refine Sf ?_;refine nil ?_;refine freezeA 18 _ rfl (KA 0 (KA 4 (KA 6 (KA 15 (KA 16 (KA 17 (KA 102 (KA 103 (KA 104 Keeps.nil))))))))) ?_;refine seqR ?_;refine Sl ?_;refine nil ?_
      refine seqR ?_;refine S As ?_;refine nil ?_;refine seqJ (TA 0 (TA 4 (TA 6 (TA 15 (TA 16 (TA 18 (TA 19 (TA 102 (TA 103 (TA 104 KeepsT.nil)))))))))) (fun(z:Bool×TInput)=>[(20,.a (.d (.bool z.1)))]) (fun z=>[TInput.c z.2]) (fun z=>((H.set c0_2 (some (.tok 2 y35_c0.Fout.l.length))).set c0 (some (.cells (Vars_checker.cg (some c0_2) y35_c0))))) (fun z=>Z134_j45 a4 s104_34 y35_c0 x42 ((Z134_l33 a1 a3 a4 x29 (Z134_n n) n33)) (Z134_n n) z.1 z.2=some r) ?_ ?_
      ·intro K45 hK45;refine seqR ?_;refine S Mv (S Mv (g0 Mv (g0 Fv ?_)));refine g1 112 rfl Ld ?_;refine gC rfl rfl (fun hC=>ungdA (k:=113) rfl (lenM' (f:=strE) (s:=a1.FKeys) (TK rfl) rfl rfl rfl)) rfl ?_;refine g2 111 114 rfl rfl BI ?_;refine S PA ?_;refine nil ?_;refine cE hE (fun hc50 hE=>?_) (fun hc50 hE=>?_)
       ·refine AWp.draw rfl ?_;refine Sd Fv (Sd Ld (Sd Fv (Sd Ld (Sd Mv ?_))));obtain⟨x51,gx51,hE⟩:=bO hE;refine DOps.s0 (idxMn (f:=strE) (n:=s104_34) (TK rfl) rfl (TK rfl) rfl rfl rfl gx51) rfl ?_;refine Sd Ld ?_;obtain⟨x52,gx52,hE⟩:=bO hE;refine DOps.s0 (callP rfl rfl (fun H=>Z93_walk gx52 H)) rfl ?_;refine Sd Mv (Sd EX (Sd EX ?_));refine DOps.sLn (storeLFA (TK rfl) rfl rfl rfl rfl rfl) ?_;refine Sd As ?_
        refine DOps.nil (by decide +kernel) ?_;exact hK45 _ (x52.2,x52.1) Weak.toA hE
       refine AWp.skip ?_;exact hK45 _ (false,TInput.zero) Weak.toA hE
      rintro ⟨s20_46,y47_l0⟩ hE;try dsimp only at hE
      unfold Z134_j45 at hE;refine region ?_;refine S Mv (S Ld (S FL (S LL (S Mv (S Mv ?_)))));obtain⟨x48,gx48,hE⟩:=bO hE;refine sH (callH rfl rfl (ih_91 gx48 _ hpG hpG)) rfl ?_;refine hq ((H.set c0_2 (some (.tok 2 x48.Fout.l.length))).set c0 (some (.cells (Vars_checker.cg (some c0_2) x48)))) ?_;refine nil ?_;exact hK39 _ x48 Weak.toA hE
     rintro y40_c0 hE;try dsimp only at hE
     unfold Z134_j39 at hE;refine region ?_;refine SI ?_;refine S Mv ?_;refine nil ?_;exact hK33 _ (n33,(s104_34+1),y40_c0) Weak.toA hE (Nat.lt_succ_self _)
    refine AWp.exit ?_;repeat (first|refine xBlock_normal ?_|refine xThen_exit ?_|refine xBlock_exit ?_)
    obtain rfl:=Option.some.inj hE;refine retQ.normalF ((H.set c0_2 (some (.tok 2 y35_c0.Fout.l.length))).set c0 (some (.cells (Vars_checker.cg (some c0_2) y35_c0)))) (xs:=[]) rfl ⟨rfl,rfl⟩ ?_;exact(fun _ _ h=>h)
 refine AWp.skip ?_;repeat (first|refine xBlock_normal ?_|refine xThen_exit ?_|refine xBlock_exit ?_)
 obtain rfl:=Option.some.inj hE;refine retQ.normalF ((H.set c0_2 (some (.tok 2 a0.Fout.l.length))).set c0 (some (.cells (Vars_checker.cg (some c0_2) a0)))) (xs:=[]) rfl ⟨rfl,rfl⟩ ?_;exact(fun _ _ h=>h)
theorem Z134_all:∀(n:Nat),(∀{a0:Vars_checker}{a1:TValue}{a2:TRef}{a3:Bool}{a4:Bs}{c0 c0_2:Nat}{r:Vars_checker},Z134_n n a0 a1 a2 a3 a4=some r->∀(H:Heap) (hc0:H c0=some (.cells (Vars_checker.cg (some c0_2) a0))) (ht0_2:H c0_2=some (.tok 2 a0.Fout.l.length)),ACalls Tryz.prog 91 [.d (.ptr c0 0),.agg (TValue.c a1),.agg (TRef.c a2),.d (.bool a3),.d (.str a4)] H fun v h'=>v=.tup []/\h'=((H.set c0_2 (some (.tok 2 r.Fout.l.length))).set c0 (some (.cells (Vars_checker.cg (some c0_2) r)))))
 | 0=>fun hE=>by first|cases hE|(rw [Z134_n] at hE; cases hE)
 | n+1=>Z134_step n (Z134_all n)
def Z134 (a0:Vars_checker) (a1:TValue) (a2:TRef) (a3:Bool) (a4:Bs):Option Vars_checker:=Z134_n F0 a0 a1 a2 a3 a4
theorem Z134_walk {a0:Vars_checker}{a1:TValue}{a2:TRef}{a3:Bool}{a4:Bs}{c0 c0_2:Nat}{r:Vars_checker}(hE:Z134 a0 a1 a2 a3 a4=some r) (H:Heap) (hc0:H c0=some (.cells (Vars_checker.cg (some c0_2) a0))) (ht0_2:H c0_2=some (.tok 2 a0.Fout.l.length)):ACalls Tryz.prog 91 [.d (.ptr c0 0),.agg (TValue.c a1),.agg (TRef.c a2),.d (.bool a3),.d (.str a4)] H fun v h'=>v=.tup []/\h'=((H.set c0_2 (some (.tok 2 r.Fout.l.length))).set c0 (some (.cells (Vars_checker.cg (some c0_2) r)))):=(Z134_all F0) hE H hc0 ht0_2
def Z116 (a0:TRef):Option TRef:=(Z114 a0).bind fun x4=>bif x4 then((Z99 a0.FWraps).bind fun x7=>some (TRef.mk a0.FName x7)) else((appC 8 (⟨false,[(1:Int)]⟩:Sl Int) a0.FWraps).bind fun x9=>some (TRef.mk a0.FName x9))
theorem Z116_walk {a0 r:TRef}(hE:Z116 a0=some r) (H:Heap) :ACalls Tryz.prog 92 [.agg (TRef.c a0)] H fun v h'=>v=.a (.agg (TRef.c r))/\h'=H:=by
 unfold Z116 at hE;refine ACalls.oW 18 [.cell 2 41] Tryz.call92 Tryz.func92 ?_;refine seqR ?_;refine S BX ?_;refine Sl ?_;refine nil ?_;refine seqK fun K2 hK2=>?_;refine seqR ?_;refine S Ld ?_;obtain⟨x4,gx4,hE⟩:=bO hE;refine Sc rfl rfl (Z114_walk gx4) ?_;refine nil ?_;refine cE hE (fun hc5 hE=>?_) (fun hc5 hE=>?_)
 ·refine AWp.seqD ?_;refine Sd Fv (Sd Ld (Sd Fv (Sd Ld ?_)));obtain⟨x7,gx7,hE⟩:=bO hE;refine DOps.s0 (callP rfl rfl (fun H=>Z99_walk gx7 H)) rfl ?_;refine Sd BU ?_;refine DOps.sLn (storeLFA (TK rfl) rfl rfl rfl rfl rfl) ?_;refine DOps.nil (by decide +kernel) ?_;exact rt hE
 refine sk hK2 ?_;clear hK2 K2;refine AWp.seqD ?_;refine Sd Fv (Sd Ld ?_);refine DOps.s0 (buildSliceF (TK rfl) rfl (TK rfl) rfl rfl rfl rfl rfl rfl) rfl ?_;refine Sd Fv (Sd Ld ?_);obtain⟨x9,gx9,hE⟩:=bO hE;refine DOps.s0 (appFM (f:=(intE .i64)) (TK rfl) rfl (TK rfl) (TK rfl) ⟨_,rfl⟩ rfl rfl (by decide) rfl rfl rfl (by intro q h; cases h<;>decide) rfl rfl gx9) rfl ?_;refine Sd BU ?_;refine DOps.sLn (storeLFA (TK rfl) rfl rfl rfl rfl rfl) ?_
 refine DOps.nil (by decide +kernel) ?_;exact rt hE
def Z115 (a0:Bs):Option TRef:=some (TRef.mk a0 (Sl.nil:Sl Int))
theorem Z115_walk {a0:Bs}{r:TRef}(hE:Z115 a0=some r) (H:Heap) :ACalls Tryz.prog 93 [.d (.str a0)] H fun v h'=>v=.a (.agg (TRef.c r))/\h'=H:=by
 unfold Z115 at hE;refine ACalls.oW 5 [.cell 2 41] Tryz.call93 Tryz.func93 ?_;refine seqR ?_;refine Sl ?_;refine nil ?_;refine seqR ?_;refine S Mv (S BU ?_);refine Sf ?_;refine nil ?_;exact rt hE
def Z132_j9 (s13_4:Nat) (k_next_3:Nat->Vars_checker->Option Vars_checker) (y10_c0:Vars_checker):Option Vars_checker:=k_next_3 (s13_4+1) y10_c0
def Z132_l15 (a2:Bs) (s13_4:Nat) (x12:TDir) (k_next_3:Nat->Vars_checker->Option Vars_checker):Nat->Nat->Vars_checker->Option Vars_checker
 | 0,_,_=>none
 | n15+1,s20_16,y17_c0=>bif (decide (((s20_16:Nat):Int)<((x12.FArgs.l.length:Nat):Int))) then((x12.FArgs.l[s20_16]?).bind fun x23=>(Z115 ([66,111,111,108,101,97,110]:Bs)).bind fun x25=>(Z116 x25).bind fun x26=>(Z134 y17_c0 x23.FValue x26 (((x23.FName==([105,102]:Bs)))&&(((x12.FName==([115,107,105,112]:Bs)))||((x12.FName==([105,110,99,108,117,100,101]:Bs))))) a2).bind fun x27=>(Z132_l15 a2 s13_4 x12 k_next_3 n15) (s20_16+1) x27) else(Z132_j9 s13_4 k_next_3 y17_c0)
def Z132_l3 (a1:(Sl TDir)) (a2:Bs) :Nat->Nat->Vars_checker->Option Vars_checker
 | 0,_,_=>none
 | n3+1,s13_4,y5_c0=>bif (decide (((s13_4:Nat):Int)<((a1.l.length:Nat):Int))) then((a1.l[s13_4]?).bind fun x12=>Z132_l15 a2 s13_4 x12 ((Z132_l3 a1 a2 n3)) (x12.FArgs.l.length+1) 0 y5_c0) else(some y5_c0)
def Z132 (a0:Vars_checker) (a1:(Sl TDir)) (a2:Bs):Option Vars_checker:=Z132_l3 a1 a2 (a1.l.length+1) 0 a0
theorem Z132_walk {a0:Vars_checker}{a1:Sl TDir}{a2:Bs}{w1:Option Nat}{c0 c0_2:Nat}{r:Vars_checker}(hE:Z132 a0 a1 a2=some r) (H:Heap) (hc0:H c0=some (.cells (Vars_checker.cg (some c0_2) a0))) (ht0_2:H c0_2=some (.tok 2 a0.Fout.l.length)):ACalls Tryz.prog 51 [.d (.ptr c0 0),.d (Sl.d 2 TDir.c w1 a1),.d (.str a2)] H fun v h'=>v=.tup []/\h'=((H.set c0_2 (some (.tok 2 r.Fout.l.length))).set c0 (some (.cells (Vars_checker.cg (some c0_2) r)))):=by
 unfold Z132 at hE;refine ACalls.oW 47 [] Tryz.call51 Tryz.func51 ?_;have ne_c0_c0_2:c0≠c0_2:=fun e_=>by subst e_; simp_all
 refine AWp.heqA (h':=((H.set c0_2 (some (.tok 2 a0.Fout.l.length))).set c0 (some (.cells (Vars_checker.cg (some c0_2) a0))))) (by funext n_; simp only [Heap.set]; (repeat' split)<;>simp_all) ?_;refine seqR ?_;refine S Mv ?_;refine sLen (f:=TDir.c) (s:=a1) (TK rfl) rfl rfl rfl rfl fun hL2=>?_;refine S Mv ?_;refine nil ?_;refine block ?_;refine loopH (TA 0 (TA 2 (TA 11 (TA 12 KeepsT.nil)))) (fun(z:Nat×Nat×Vars_checker)=>[(13,.a (.d (.int .i64 ((z.2.1:Nat):Int))))]) (fun z=>((H.set c0_2 (some (.tok 2 z.2.2.Fout.l.length))).set c0 (some (.cells (Vars_checker.cg (some c0_2) z.2.2))))) (fun z=>z.1) (fun z=>Z132_l3 a1 a2 z.1 z.2.1 z.2.2=some r) ((a1.l.length+1),0,a0) hE Weak.toA ?_
 rintro ⟨n3,s13_4,y5_c0⟩ hE K3 hK3;try dsimp only at hE
 cases n3 with
 | zero=>cases hE
 | succ n3 =>
   rw [Z132_l3] at hE;refine seqR ?_;refine S BI ?_;refine nil ?_;refine seqK fun K7 hK7=>?_;refine cE hE (fun hc8 hE=>?_) (fun hc8 hE=>?_)
   ·try dsimp only at hc8
    have hf8:=of_decide_eq_true hc8;refine sk hK7 ?_;clear hK7 K7;refine seqJH (TA 0 (TA 2 (TA 11 (TA 12 (TA 13 KeepsT.nil))))) (fun(z:Vars_checker)=>[]) (fun z=>((H.set c0_2 (some (.tok 2 z.Fout.l.length))).set c0 (some (.cells (Vars_checker.cg (some c0_2) z))))) (fun z=>Z132_j9 s13_4 ((Z132_l3 a1 a2 n3)) z=some r) ?_ ?_
    ·intro K9 hK9;refine block ?_;refine seqR ?_;obtain⟨x12,gx12,hE⟩:=bO hE;refine s0 (idxMn (f:=TDir.c) (n:=s13_4) (TK rfl) rfl (TK rfl) rfl rfl rfl gx12) rfl ?_;refine S Ld ?_;refine Sl ?_;refine Sf ?_;refine nil ?_;refine freezeA 7 _ rfl (KA 0 (KA 2 (KA 11 (KA 12 (KA 13 Keeps.nil))))) ?_;refine seqR ?_;refine S Fv (S Ld ?_);refine sLen (f:=TArg.c) (s:=x12.FArgs) (TK rfl) rfl rfl rfl rfl fun hL14=>?_
     refine S Mv ?_;refine nil ?_;refine block ?_;refine loopH (TA 0 (TA 2 (TA 7 (TA 11 (TA 12 (TA 13 (TA 18 (TA 19 KeepsT.nil)))))))) (fun(z:Nat×Nat×Vars_checker)=>[(20,.a (.d (.int .i64 ((z.2.1:Nat):Int))))]) (fun z=>((H.set c0_2 (some (.tok 2 z.2.2.Fout.l.length))).set c0 (some (.cells (Vars_checker.cg (some c0_2) z.2.2))))) (fun z=>z.1) (fun z=>Z132_l15 a2 s13_4 x12 ((Z132_l3 a1 a2 n3)) z.1 z.2.1 z.2.2=some r) ((x12.FArgs.l.length+1),0,y5_c0) hE Weak.toA ?_
     rintro ⟨n15,s20_16,y17_c0⟩ hE K15 hK15;try dsimp only at hE
     cases n15 with
     | zero=>cases hE
     | succ n15 =>
       rw [Z132_l15] at hE;refine seqR ?_;refine S BI ?_;refine nil ?_;refine seqK fun K19 hK19=>?_;refine cE hE (fun hc20 hE=>?_) (fun hc20 hE=>?_)
       ·try dsimp only at hc20
        have hf20:=of_decide_eq_true hc20;refine sk hK19 ?_;clear hK19 K19;refine seqK fun K21 hK21=>?_;refine block ?_;refine seqR ?_;obtain⟨x23,gx23,hE⟩:=bO hE;refine s0 (idxMn (f:=TArg.c) (n:=s20_16) (TK rfl) rfl (TK rfl) rfl rfl rfl gx23) rfl ?_;refine S Ld ?_;refine Sl ?_;refine Sf ?_;refine nil ?_;refine freezeA 9 _ rfl (KA 0 (KA 2 (KA 7 (KA 11 (KA 12 (KA 13 (KA 18 (KA 19 (KA 20 Keeps.nil))))))))) ?_
        refine seqR ?_;refine S Fv (S Ld (S BS (S Mv (g0 Fv ?_))));refine g1 28 rfl Ld ?_;refine g1 29 rfl BS ?_;refine g1 30 rfl Mv ?_;refine g0 Fv ?_;refine g1 32 rfl Ld ?_;refine g1 33 rfl BS ?_;refine gC rfl rfl (fun hC=>ungdA (k:=31) rfl (pickOrA rfl rfl rfl)) rfl ?_;refine S PA (S As ?_);refine nil ?_;refine AWp.draw rfl ?_;refine Sd Mv (Sd Fv (Sd Ld ?_));obtain⟨x25,gx25,hE⟩:=bO hE;refine DOps.s0 (callP rfl rfl (fun H=>Z115_walk gx25 H)) rfl ?_
        obtain⟨x26,gx26,hE⟩:=bO hE;refine DOps.s0 (callP rfl rfl (fun H=>Z116_walk gx26 H)) rfl ?_;refine Sd Mv (Sd Mv ?_);obtain⟨x27,gx27,hE⟩:=bO hE;refine DOps.sH (callH rfl rfl (Z134_walk gx27 _ hpG hpG)) rfl ?_;refine DOps.Dh ((H.set c0_2 (some (.tok 2 x27.Fout.l.length))).set c0 (some (.cells (Vars_checker.cg (some c0_2) x27)))) ?_;refine DOps.nil (by decide +kernel) ?_;refine hK21 _ ?_;clear hK21 K21
        refine region ?_;refine SI ?_;refine S Mv ?_;refine nil ?_;exact hK15 _ (n15,(s20_16+1),x27) Weak.toA hE (Nat.lt_succ_self _)
       refine AWp.exit ?_;exact hK9 _ y17_c0 Weak.toA hE
    rintro y10_c0 hE;try dsimp only at hE
    unfold Z132_j9 at hE;refine region ?_;refine SI ?_;refine S Mv ?_;refine nil ?_;exact hK3 _ (n3,(s13_4+1),y10_c0) Weak.toA hE (Nat.lt_succ_self _)
   refine AWp.exit ?_;repeat (first|refine xBlock_normal ?_|refine xThen_exit ?_|refine xBlock_exit ?_)
   obtain rfl:=Option.some.inj hE;refine retQ.normalF ((H.set c0_2 (some (.tok 2 y5_c0.Fout.l.length))).set c0 (some (.cells (Vars_checker.cg (some c0_2) y5_c0)))) (xs:=[]) rfl ⟨rfl,rfl⟩ ?_;exact(fun _ _ h=>h)
def Z90 (a0:TDoc) (a1:Bs):Option Bool:=(Z98 a0 a1).bind fun x3=>(Z97 a1).bind fun x5=>some ((!x5)&&(((decide (x3=(1:Int)))||(decide (x3=(2:Int))))||(decide (x3=(3:Int)))))
theorem Z90_walk {a0:TDoc}{a1:Bs}{r:Bool}(hE:Z90 a0 a1=some r) (H:Heap) :ACalls Tryz.prog 94 [.agg (TDoc.c a0),.d (.str a1)] H fun v h'=>v=.a (.d (.bool r))/\h'=H:=by
 unfold Z90 at hE;refine ACalls.oW 24 [.tmp 4] Tryz.call94 Tryz.func94 ?_;refine seqR ?_;refine S BX (S As ?_);refine nil ?_;refine seqR ?_;refine S Ld (S Mv ?_);obtain⟨x3,gx3,hE⟩:=bO hE;refine Sc rfl rfl (Z98_walk gx3) ?_;refine S As ?_;refine nil ?_;refine seqR ?_;refine S Mv ?_;obtain⟨x5,gx5,hE⟩:=bO hE;refine Sc rfl rfl (Z97_walk gx5) ?_;refine S NB (S Mv (g0 Mv ?_));refine g1 13 rfl BI ?_;refine g1 14 rfl Mv ?_
 refine g0 Mv ?_;refine g1 16 rfl BI ?_;refine gC rfl rfl (fun hC=>ungdA (k:=15) rfl (pickOrA rfl rfl rfl)) rfl ?_;refine g1 18 rfl Mv ?_;refine g0 Mv ?_;refine g1 20 rfl BI ?_;refine gC rfl rfl (fun hC=>ungdA (k:=19) rfl (pickOrA rfl rfl rfl)) rfl ?_;refine S PA (S As ?_);refine nil ?_;exact rt hE
def Z91_j2  (y3_l0:TField):Option (TField×Bool):=some ((TField.mk ([]:Bs) (Sl.nil:Sl TInput) TRef.zero (Sl.nil:Sl TDir)),false)
def Z91_l7 (a0:TDef) (a1:Bs) :Nat->Nat->TField->Option (TField×Bool)
 | 0,_,_=>none
 | n7+1,s11_8,y9_l0=>bif (decide (((s11_8:Nat):Int)<((a0.FFields.l.length:Nat):Int))) then((a0.FFields.l[s11_8]?).bind fun x15=>bif ((x15.FName==a1)) then(some (x15,true)) else((Z91_l7 a0 a1 n7) (s11_8+1) y9_l0)) else(Z91_j2   y9_l0)
def Z91 (a0:TDef) (a1:Bs):Option (TField×Bool):=Z91_l7 a0 a1 (a0.FFields.l.length+1) 0 TField.zero
theorem Z91_walk {a0:TDef}{a1:Bs}{r:TField×Bool}(hE:Z91 a0 a1=some r) (H:Heap) :ACalls Tryz.prog 95 [.agg (TDef.c a0),.d (.str a1)] H fun v h'=>v=.tup [.agg (TField.c r.1),.d (.bool r.2)]/\h'=H:=by
 unfold Z91 at hE;refine ACalls.oW 22 [.cell 4 78,.tmp 5] Tryz.call95 Tryz.func95 ?_;refine seqR ?_;refine S BX ?_;refine Sl ?_;refine S As ?_;refine nil ?_;refine seqJ (TA 4 KeepsT.nil) (fun(z:TField)=>[]) (fun z=>[TField.c z]) (fun z=>H) (fun z=>Z91_j2 z=some r) ?_ ?_
 ·intro K2 hK2;refine seqR ?_;refine S Fv (S Ld ?_);refine sLen (f:=TField.c) (s:=a0.FFields) (TK rfl) rfl rfl rfl rfl fun hL6=>?_;refine S Mv ?_;refine nil ?_;refine block ?_;refine loopO (TA 1 (TA 4 (TA 9 (TA 10 KeepsT.nil)))) (fun(z:Nat×Nat×TField)=>[(11,.a (.d (.int .i64 ((z.2.1:Nat):Int))))]) (fun z=>[TField.c z.2.2]) (fun z=>H) (fun z=>z.1) (fun z=>Z91_l7 a0 a1 z.1 z.2.1 z.2.2=some r) ((a0.FFields.l.length+1),0,TField.zero) hE Weak.toA ?_
  rintro ⟨n7,s11_8,y9_l0⟩ hE K7 hK7;try dsimp only at hE
  cases n7 with
  | zero=>cases hE
  | succ n7 =>
    rw [Z91_l7] at hE;refine seqR ?_;refine S BI ?_;refine nil ?_;refine seqK fun K11 hK11=>?_;refine cE hE (fun hc12 hE=>?_) (fun hc12 hE=>?_)
    ·try dsimp only at hc12
     have hf12:=of_decide_eq_true hc12;refine sk hK11 ?_;clear hK11 K11;refine seqK fun K13 hK13=>?_;refine block ?_;refine seqR ?_;obtain⟨x15,gx15,hE⟩:=bO hE;refine s0 (idxMn (f:=TField.c) (n:=s11_8) (TK rfl) rfl (TK rfl) rfl rfl rfl gx15) rfl ?_;refine S Ld ?_;refine Sl ?_;refine Sf ?_;refine nil ?_;refine freezeA 7 _ rfl (KA 1 (KA 4 (KA 9 (KA 10 (KA 11 Keeps.nil))))) ?_;refine seqR ?_;refine S Fv (S Ld (S Mv (S BS ?_)))
     refine nil ?_;refine cE hE (fun hc17 hE=>?_) (fun hc17 hE=>?_)
     ·refine seqR ?_;refine S Ld ?_;refine Sf ?_;refine S As ?_;refine nil ?_;exact rt hE
     refine sk hK13 ?_;clear hK13 K13;refine region ?_;refine SI ?_;refine S Mv ?_;refine nil ?_;exact hK7 _ (n7,(s11_8+1),y9_l0) Weak.toA hE (Nat.lt_succ_self _)
    refine AWp.exit ?_;exact hK2 _ y9_l0 Weak.toA hE
 rintro y3_l0 hE;try dsimp only at hE
 unfold Z91_j2 at hE;refine seqR ?_;refine S BU ?_;refine Sf ?_;refine S As ?_;refine nil ?_;exact rt hE
end Go.Proofs
