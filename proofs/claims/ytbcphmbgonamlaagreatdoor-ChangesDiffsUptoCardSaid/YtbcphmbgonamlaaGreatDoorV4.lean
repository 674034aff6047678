import Derived.Test.YtbcphmbgonamlaaGreatDoorV3
set_option maxRecDepth 100000
set_option maxHeartbeats 2000000
set_option linter.unusedVariables false
set_option linter.unusedSimpArgs false
namespace Go.Proofs
open Go Go.Ab
open AOps Cert AWp Keeps KeepsT
variable {lou:Lou}
section
variable [IsLoud lou]
def Z121_j29  (s3_30:(Sl Bs)):Option Bs:=(Z142 s3_30 ([44,32]:Bs)).bind fun x32=>(catC ([91]:Bs) x32).bind fun x33=>(catC x33 ([93]:Bs)).bind fun x34=>some x34
def Z121_l37 (a0:Z7) (k_rec_211:Z7->Option Bs):Nat->(Sl Bs)->Nat->Option Bs
 | 0,_,_=>none
 | n37+1,s3_38,s38_39=>bif (decide (((s38_39:Nat):Int)<((a0.FItems.l.length:Nat):Int))) then((a0.FItems.l[s38_39]?).bind fun x45=>(k_rec_211 x45).bind fun x46=>(appC 16 s3_38 (⟨false,[x46]⟩:Sl Bs)).bind fun x47=>(Z121_l37 a0 k_rec_211 n37) x47 (s38_39+1)) else(Z121_j29   s3_38)
def Z121_j50  (s3_51:(Sl Bs)):Option Bs:=(Z142 s3_51 ([44,32]:Bs)).bind fun x53=>(catC ([123]:Bs) x53).bind fun x54=>(catC x54 ([125]:Bs)).bind fun x55=>some x55
def Z121_l59 (a0:Z7) (k_rec_211:Z7->Option Bs):Nat->(Sl Bs)->Int->Option Bs
 | 0,_,_=>none
 | n59+1,s3_60,s61_61=>bif (decide (s61_61<(if ((a0.FItems.l.length:Nat):Int)<((a0.FKeys.l.length:Nat):Int) then((a0.FItems.l.length:Nat):Int) else((a0.FKeys.l.length:Nat):Int)))) then((idxC a0.FKeys.l s61_61).bind fun x67=>(catC x67 ([58,32]:Bs)).bind fun x68=>(idxC a0.FItems.l s61_61).bind fun x69=>(k_rec_211 x69).bind fun x70=>(catC x68 x70).bind fun x71=>(appC 16 s3_60 (⟨false,[x71]⟩:Sl Bs)).bind fun x72=>(addC s61_61 (1:Int)).bind fun x73=>(Z121_l59 a0 k_rec_211 n59) x72 x73) else(Z121_j50   s3_60)
def Z121_n:Nat->Z7->Option Bs
 | 0,_=>none
 | n+1,a0=>bif (decide (a0.FKind=(1:Int))) then(bif (decide (a0.FInt=(0:Int))) then(some ([102,97,108,115,101]:Bs)) else(some ([116,114,117,101]:Bs))) else(bif (decide (a0.FKind=(2:Int))) then((Z143 a0.FInt).bind fun x15=>some x15) else(bif (decide (a0.FKind=(3:Int))) then((Z145 a0.FText).bind fun x19=>some x19) else(bif (decide (a0.FKind=(4:Int))) then(some a0.FText) else(bif (decide (a0.FKind=(7:Int))) then((catC ([36]:Bs) a0.FText).bind fun x26=>some x26) else(bif (decide (a0.FKind=(5:Int))) then(Z121_l37 a0 (Z121_n n) (a0.FItems.l.length+1) (Sl.nil:Sl Bs) 0) else(bif (decide (a0.FKind=(6:Int))) then(Z121_l59 a0 (Z121_n n) F0 (Sl.nil:Sl Bs) (0:Int)) else(some ([110,117,108,108]:Bs))))))))
theorem Z121_step (n:Nat) (ih_211:∀{a0:Z7}{oT:Ab.Obj}{gT:Nat}{r:Bs},Z121_n n a0=some r->∀(H:Heap) (hgT:H gT=some oT) (hoT:IsTab Tryz.prog oT),ACalls Tryz.prog 211 [.agg (Z7.c a0)] H fun v h'=>v=.a (.d (.str r))/\h'=H):∀{a0:Z7}{oT:Ab.Obj}{gT:Nat}{r:Bs},Z121_n (n+1) a0=some r->∀(H:Heap) (hgT:H gT=some oT) (hoT:IsTab Tryz.prog oT),ACalls Tryz.prog 211 [.agg (Z7.c a0)] H fun v h'=>v=.a (.d (.str r))/\h'=H:=by
 intro a0 oT gT r hE H hgT hoT;rw [Z121_n] at hE;refine ACalls.oW 85 [.tmp 2] Tryz.call211 Tryz.func211 ?_;refine AWp.tok 1 fun tk1 htk1=>?_;have ne_tk1_gT:tk1≠gT:=fun e_=>by subst e_; simp_all
 refine seqR (S BX (S As (nil ?_)));refine seqR (S As (nil ?_));refine AWp.nilTok 3 1 tk1 rfl hpG ?_;refine seqK fun K3 hK3=>?_;refine seqR (S Fv (S Ld (nil ?_)));refine block ?_;refine seqR (S BI (S As (nil ?_)));refine cE hE (fun hc6 hE=>?_) (fun hc6 hE=>?_)
 ·refine seqK fun K7 hK7=>?_;refine seqR (S Fv (S Ld (S BI (nil ?_))));refine cE hE (fun hc9 hE=>?_) (fun hc9 hE=>?_)
  ·refine seqR (S As (nil ?_));refine AWp.ret ?_;repeat (first|refine xBlock_ret ?_|refine xThen_ret ?_)
   obtain rfl:=Option.some.inj hE;refine retQ.retF H rfl ⟨rfl,rfl⟩ ?_
   first|exact Heap.sub_set htk1|(simp only [Heap.set_set]; exact Heap.sub_set htk1)
  refine sk hK7 ?_;clear hK7 K7;refine seqR (S As (nil ?_));refine AWp.ret ?_;repeat (first|refine xBlock_ret ?_|refine xThen_ret ?_)
  obtain rfl:=Option.some.inj hE;refine retQ.retF H rfl ⟨rfl,rfl⟩ ?_
  first|exact Heap.sub_set htk1|(simp only [Heap.set_set]; exact Heap.sub_set htk1)
 refine seqR (S BI (S As (nil ?_)));refine cE hE (fun hc13 hE=>?_) (fun hc13 hE=>?_)
 ·refine seqR (S Fv (S Ld ?_));obtain⟨x15,gx15,hE⟩:=bO hE;refine s0 (callR rfl rfl (Z143_walk (gT:=gT) (oT:=oT) gx15 _ hpG (by assumption))) rfl ?_;refine S As (nil ?_);refine AWp.ret ?_;repeat (first|refine xBlock_ret ?_|refine xThen_ret ?_)
  obtain rfl:=Option.some.inj hE;refine retQ.retF H rfl ⟨rfl,rfl⟩ ?_
  first|exact Heap.sub_set htk1|(simp only [Heap.set_set]; exact Heap.sub_set htk1)
 refine seqR (S BI (S As (nil ?_)));refine cE hE (fun hc17 hE=>?_) (fun hc17 hE=>?_)
 ·refine seqR (S Fv (S Ld ?_));obtain⟨x19,gx19,hE⟩:=bO hE;refine Sc rfl rfl (Z145_walk gx19) ?_;refine S As (nil ?_);refine AWp.ret ?_;repeat (first|refine xBlock_ret ?_|refine xThen_ret ?_)
  obtain rfl:=Option.some.inj hE;refine retQ.retF H rfl ⟨rfl,rfl⟩ ?_
  first|exact Heap.sub_set htk1|(simp only [Heap.set_set]; exact Heap.sub_set htk1)
 refine seqR (S BI (S As (nil ?_)));refine cE hE (fun hc21 hE=>?_) (fun hc21 hE=>?_)
 ·refine seqR (S Fv (S Ld (S As (nil ?_))));refine AWp.ret ?_;repeat (first|refine xBlock_ret ?_|refine xThen_ret ?_)
  obtain rfl:=Option.some.inj hE;refine retQ.retF H rfl ⟨rfl,rfl⟩ ?_
  first|exact Heap.sub_set htk1|(simp only [Heap.set_set]; exact Heap.sub_set htk1)
 refine seqR (S BI (S As (nil ?_)));refine cE hE (fun hc24 hE=>?_) (fun hc24 hE=>?_)
 ·refine seqR (S Fv (S Ld ?_));obtain⟨x26,gx26,hE⟩:=bO hE;refine s0 (catM rfl rfl gx26) rfl ?_;refine S As (nil ?_);refine AWp.ret ?_;repeat (first|refine xBlock_ret ?_|refine xThen_ret ?_)
  obtain rfl:=Option.some.inj hE;refine retQ.retF H rfl ⟨rfl,rfl⟩ ?_
  first|exact Heap.sub_set htk1|(simp only [Heap.set_set]; exact Heap.sub_set htk1)
 refine seqR (S BI (S As (nil ?_)));refine cE hE (fun hc28 hE=>?_) (fun hc28 hE=>?_)
 ·refine seqJH KeepsT.nil (fun(z:(Sl Bs))=>[(3,.a (.d (Sl.d 1 strE (some tk1) z)))]) (fun z=>(H.set tk1 (some (.tok 1 z.l.length)))) (fun z=>Z121_j29 z=some r) ?_ ?_
  ·intro K29 hK29;refine seqR (S Fv ?_);refine s0 (loadV (TK rfl) rfl rfl (congrArg (fun x=>some (A.d x)) (Z7.FItemsD_eq _))) rfl ?_;refine sLen (f:=Z7.c) (s:=a0.FItems) (TK rfl) rfl rfl rfl rfl fun hL36=>?_;refine S Mv (nil ?_);refine block ?_;refine loopH (TA 36 (TA 37 KeepsT.nil)) (fun(z:Nat×(Sl Bs)×Nat)=>[(3,.a (.d (Sl.d 1 strE (some tk1) z.2.1))),(38,.a (.d (.int .i64 ((z.2.2:Nat):Int))))]) (fun z=>(H.set tk1 (some (.tok 1 z.2.1.l.length)))) (fun z=>z.1) (fun z=>Z121_l37 a0 (Z121_n n) z.1 z.2.1 z.2.2=some r) ((a0.FItems.l.length+1),(Sl.nil:Sl Bs),0) hE Weak.toA ?_
   rintro ⟨n37,s3_38,s38_39⟩ hE K37 hK37;try dsimp only at hE
   cases n37 with
   | zero=>cases hE
   | succ n37 =>
     rw [Z121_l37] at hE;refine seqR (S BI (nil ?_));refine seqK fun K41 hK41=>?_;refine cE hE (fun hc42 hE=>?_) (fun hc42 hE=>?_)
     ·try dsimp only at hc42
      have hf42:=of_decide_eq_true hc42;refine sk hK41 ?_;clear hK41 K41;refine seqK fun K43 hK43=>?_;refine block ?_;refine seqR ?_;obtain⟨x45,gx45,hE⟩:=bO hE;refine S (ix Z7.c s38_39 gx45) (S Ld ?_);refine Sl ?_;refine Sf ?_;refine nil ?_;refine freezeA 5 _ rfl (KA 3 (KA 36 (KA 37 (KA 38 Keeps.nil)))) ?_;refine region ?_;refine S Mv (S Ld ?_);obtain⟨x46,gx46,hE⟩:=bO hE;refine s0 (callR rfl rfl (ih_211 (gT:=gT) (oT:=oT) gx46 _ hpG (by assumption))) rfl ?_
      refine S BV ?_;obtain⟨x47,gx47,hE⟩:=bO hE;refine SH (am strE (TK rfl) rfl (TK rfl) (TK rfl) gx47) ?_;refine hq (H.set tk1 (some (.tok 1 x47.l.length))) ?_;refine S As (nil ?_);refine hK43 _ ?_;clear hK43 K43;refine region ?_;refine SI ?_;refine S Mv (nil ?_);exact hK37 _ (n37,x47,(s38_39+1)) Weak.toA hE (Nat.lt_succ_self _)
     refine AWp.exit ?_;exact hK29 _ s3_38 Weak.toA hE
  rintro s3_30 hE;try dsimp only at hE
  unfold Z121_j29 at hE;refine seqR (S Mv ?_);obtain⟨x32,gx32,hE⟩:=bO hE;refine Sc rfl rfl (Z142_walk gx32) ?_;obtain⟨x33,gx33,hE⟩:=bO hE;refine s0 (catM rfl rfl gx33) rfl ?_;obtain⟨x34,gx34,hE⟩:=bO hE;refine s0 (catM rfl rfl gx34) rfl ?_;refine S As (nil ?_);refine AWp.ret ?_;repeat (first|refine xBlock_ret ?_|refine xThen_ret ?_)
  obtain rfl:=Option.some.inj hE;refine retQ.retF H rfl ⟨rfl,rfl⟩ ?_
  first|exact Heap.sub_set htk1|(simp only [Heap.set_set]; exact Heap.sub_set htk1)
 refine seqR (S BI (S As (nil ?_)));refine cE hE (fun hc49 hE=>?_) (fun hc49 hE=>?_)
 ·refine seqJH KeepsT.nil (fun(z:(Sl Bs))=>[(3,.a (.d (Sl.d 1 strE (some tk1) z)))]) (fun z=>(H.set tk1 (some (.tok 1 z.l.length)))) (fun z=>Z121_j50 z=some r) ?_ ?_
  ·intro K50 hK50;refine seqR (S Fv (S Ld ?_));refine sLen (f:=strE) (s:=a0.FKeys) (TK rfl) rfl rfl rfl rfl fun hL57=>?_;refine S Fv ?_;refine s0 (loadV (TK rfl) rfl rfl (congrArg (fun x=>some (A.d x)) (Z7.FItemsD_eq _))) rfl ?_;refine sLen (f:=Z7.c) (s:=a0.FItems) (TK rfl) rfl rfl rfl rfl fun hL58=>?_;refine s0 (minM rfl rfl) rfl ?_;refine S Mv (nil ?_);refine block ?_;refine loopH (TA 1 (TA 60 KeepsT.nil)) (fun(z:Nat×(Sl Bs)×Int)=>[(3,.a (.d (Sl.d 1 strE (some tk1) z.2.1))),(61,.a (.d (.int .i64 z.2.2)))]) (fun z=>(H.set tk1 (some (.tok 1 z.2.1.l.length)))) (fun z=>z.1) (fun z=>Z121_l59 a0 (Z121_n n) z.1 z.2.1 z.2.2=some r) (F0,(Sl.nil:Sl Bs),(0:Int)) hE Weak.toA ?_
   rintro ⟨n59,s3_60,s61_61⟩ hE K59 hK59;try dsimp only at hE
   cases n59 with
   | zero=>cases hE
   | succ n59 =>
     rw [Z121_l59] at hE;refine seqR (S BI (nil ?_));refine seqK fun K63 hK63=>?_;refine cE hE (fun hc64 hE=>?_) (fun hc64 hE=>?_)
     ·refine sk hK63 ?_;clear hK63 K63;refine seqK fun K65 hK65=>?_;refine block ?_;refine seqR (S Mv (S As (nil ?_)));refine AWp.draw rfl ?_;refine Sd Mv (Sd Fv (Sd Ld (Sd Mv ?_)));obtain⟨x67,gx67,hE⟩:=bO hE;refine DOps.s0 (idxM (f:=strE) (TK rfl) rfl (TK rfl) rfl rfl rfl gx67) rfl ?_;refine Sd Ld ?_;obtain⟨x68,gx68,hE⟩:=bO hE;refine DOps.s0 (catM rfl rfl gx68) rfl ?_;refine Sd Fv ?_;refine DOps.s0 (loadV (TK rfl) rfl rfl (congrArg (fun x=>some (A.d x)) (Z7.FItemsD_eq _))) rfl ?_
      refine Sd Mv ?_;obtain⟨x69,gx69,hE⟩:=bO hE;refine DOps.s0 (idxM (f:=Z7.c) (TK rfl) rfl (TK rfl) rfl rfl rfl gx69) rfl ?_;refine Sd Ld ?_;obtain⟨x70,gx70,hE⟩:=bO hE;refine DOps.s0 (callR rfl rfl (ih_211 (gT:=gT) (oT:=oT) gx70 _ hpG (by assumption))) rfl ?_;obtain⟨x71,gx71,hE⟩:=bO hE;refine DOps.s0 (catM rfl rfl gx71) rfl ?_;refine Sd BV ?_;obtain⟨x72,gx72,hE⟩:=bO hE;refine DOps.sH (appM (f:=strE) (TK rfl) rfl (TK rfl) (TK rfl) ⟨_,rfl⟩ rfl rfl (by decide) rfl rfl rfl rfl hpG rfl gx72) rfl ?_
      refine DOps.Dh (H.set tk1 (some (.tok 1 x72.l.length))) ?_;refine Sd As ?_;refine DOps.nil (by decide +kernel) ?_;refine hK65 _ ?_;clear hK65 K65;refine region ?_;obtain⟨x73,gx73,hE⟩:=bO hE;refine s0 (addM rfl rfl gx73) rfl ?_;refine S Mv (nil ?_);exact hK59 _ (n59,x72,x73) Weak.toA hE (Nat.lt_succ_self _)
     refine AWp.exit ?_;exact hK50 _ s3_60 Weak.toA hE
  rintro s3_51 hE;try dsimp only at hE
  unfold Z121_j50 at hE;refine seqR (S Mv ?_);obtain⟨x53,gx53,hE⟩:=bO hE;refine Sc rfl rfl (Z142_walk gx53) ?_;obtain⟨x54,gx54,hE⟩:=bO hE;refine s0 (catM rfl rfl gx54) rfl ?_;obtain⟨x55,gx55,hE⟩:=bO hE;refine s0 (catM rfl rfl gx55) rfl ?_;refine S As (nil ?_);refine AWp.ret ?_;repeat (first|refine xBlock_ret ?_|refine xThen_ret ?_)
  obtain rfl:=Option.some.inj hE;refine retQ.retF H rfl ⟨rfl,rfl⟩ ?_
  first|exact Heap.sub_set htk1|(simp only [Heap.set_set]; exact Heap.sub_set htk1)
 refine sk hK3 ?_;clear hK3 K3;refine seqR (S As (nil ?_));refine AWp.ret ?_;repeat (first|refine xBlock_ret ?_|refine xThen_ret ?_)
 obtain rfl:=Option.some.inj hE;refine retQ.retF H rfl ⟨rfl,rfl⟩ ?_
 first|exact Heap.sub_set htk1|(simp only [Heap.set_set]; exact Heap.sub_set htk1)
theorem Z121_all:∀(n:Nat),(∀{a0:Z7}{oT:Ab.Obj}{gT:Nat}{r:Bs},Z121_n n a0=some r->∀(H:Heap) (hgT:H gT=some oT) (hoT:IsTab Tryz.prog oT),ACalls Tryz.prog 211 [.agg (Z7.c a0)] H fun v h'=>v=.a (.d (.str r))/\h'=H)
 | 0=>fun hE=>by first|cases hE|(rw [Z121_n] at hE; cases hE)
 | n+1=>Z121_step n (Z121_all n)
def Z121 (a0:Z7):Option Bs:=Z121_n F0 a0
theorem Z121_walk {a0:Z7}{oT:Ab.Obj}{gT:Nat}{r:Bs}(hE:Z121 a0=some r) (H:Heap) (hgT:H gT=some oT) (hoT:IsTab Tryz.prog oT):ACalls Tryz.prog 211 [.agg (Z7.c a0)] H fun v h'=>v=.a (.d (.str r))/\h'=H:=(Z121_all F0) hE H hgT hoT
end
section
variable [IsLoud lou]
def Z12 (a0:Z5):Option Bs:=bif (!a0.FHas) then(some ([]:Bs)) else((Z121 a0.FDefault).bind fun x7=>some x7)
theorem Z12_walk {a0:Z5}{oT:Ab.Obj}{gT:Nat}{r:Bs}(hE:Z12 a0=some r) (H:Heap) (hgT:H gT=some oT) (hoT:IsTab Tryz.prog oT):ACalls Tryz.prog 149 [.agg (Z5.c a0)] H fun v h'=>v=.a (.d (.str r))/\h'=H:=by
 unfold Z12 at hE;refine ACalls.oW 9 [.tmp 2] Tryz.call149 Tryz.func149 ?_;refine seqR (S BX (S As (nil ?_)));refine seqK fun K2 hK2=>?_;refine seqR (S Fv (S Ld (S NB (nil ?_))));refine cE hE (fun hc4 hE=>?_) (fun hc4 hE=>?_)
 ·refine seqR (S As (nil ?_));exact rt hE
 refine sk hK2 ?_;clear hK2 K2;refine seqR (S Fv (S Ld ?_));obtain⟨x7,gx7,hE⟩:=bO hE;refine s0 (callR rfl rfl (Z121_walk (gT:=gT) (oT:=oT) gx7 _ hpG (by assumption))) rfl ?_;refine S As (nil ?_);exact rt hE
end
section
variable [IsLoud lou]
def Z19 (a0:Z5):Option Bs:=bif (!a0.FHas) then((Z159 a0.FType).bind fun x6=>some x6) else((Z159 a0.FType).bind fun x8=>(catC x8 ([32,61,32]:Bs)).bind fun x9=>(Z12 a0).bind fun x10=>(catC x9 x10).bind fun x11=>some x11)
theorem Z19_walk {a0:Z5}{oT:Ab.Obj}{gT:Nat}{r:Bs}(hE:Z19 a0=some r) (H:Heap) (hgT:H gT=some oT) (hoT:IsTab Tryz.prog oT):ACalls Tryz.prog 147 [.agg (Z5.c a0)] H fun v h'=>v=.a (.d (.str r))/\h'=H:=by
 unfold Z19 at hE;refine ACalls.oW 16 [.tmp 2] Tryz.call147 Tryz.func147 ?_;refine seqR (S BX (S As (nil ?_)));refine seqK fun K2 hK2=>?_;refine seqR (S Fv (S Ld (S NB (nil ?_))));refine cE hE (fun hc4 hE=>?_) (fun hc4 hE=>?_)
 ·refine seqR (S Fv (S Ld ?_));obtain⟨x6,gx6,hE⟩:=bO hE;refine Sc rfl rfl (Z159_walk gx6) ?_;refine S As (nil ?_);exact rt hE
 refine sk hK2 ?_;clear hK2 K2;refine AWp.seqD (Sd Fv (Sd Ld ?_));obtain⟨x8,gx8,hE⟩:=bO hE;refine Scd rfl rfl (Z159_walk gx8) ?_;obtain⟨x9,gx9,hE⟩:=bO hE;refine DOps.s0 (catM rfl rfl gx9) rfl ?_;refine Sd Ld ?_;obtain⟨x10,gx10,hE⟩:=bO hE;refine DOps.s0 (callR rfl rfl (Z12_walk (gT:=gT) (oT:=oT) gx10 _ hpG (by assumption))) rfl ?_;obtain⟨x11,gx11,hE⟩:=bO hE;refine DOps.s0 (catM rfl rfl gx11) rfl ?_
 refine Sd As ?_;refine DOps.nil (by decide +kernel) ?_;exact rt hE
end
def Z27 (a0:Int):Option Bool:=some (!decide (a0=a0))
theorem Z27_walk {a0:Int}{r:Bool}(hE:Z27 a0=some r) (H:Heap) :ACalls Tryz.prog 310 [.d (.int .i64 a0)] H fun v h'=>v=.a (.d (.bool r))/\h'=H:=by
 unfold Z27 at hE;refine ACalls.oW 6 [.tmp 2] Tryz.call310 Tryz.func310 ?_;refine seqR (S As (nil ?_));refine seqR (S Mv (S Mv (S BI (S As (nil ?_)))));exact rt hE
def Z26 (a0:Int) (a1:Int):Option Int:=(Z27 a0).bind fun x3=>(Z27 a1).bind fun x5=>bif x3 then(bif x5 then(some (0:Int)) else(some (-1:Int))) else(bif x5 then(some (1:Int)) else(bif (decide (a0<a1)) then(some (-1:Int)) else(bif (decide (a1<a0)) then(some (1:Int)) else(some (0:Int)))))
theorem Z26_walk {a0 a1 r:Int}(hE:Z26 a0 a1=some r) (H:Heap) :ACalls Tryz.prog 254 [.d (.int .i64 a0),.d (.int .i64 a1)] H fun v h'=>v=.a (.d (.int .i64 r))/\h'=H:=by
 unfold Z26 at hE;refine ACalls.oW 20 [.tmp 4] Tryz.call254 Tryz.func254 ?_;refine seqR (S As (nil ?_));refine seqR (S Mv ?_);obtain⟨x3,gx3,hE⟩:=bO hE;refine Sc rfl rfl (Z27_walk gx3) ?_;refine S As (nil ?_);refine seqR (S Mv ?_);obtain⟨x5,gx5,hE⟩:=bO hE;refine Sc rfl rfl (Z27_walk gx5) ?_;refine S As (nil ?_);refine seqK fun K6 hK6=>?_;refine seqR (S Mv (nil ?_));refine cE hE (fun hc8 hE=>?_) (fun hc8 hE=>?_)
 ·refine seqK fun K9 hK9=>?_;refine seqR (S Mv (nil ?_));refine cE hE (fun hc11 hE=>?_) (fun hc11 hE=>?_)
  ·refine seqR (S As (nil ?_));exact rt hE
  refine sk hK9 ?_;clear hK9 K9;refine seqR (S As (nil ?_));exact rt hE
 refine sk hK6 ?_;clear hK6 K6;refine seqK fun K14 hK14=>?_;refine seqR (S Mv (nil ?_));refine cE hE (fun hc16 hE=>?_) (fun hc16 hE=>?_)
 ·refine seqR (S As (nil ?_));exact rt hE
 refine sk hK14 ?_;clear hK14 K14;refine seqK fun K18 hK18=>?_;refine seqR (S Mv (S Mv (S BI (nil ?_))));refine cE hE (fun hc20 hE=>?_) (fun hc20 hE=>?_)
 ·refine seqR (S As (nil ?_));exact rt hE
 refine sk hK18 ?_;clear hK18 K18;refine seqK fun K22 hK22=>?_;refine seqR (S Mv (S Mv (S BI (nil ?_))));refine cE hE (fun hc24 hE=>?_) (fun hc24 hE=>?_)
 ·refine seqR (S As (nil ?_));exact rt hE
 refine sk hK22 ?_;clear hK22 K22;refine seqR (S As (nil ?_));exact rt hE
def Tryz.lay255_ren:Go.Shelf.Ren:=⟨fun|106=>255|213=>311|265=>343|n=>n,fun|9=>9|3=>3|n=>n,fun|n=>n⟩
theorem Tryz.lay255:Go.Proofs.Lays.n106 Tryz.prog Tryz.lay255_ren:={
 mixed:=by kernel_rfl
 f106:=Tryz.func255.trans (congrArg some (by kernel_rfl))
 f213:=Tryz.func311.trans (congrArg some (by kernel_rfl))
 f265:=Tryz.func343.trans (congrArg some (by kernel_rfl))
 t3:=Tryz.underlying3
 a3:=Tryz.isAgg3
 z3:=Tryz.sizeOf3
 v3:=Tryz.zeroValue3
 t9:=Tryz.underlying9
 a9:=Tryz.isAgg9
 z9:=Tryz.sizeOf9
 v9:=Tryz.zeroValue9 }
def Z135 (s t:Bs):Option Int:=some (Lib.compareBytes s t)
theorem Z135_walk {a0 a1:Bs}{r:Int}(hE:Z135 a0 a1=some r) (H:Heap):ACalls Tryz.prog 255 [.d (.str a0),.d (.str a1)] H fun v h'=>v=.a (.d (.int .i64 r))/\h'=H:=by
 obtain rfl:=Option.some.inj hE;exact cmpS_calls Tryz.lay255 rfl
def Z167 (a0:Z7) (a1:Int):Option Bs:=bif (decide (a1<((a0.FKeys.l.length:Nat):Int))) then((idxC a0.FKeys.l a1).bind fun x7=>some x7) else(some ([]:Bs))
theorem Z167_walk {a0:Z7}{a1:Int}{r:Bs}(hE:Z167 a0 a1=some r) (H:Heap) :ACalls Tryz.prog 256 [.agg (Z7.c a0),.d (.int .i64 a1)] H fun v h'=>v=.a (.d (.str r))/\h'=H:=by
 unfold Z167 at hE;refine ACalls.oW 15 [.tmp 4] Tryz.call256 Tryz.func256 ?_;refine seqR (S BX (S As (nil ?_)));refine seqK fun K2 hK2=>?_;refine seqR (S Mv (S Fv (S Ld ?_)));refine sLen (f:=strE) (s:=a0.FKeys) (TK rfl) rfl rfl rfl rfl fun hL4=>?_;refine S BI (nil ?_);refine cE hE (fun hc5 hE=>?_) (fun hc5 hE=>?_)
 ·refine seqR (S Fv (S Ld (S Mv ?_)));obtain⟨x7,gx7,hE⟩:=bO hE;refine s0 (idxM (f:=strE) (TK rfl) rfl (TK rfl) rfl rfl rfl gx7) rfl ?_;refine S Ld (S As (nil ?_));exact rt hE
 refine sk hK2 ?_;clear hK2 K2;refine seqR (S As (nil ?_));exact rt hE
end Go.Proofs

namespace Go.Proofs
open Go Go.Ab
open AOps Cert AWp Keeps KeepsT
variable {lou:Lou}
def Z165_j4  (s5_5:Int):Option Int:=some s5_5
def Z165_j14 (s7_10:Int) (k_next_8:Int->Int->Option Int) (s5_15:Int):Option Int:=(addC s7_10 (1:Int)).bind fun x16=>k_next_8 s5_15 x16
def Z165_j30 (a0:Z7) (a1:Z7) (s7_10:Int) (k_next_8:Int->Int->Option Int) :Option Int:=(Z26 ((a0.FItems.l.length:Nat):Int) ((a1.FItems.l.length:Nat):Int)).bind fun x33=>Z165_j14 s7_10 k_next_8 x33
def Z165_l37 (a0:Z7) (a1:Z7) (s7_10:Int) (k_next_8:Int->Int->Option Int) (k_rec_210:Z7->Z7->Option Int):Nat->Int->Option Int
 | 0,_=>none
 | n37+1,s49_38=>bif (decide (s49_38<(if ((a1.FItems.l.length:Nat):Int)<((a0.FItems.l.length:Nat):Int) then((a1.FItems.l.length:Nat):Int) else((a0.FItems.l.length:Nat):Int)))) then((Z167 a0 s49_38).bind fun x46=>(Z167 a1 s49_38).bind fun x47=>(Z135 x46 x47).bind fun x48=>bif (!decide (x48=(0:Int))) then(Z165_j4   x48) else((idxC a0.FItems.l s49_38).bind fun x52=>(idxC a1.FItems.l s49_38).bind fun x53=>(k_rec_210 x52 x53).bind fun x54=>bif (!decide (x54=(0:Int))) then(Z165_j4   x54) else((addC s49_38 (1:Int)).bind fun x57=>(Z165_l37 a0 a1 s7_10 k_next_8 k_rec_210 n37) x57))) else(Z165_j30 a0 a1 s7_10 k_next_8 )
def Z165_l8 (a0:Z7) (a1:Z7) (k_rec_210:Z7->Z7->Option Int):Nat->Int->Int->Option Int
 | 0,_,_=>none
 | n8+1,s5_9,s7_10=>bif (decide (s7_10<(1:Int))) then(bif (!decide (a0.FKind=a1.FKind)) then((Z26 a0.FKind a1.FKind).bind fun x21=>Z165_j4   x21) else(bif (!decide (a0.FInt=a1.FInt)) then((Z26 a0.FInt a1.FInt).bind fun x25=>Z165_j4   x25) else(bif (!(a0.FText==a1.FText)) then((Z135 a0.FText a1.FText).bind fun x29=>Z165_j4   x29) else(Z165_l37 a0 a1 s7_10 ((Z165_l8 a0 a1 k_rec_210 n8)) k_rec_210 F0 (0:Int))))) else(Z165_j4   s5_9)
def Z165_n:Nat->Z7->Z7->Option Int
 | 0,_,_=>none
 | n+1,a0,a1=>Z165_l8 a0 a1 (Z165_n n) F0 (0:Int) (0:Int)
theorem Z165_step (n:Nat) (ih_210:∀{a0 a1:Z7}{r:Int},Z165_n n a0 a1=some r->∀(H:Heap),ACalls Tryz.prog 210 [.agg (Z7.c a0),.agg (Z7.c a1)] H fun v h'=>v=.a (.d (.int .i64 r))/\h'=H):∀{a0 a1:Z7}{r:Int},Z165_n (n+1) a0 a1=some r->∀(H:Heap),ACalls Tryz.prog 210 [.agg (Z7.c a0),.agg (Z7.c a1)] H fun v h'=>v=.a (.d (.int .i64 r))/\h'=H:=by
 intro a0 a1   r hE H ;rw [Z165_n] at hE;refine ACalls.oW 84 [.tmp 4] Tryz.call210 Tryz.func210 ?_;refine seqR (S BX (S BX (S As (nil ?_))));refine AWp.scope ?_;refine seqR (S As (nil ?_));refine seqK fun K3 hK3=>?_;refine AWp.label ?_;refine hK3 _ ?_;clear hK3 K3;refine seqJH KeepsT.nil (fun(z:Int)=>[(5,.a (.d (.int .i64 z)))]) (fun z=>H) (fun z=>Z165_j4 z=some r) ?_ ?_
 ·intro K4 hK4;refine seqR (S Mv (nil ?_));refine block ?_;refine loopH (TA 2 (TA 3 KeepsT.nil)) (fun(z:Nat×Int×Int)=>[(5,.a (.d (.int .i64 z.2.1))),(7,.a (.d (.int .i64 z.2.2)))]) (fun z=>H) (fun z=>z.1) (fun z=>Z165_l8 a0 a1 (Z165_n n) z.1 z.2.1 z.2.2=some r) (F0,(0:Int),(0:Int)) hE Weak.toA ?_;rintro ⟨n8,s5_9,s7_10⟩ hE K8 hK8;try dsimp only at hE
  cases n8 with
  | zero=>cases hE
  | succ n8 =>
    rw [Z165_l8] at hE;refine seqR (S BI (nil ?_));refine seqK fun K12 hK12=>?_;refine cE hE (fun hc13 hE=>?_) (fun hc13 hE=>?_)
    ·refine sk hK12 ?_;clear hK12 K12;refine seqJH (TA 2 (TA 3 (TA 7 KeepsT.nil))) (fun(z:Int)=>[(5,.a (.d (.int .i64 z)))]) (fun z=>H) (fun z=>Z165_j14 s7_10 ((Z165_l8 a0 a1 (Z165_n n) n8)) z=some r) ?_ ?_
     ·intro K14 hK14;refine block ?_;refine seqK fun K17 hK17=>?_;refine block ?_;refine seqR (S Fv (S Ld (S Fv (S Ld (S BI (S As (nil ?_)))))));refine cE hE (fun hc19 hE=>?_) (fun hc19 hE=>?_)
      ·refine seqR (S Fv (S Ld (S Fv (S Ld ?_))));obtain⟨x21,gx21,hE⟩:=bO hE;refine Sc rfl rfl (Z26_walk gx21) ?_;refine S As (nil ?_);refine AWp.exit ?_;exact hK4 _ x21 Weak.toA hE
      refine seqR (S Fv (S Ld (S Fv (S Ld (S BI (S As (nil ?_)))))));refine cE hE (fun hc23 hE=>?_) (fun hc23 hE=>?_)
      ·refine seqR (S Fv (S Ld (S Fv (S Ld ?_))));obtain⟨x25,gx25,hE⟩:=bO hE;refine Sc rfl rfl (Z26_walk gx25) ?_;refine S As (nil ?_);refine AWp.exit ?_;exact hK4 _ x25 Weak.toA hE
      refine seqR (S Fv (S Ld (S Fv (S Ld (S BS (S As (nil ?_)))))));refine cE hE (fun hc27 hE=>?_) (fun hc27 hE=>?_)
      ·refine seqR (S Fv (S Ld (S Fv (S Ld ?_))));obtain⟨x29,gx29,hE⟩:=bO hE;refine Sc rfl rfl (Z135_walk gx29) ?_;refine S As (nil ?_);refine AWp.exit ?_;exact hK4 _ x29 Weak.toA hE
      refine sk hK17 ?_;clear hK17 K17;refine seqJH (TA 2 (TA 3 (TA 7 KeepsT.nil))) (fun(z:Unit)=>[]) (fun z=>H) (fun z=>Z165_j30 a0 a1 s7_10 ((Z165_l8 a0 a1 (Z165_n n) n8)) =some r) ?_ ?_
      ·intro K30 hK30;refine seqR (S Fv ?_);refine s0 (loadV (TK rfl) rfl rfl (congrArg (fun x=>some (A.d x)) (Z7.FItemsD_eq _))) rfl ?_;refine sLen (f:=Z7.c) (s:=a0.FItems) (TK rfl) rfl rfl rfl rfl fun hL35=>?_;refine S Fv ?_;refine s0 (loadV (TK rfl) rfl rfl (congrArg (fun x=>some (A.d x)) (Z7.FItemsD_eq _))) rfl ?_;refine sLen (f:=Z7.c) (s:=a1.FItems) (TK rfl) rfl rfl rfl rfl fun hL36=>?_;refine s0 (minM rfl rfl) rfl ?_
       refine S Mv (nil ?_);refine block ?_;refine loopH (TA 2 (TA 3 (TA 7 (TA 48 KeepsT.nil)))) (fun(z:Nat×Int)=>[(49,.a (.d (.int .i64 z.2)))]) (fun z=>H) (fun z=>z.1) (fun z=>Z165_l37 a0 a1 s7_10 ((Z165_l8 a0 a1 (Z165_n n) n8)) (Z165_n n) z.1 z.2=some r) (F0,(0:Int)) hE Weak.toA ?_;rintro ⟨n37,s49_38⟩ hE K37 hK37;try dsimp only at hE
       cases n37 with
       | zero=>cases hE
       | succ n37 =>
         rw [Z165_l37] at hE;refine seqR (S BI (nil ?_));refine seqK fun K40 hK40=>?_;refine cE hE (fun hc41 hE=>?_) (fun hc41 hE=>?_)
         ·refine sk hK40 ?_;clear hK40 K40;refine seqK fun K42 hK42=>?_;refine block ?_;refine seqR (S Mv (S As (nil ?_)));refine seqK fun K44 hK44=>?_;refine AWp.seqD (Sd Ld (Sd Mv ?_));obtain⟨x46,gx46,hE⟩:=bO hE;refine Scd rfl rfl (Z167_walk gx46) ?_;refine Sd Ld (Sd Mv ?_);obtain⟨x47,gx47,hE⟩:=bO hE;refine Scd rfl rfl (Z167_walk gx47) ?_;obtain⟨x48,gx48,hE⟩:=bO hE;refine Scd rfl rfl (Z135_walk gx48) ?_
          refine Sd As ?_;refine DOps.nil (by decide +kernel) ?_;refine seqR (S Mv (S BI (nil ?_)));refine cE hE (fun hc50 hE=>?_) (fun hc50 hE=>?_)
          ·refine AWp.exit ?_;exact hK4 _ x48 Weak.toA hE
          refine sk hK44 ?_;clear hK44 K44;refine AWp.seqD (Sd Fv ?_);refine DOps.s0 (loadV (TK rfl) rfl rfl (congrArg (fun x=>some (A.d x)) (Z7.FItemsD_eq _))) rfl ?_;refine Sd Mv ?_;obtain⟨x52,gx52,hE⟩:=bO hE;refine DOps.s0 (idxM (f:=Z7.c) (TK rfl) rfl (TK rfl) rfl rfl rfl gx52) rfl ?_;refine Sd Ld (Sd Fv ?_);refine DOps.s0 (loadV (TK rfl) rfl rfl (congrArg (fun x=>some (A.d x)) (Z7.FItemsD_eq _))) rfl ?_
          refine Sd Mv ?_;obtain⟨x53,gx53,hE⟩:=bO hE;refine DOps.s0 (idxM (f:=Z7.c) (TK rfl) rfl (TK rfl) rfl rfl rfl gx53) rfl ?_;refine Sd Ld ?_;obtain⟨x54,gx54,hE⟩:=bO hE;refine Scd rfl rfl (ih_210 gx54) ?_;refine Sd As ?_;refine DOps.nil (by decide +kernel) ?_;refine seqR (S Mv (S BI (nil ?_)));refine cE hE (fun hc56 hE=>?_) (fun hc56 hE=>?_)
          ·refine AWp.exit ?_;exact hK4 _ x54 Weak.toA hE
          refine sk hK42 ?_;clear hK42 K42;refine region ?_;obtain⟨x57,gx57,hE⟩:=bO hE;refine s0 (addM rfl rfl gx57) rfl ?_;refine S Mv (nil ?_);exact hK37 _ (n37,x57) Weak.toA hE (Nat.lt_succ_self _)
         refine AWp.exit ?_;exact hK30 _ () Weak.toA hE
      rintro _ hE;try dsimp only at hE
      unfold Z165_j30 at hE;refine region ?_;refine S Fv ?_;refine s0 (loadV (TK rfl) rfl rfl (congrArg (fun x=>some (A.d x)) (Z7.FItemsD_eq _))) rfl ?_;refine sLen (f:=Z7.c) (s:=a0.FItems) (TK rfl) rfl rfl rfl rfl fun hL31=>?_;refine S Fv ?_;refine s0 (loadV (TK rfl) rfl rfl (congrArg (fun x=>some (A.d x)) (Z7.FItemsD_eq _))) rfl ?_;refine sLen (f:=Z7.c) (s:=a1.FItems) (TK rfl) rfl rfl rfl rfl fun hL32=>?_
      obtain⟨x33,gx33,hE⟩:=bO hE;refine Sc rfl rfl (Z26_walk gx33) ?_;refine S As (nil ?_);exact hK14 _ x33 Weak.toA hE
     rintro s5_15 hE;try dsimp only at hE
     unfold Z165_j14 at hE;refine region ?_;obtain⟨x16,gx16,hE⟩:=bO hE;refine s0 (addM rfl rfl gx16) rfl ?_;refine S Mv (nil ?_);exact hK8 _ (n8,s5_15,x16) Weak.toA hE (Nat.lt_succ_self _)
    refine AWp.exit ?_;exact hK4 _ s5_9 Weak.toA hE
 rintro s5_5 hE;try dsimp only at hE
 unfold Z165_j4 at hE;refine seqR (S Mv (S As (nil ?_)));refine AWp.ret ?_;repeat (first|refine xBlock_ret ?_|refine xThen_ret ?_|refine noG_ret ?_)
 obtain rfl:=Option.some.inj hE;refine retQ.retF H rfl ⟨rfl,rfl⟩ ?_;exact(fun _ _ h=>h)
theorem Z165_all:∀(n:Nat),(∀{a0 a1:Z7}{r:Int},Z165_n n a0 a1=some r->∀(H:Heap),ACalls Tryz.prog 210 [.agg (Z7.c a0),.agg (Z7.c a1)] H fun v h'=>v=.a (.d (.int .i64 r))/\h'=H)
 | 0=>fun hE=>by first|cases hE|(rw [Z165_n] at hE; cases hE)
 | n+1=>Z165_step n (Z165_all n)
def Z165 (a0:Z7) (a1:Z7):Option Int:=Z165_n F0 a0 a1
theorem Z165_walk {a0 a1:Z7}{r:Int}(hE:Z165 a0 a1=some r) (H:Heap) :ACalls Tryz.prog 210 [.agg (Z7.c a0),.agg (Z7.c a1)] H fun v h'=>v=.a (.d (.int .i64 r))/\h'=H:=(Z165_all F0) hE H 
def Z166 (a0:Z7) (a1:Z7):Option Bool:=(Z165 a0 a1).bind fun x3=>some (decide (x3=(0:Int)))
theorem Z166_walk {a0 a1:Z7}{r:Bool}(hE:Z166 a0 a1=some r) (H:Heap) :ACalls Tryz.prog 148 [.agg (Z7.c a0),.agg (Z7.c a1)] H fun v h'=>v=.a (.d (.bool r))/\h'=H:=by
 unfold Z166 at hE;refine ACalls.oW 9 [.tmp 4] Tryz.call148 Tryz.func148 ?_;refine seqR (S BX (S BX (S As (nil ?_))));refine seqR (S Ld (S Ld ?_));obtain⟨x3,gx3,hE⟩:=bO hE;refine Sc rfl rfl (Z165_walk gx3) ?_;refine S BI (S As (nil ?_));exact rt hE
section
variable [IsLoud lou]
def Z18_j12 (s100_7:Nat) (k_next_6:Nat->Z0->Option Z0) (y13_c0:Z0):Option Z0:=k_next_6 (s100_7+1) y13_c0
def Z18_l6 (a1:(Sl Z5)) (a2:(Sl Z5)) (a3:Z1) (a4:(Bs->Option (Bs×Bs))) :Nat->Nat->Z0->Option Z0
 | 0,_,_=>none
 | n6+1,s100_7,y8_c0=>bif (decide (((s100_7:Nat):Int)<((a2.l.length:Nat):Int))) then((a2.l[s100_7]?).bind fun x15=>(Z120 a1 x15.FName).bind fun x17=>bif (!x17.2) then((a4 x15.FName).bind fun x21=>(Z19 x15).bind fun x22=>(Z13 y8_c0 a3.Fadd x21.1 x21.2 ([]:Bs) x22).bind fun x23=>Z18_j12 s100_7 ((Z18_l6 a1 a2 a3 a4 n6)) x23) else(Z18_j12 s100_7 ((Z18_l6 a1 a2 a3 a4 n6)) y8_c0)) else(some y8_c0)
def Z18_j2 (a1:(Sl Z5)) (a2:(Sl Z5)) (a3:Z1) (a4:(Bs->Option (Bs×Bs)))  (y3_c0:Z0):Option Z0:=Z18_l6 a1 a2 a3 a4 (a2.l.length+1) 0 y3_c0
def Z18_j32 (s24_27:Nat) (k_next_26:Nat->Z0->Option Z0) (y33_c0:Z0):Option Z0:=k_next_26 (s24_27+1) y33_c0
def Z18_j46 (a3:Z1) (s24_27:Nat) (x35:Z5) (x37:(Bs×Bs)) (x39:(Z5×Bool)) (k_next_26:Nat->Z0->Option Z0) (y47_c0:Z0):Option Z0:=guardO ((!(!(x35.FHas==x39.1.FHas))&&x35.FHas)) (Z166 x35.FDefault x39.1.FDefault) false fun x49=>bif ((!(x35.FHas==x39.1.FHas))||(x35.FHas&&(!x49))) then((Z12 x35).bind fun x51=>(Z12 x39.1).bind fun x52=>(Z13 y47_c0 a3.Fdef x37.1 x37.2 x51 x52).bind fun x53=>Z18_j32 s24_27 k_next_26 x53) else(Z18_j32 s24_27 k_next_26 y47_c0)
def Z18_l26 (a1:(Sl Z5)) (a2:(Sl Z5)) (a3:Z1) (a4:(Bs->Option (Bs×Bs))) :Nat->Nat->Z0->Option Z0
 | 0,_,_=>none
 | n26+1,s24_27,y28_c0=>bif (decide (((s24_27:Nat):Int)<((a1.l.length:Nat):Int))) then((a1.l[s24_27]?).bind fun x35=>(a4 x35.FName).bind fun x37=>(Z120 a2 x35.FName).bind fun x39=>bif (!x39.2) then((Z19 x35).bind fun x44=>(Z13 y28_c0 a3.Fgone x37.1 x37.2 x44 ([]:Bs)).bind fun x45=>Z18_j32 s24_27 ((Z18_l26 a1 a2 a3 a4 n26)) x45) else((Z160 x35.FType x39.1.FType).bind fun x55=>bif (!x55) then((Z159 x35.FType).bind fun x57=>(Z159 x39.1.FType).bind fun x58=>(Z13 y28_c0 a3.Ftyp x37.1 x37.2 x57 x58).bind fun x59=>Z18_j46 a3 s24_27 x35 x37 x39 ((Z18_l26 a1 a2 a3 a4 n26)) x59) else(Z18_j46 a3 s24_27 x35 x37 x39 ((Z18_l26 a1 a2 a3 a4 n26)) y28_c0))) else(Z18_j2 a1 a2 a3 a4  y28_c0)
def Z18 (a0:Z0) (a1:(Sl Z5)) (a2:(Sl Z5)) (a3:Z1) (a4:(Bs->Option (Bs×Bs))):Option Z0:=Z18_l26 a1 a2 a3 a4 (a1.l.length+1) 0 a0
theorem Z18_walk {a0:Z0}{a1 a2:Sl Z5}{a3:Z1}{a4:(Bs->Option (Bs×Bs))}{w1 w2:Option Nat}{cl4:List D}{oT:Ab.Obj}{c0 c0_1 k4 gT:Nat}{r:Z0}(hE:Z18 a0 a1 a2 a3 a4=some r) (H:Heap) (hc0:H c0=some (.cells (Z0.cg (some c0_1) a0))) (ht0_1:H c0_1=some (.tok 6 a0.Fout.l.length)) (hf4:∀x0 r,a4 x0=some r->∀H,ACalls Tryz.prog k4 ([.d (.str x0)]++cl4.map A.d) H fun v h'=>v=.tup [.d (.str r.1),.d (.str r.2)]/\h'=H) (hgT:H gT=some oT) (hoT:IsTab Tryz.prog oT):ACalls Tryz.prog 74 [.d (.ptr c0 0),.d (Sl.d 10 Z5.c w1 a1),.d (Sl.d 10 Z5.c w2 a2),.agg (Z1.c a3),.d (.func k4 cl4)] H fun v h'=>v=.tup []/\h'=((H.set c0_1 (some (.tok 6 r.Fout.l.length))).set c0 (some (.cells (Z0.cg (some c0_1) r)))):=by
 unfold Z18 at hE;refine ACalls.oW 129 [] Tryz.call74 Tryz.func74 ?_;have ne_c0_c0_1:c0≠c0_1:=fun e_=>by subst e_; simp_all
 have ne_gT_c0_1:gT≠c0_1:=fun e_=>by subst e_; obtain⟨_,_,_,e2_,_⟩:=hoT; simp_all
 have ne_gT_c0:gT≠c0:=fun e_=>by subst e_; obtain⟨_,_,_,e2_,_⟩:=hoT; simp_all
 refine AWp.heqA (h':=((H.set c0_1 (some (.tok 6 a0.Fout.l.length))).set c0 (some (.cells (Z0.cg (some c0_1) a0))))) (by funext n_; simp only [Heap.set]; (repeat' split)<;>simp_all) ?_;refine seqR (S BX (nil ?_));refine seqJH (TA 0 (TA 1 (TA 2 (TA 4 (TA 8 KeepsT.nil))))) (fun(z:Z0)=>[]) (fun z=>((H.set c0_1 (some (.tok 6 z.Fout.l.length))).set c0 (some (.cells (Z0.cg (some c0_1) z))))) (fun z=>Z18_j2 a1 a2 a3 a4 z=some r) ?_ ?_
 ·intro K2 hK2;refine seqR (S Mv ?_);refine sLen (f:=Z5.c) (s:=a1) (TK rfl) rfl rfl rfl rfl fun hL25=>?_;refine S Mv (nil ?_);refine block ?_;refine loopH (TA 0 (TA 1 (TA 2 (TA 4 (TA 8 (TA 22 (TA 23 KeepsT.nil))))))) (fun(z:Nat×Nat×Z0)=>[(24,.a (.d (.int .i64 ((z.2.1:Nat):Int))))]) (fun z=>((H.set c0_1 (some (.tok 6 z.2.2.Fout.l.length))).set c0 (some (.cells (Z0.cg (some c0_1) z.2.2))))) (fun z=>z.1) (fun z=>Z18_l26 a1 a2 a3 a4 z.1 z.2.1 z.2.2=some r) ((a1.l.length+1),0,a0) hE Weak.toA ?_
  rintro ⟨n26,s24_27,y28_c0⟩ hE K26 hK26;try dsimp only at hE
  cases n26 with
  | zero=>cases hE
  | succ n26 =>
    rw [Z18_l26] at hE;refine seqR (S BI (nil ?_));refine seqK fun K30 hK30=>?_;refine cE hE (fun hc31 hE=>?_) (fun hc31 hE=>?_)
    ·try dsimp only at hc31
     have hf31:=of_decide_eq_true hc31;refine sk hK30 ?_;clear hK30 K30;refine seqJH (TA 0 (TA 1 (TA 2 (TA 4 (TA 8 (TA 22 (TA 23 (TA 24 KeepsT.nil)))))))) (fun(z:Z0)=>[]) (fun z=>((H.set c0_1 (some (.tok 6 z.Fout.l.length))).set c0 (some (.cells (Z0.cg (some c0_1) z))))) (fun z=>Z18_j32 s24_27 ((Z18_l26 a1 a2 a3 a4 n26)) z=some r) ?_ ?_
     ·intro K32 hK32;refine block ?_;refine seqR ?_;obtain⟨x35,gx35,hE⟩:=bO hE;refine S (ix Z5.c s24_27 gx35) (S Ld ?_);refine Sl ?_;refine Sf ?_;refine nil ?_;refine freezeA 11 _ rfl (KA 0 (KA 1 (KA 2 (KA 4 (KA 8 (KA 22 (KA 23 (KA 24 Keeps.nil)))))))) ?_;refine seqR (S Mv (S Fv (S Ld ?_)));obtain⟨x37,gx37,hE⟩:=bO hE;refine s0 (callP rfl rfl (hf4 _ _ gx37)) rfl ?_;refine S Mv (S EX (S EX (S As (S As (nil ?_)))))
      refine seqR (S Mv (S Fv (S Ld ?_)));obtain⟨x39,gx39,hE⟩:=bO hE;refine Sc rfl rfl (Z120_walk gx39) ?_;refine S Mv (S EX (S EX ?_));refine Sl ?_;refine Sf ?_;refine S As (nil ?_);refine freezeA 14 _ rfl (KA 0 (KA 1 (KA 2 (KA 4 (KA 8 (KA 11 (KA 12 (KA 13 (KA 15 (KA 22 (KA 23 (KA 24 Keeps.nil)))))))))))) ?_;refine seqK fun K40 hK40=>?_;refine seqR (S Mv (S NB (nil ?_)));refine cE hE (fun hc42 hE=>?_) (fun hc42 hE=>?_)
      ·refine AWp.seqD (Sd Mv (Sd Fv (Sd Ld (Sd Mv (Sd Mv (Sd Ld ?_))))));obtain⟨x44,gx44,hE⟩:=bO hE;refine DOps.s0 (callR rfl rfl (Z19_walk (gT:=gT) (oT:=oT) gx44 _ hpG (by assumption))) rfl ?_;obtain⟨x45,gx45,hE⟩:=bO hE;refine DOps.sH (callH rfl rfl (Z13_walk gx45 _ hpG hpG)) rfl ?_;refine DOps.Dh ((H.set c0_1 (some (.tok 6 x45.Fout.l.length))).set c0 (some (.cells (Z0.cg (some c0_1) x45)))) ?_;refine DOps.nil (by decide +kernel) ?_
       refine AWp.exit ?_;exact hK32 _ x45 Weak.toA hE
      refine sk hK40 ?_;clear hK40 K40;refine seqJH (TA 0 (TA 1 (TA 2 (TA 4 (TA 8 (TA 11 (TA 12 (TA 13 (TA 14 (TA 22 (TA 23 (TA 24 KeepsT.nil)))))))))))) (fun(z:Z0)=>[]) (fun z=>((H.set c0_1 (some (.tok 6 z.Fout.l.length))).set c0 (some (.cells (Z0.cg (some c0_1) z))))) (fun z=>Z18_j46 a3 s24_27 x35 x37 x39 ((Z18_l26 a1 a2 a3 a4 n26)) z=some r) ?_ ?_
      ·intro K46 hK46;refine seqR (S Fv (S Ld (S Fv (S Ld ?_))));obtain⟨x55,gx55,hE⟩:=bO hE;refine Sc rfl rfl (Z160_walk gx55) ?_;refine S NB (nil ?_);refine cE hE (fun hc56 hE=>?_) (fun hc56 hE=>?_)
       ·refine AWp.draw rfl ?_;refine Sd Mv (Sd Fv (Sd Ld (Sd Mv (Sd Mv (Sd Fv (Sd Ld ?_))))));obtain⟨x57,gx57,hE⟩:=bO hE;refine Scd rfl rfl (Z159_walk gx57) ?_;refine Sd Fv (Sd Ld ?_);obtain⟨x58,gx58,hE⟩:=bO hE;refine Scd rfl rfl (Z159_walk gx58) ?_;obtain⟨x59,gx59,hE⟩:=bO hE;refine DOps.sH (callH rfl rfl (Z13_walk gx59 _ hpG hpG)) rfl ?_;refine DOps.Dh ((H.set c0_1 (some (.tok 6 x59.Fout.l.length))).set c0 (some (.cells (Z0.cg (some c0_1) x59)))) ?_
        refine DOps.nil (by decide +kernel) ?_;exact hK46 _ x59 Weak.toA hE
       refine AWp.skip ?_;exact hK46 _ y28_c0 Weak.toA hE
      rintro y47_c0 hE;try dsimp only at hE
      unfold Z18_j46 at hE;refine seqR (S Fv (S Ld (S Fv (S Ld ?_))));refine s0 (neB (TK rfl) rfl rfl rfl) rfl ?_;refine S Mv (G0 Fv ?_);refine G1 76 rfl Ld ?_;refine G1 77 rfl Mv ?_;refine G0 Fv ?_;refine G1 79 rfl Ld ?_;refine G0 Fv ?_;refine G1 81 rfl Ld ?_;obtain⟨x49,gx49,hE⟩:=gO hE;refine Gc2 80 82 rfl rfl rfl rfl rfl rfl (fun hC=>Z166_walk (gx49 hC)) ?_;refine G1 83 rfl NB ?_;refine gC rfl rfl (fun hC=>ungdA (k:=78) rfl (pickAndA rfl rfl rfl)) rfl ?_
      refine S PO (nil ?_);refine cE hE (fun hc50 hE=>?_) (fun hc50 hE=>?_)
      ·refine AWp.draw rfl ?_;refine Sd Mv (Sd Fv (Sd Ld (Sd Mv (Sd Mv (Sd Ld ?_)))));obtain⟨x51,gx51,hE⟩:=bO hE;refine DOps.s0 (callR rfl rfl (Z12_walk (gT:=gT) (oT:=oT) gx51 _ hpG (by assumption))) rfl ?_;refine Sd Ld ?_;obtain⟨x52,gx52,hE⟩:=bO hE;refine DOps.s0 (callR rfl rfl (Z12_walk (gT:=gT) (oT:=oT) gx52 _ hpG (by assumption))) rfl ?_;obtain⟨x53,gx53,hE⟩:=bO hE;refine DOps.sH (callH rfl rfl (Z13_walk gx53 _ hpG hpG)) rfl ?_
       refine DOps.Dh ((H.set c0_1 (some (.tok 6 x53.Fout.l.length))).set c0 (some (.cells (Z0.cg (some c0_1) x53)))) ?_;refine DOps.nil (by decide +kernel) ?_;exact hK32 _ x53 Weak.toA hE
      refine AWp.skip ?_;exact hK32 _ y47_c0 Weak.toA hE
     rintro y33_c0 hE;try dsimp only at hE
     unfold Z18_j32 at hE;refine region ?_;refine SI ?_;refine S Mv (nil ?_);exact hK26 _ (n26,(s24_27+1),y33_c0) Weak.toA hE (Nat.lt_succ_self _)
    refine AWp.exit ?_;exact hK2 _ y28_c0 Weak.toA hE
 rintro y3_c0 hE;try dsimp only at hE
 unfold Z18_j2 at hE;refine seqR (S Mv ?_);refine sLen (f:=Z5.c) (s:=a2) (TK rfl) rfl rfl rfl rfl fun hL5=>?_;refine S Mv (nil ?_);refine block ?_;refine loopH (TA 0 (TA 1 (TA 4 (TA 8 (TA 98 (TA 99 KeepsT.nil)))))) (fun(z:Nat×Nat×Z0)=>[(100,.a (.d (.int .i64 ((z.2.1:Nat):Int))))]) (fun z=>((H.set c0_1 (some (.tok 6 z.2.2.Fout.l.length))).set c0 (some (.cells (Z0.cg (some c0_1) z.2.2))))) (fun z=>z.1) (fun z=>Z18_l6 a1 a2 a3 a4 z.1 z.2.1 z.2.2=some r) ((a2.l.length+1),0,y3_c0) hE Weak.toA ?_
 rintro ⟨n6,s100_7,y8_c0⟩ hE K6 hK6;try dsimp only at hE
 cases n6 with
 | zero=>cases hE
 | succ n6 =>
   rw [Z18_l6] at hE;refine seqR (S BI (nil ?_));refine seqK fun K10 hK10=>?_;refine cE hE (fun hc11 hE=>?_) (fun hc11 hE=>?_)
   ·try dsimp only at hc11
    have hf11:=of_decide_eq_true hc11;refine sk hK10 ?_;clear hK10 K10;refine seqJH (TA 0 (TA 1 (TA 4 (TA 8 (TA 98 (TA 99 (TA 100 KeepsT.nil))))))) (fun(z:Z0)=>[]) (fun z=>((H.set c0_1 (some (.tok 6 z.Fout.l.length))).set c0 (some (.cells (Z0.cg (some c0_1) z))))) (fun z=>Z18_j12 s100_7 ((Z18_l6 a1 a2 a3 a4 n6)) z=some r) ?_ ?_
    ·intro K12 hK12;refine block ?_;refine seqR ?_;obtain⟨x15,gx15,hE⟩:=bO hE;refine S (ix Z5.c s100_7 gx15) (S Ld ?_);refine Sl ?_;refine Sf ?_;refine nil ?_;refine freezeA 17 _ rfl (KA 0 (KA 1 (KA 4 (KA 8 (KA 98 (KA 99 (KA 100 Keeps.nil))))))) ?_;refine seqR (S Mv (S Fv (S Ld ?_)));obtain⟨x17,gx17,hE⟩:=bO hE;refine Sc rfl rfl (Z120_walk gx17) ?_;refine S Mv (S EX (S EX ?_));refine Sl ?_;refine Sf ?_
     refine S As (nil ?_);refine freezeA 18 _ rfl (KA 0 (KA 1 (KA 4 (KA 8 (KA 17 (KA 19 (KA 98 (KA 99 (KA 100 Keeps.nil))))))))) ?_;refine seqR (S Mv (S NB (nil ?_)));refine cE hE (fun hc19 hE=>?_) (fun hc19 hE=>?_)
     ·refine seqR (S Mv (S Fv (S Ld ?_)));obtain⟨x21,gx21,hE⟩:=bO hE;refine s0 (callP rfl rfl (hf4 _ _ gx21)) rfl ?_;refine S Mv (S EX (S EX (S As (S As (nil ?_)))));refine AWp.draw rfl ?_;refine Sd Mv (Sd Fv (Sd Ld (Sd Mv (Sd Mv (Sd Ld ?_)))));obtain⟨x22,gx22,hE⟩:=bO hE;refine DOps.s0 (callR rfl rfl (Z19_walk (gT:=gT) (oT:=oT) gx22 _ hpG (by assumption))) rfl ?_;obtain⟨x23,gx23,hE⟩:=bO hE;refine DOps.sH (callH rfl rfl (Z13_walk gx23 _ hpG hpG)) rfl ?_
      refine DOps.Dh ((H.set c0_1 (some (.tok 6 x23.Fout.l.length))).set c0 (some (.cells (Z0.cg (some c0_1) x23)))) ?_;refine DOps.nil (by decide +kernel) ?_;exact hK12 _ x23 Weak.toA hE
     refine AWp.skip ?_;exact hK12 _ y8_c0 Weak.toA hE
    rintro y13_c0 hE;try dsimp only at hE
    unfold Z18_j12 at hE;refine region ?_;refine SI ?_;refine S Mv (nil ?_);exact hK6 _ (n6,(s100_7+1),y13_c0) Weak.toA hE (Nat.lt_succ_self _)
   refine AWp.exit ?_;repeat (first|refine xBlock_normal ?_|refine xThen_exit ?_|refine xBlock_exit ?_)
   obtain rfl:=Option.some.inj hE;refine retQ.normalF ((H.set c0_1 (some (.tok 6 y8_c0.Fout.l.length))).set c0 (some (.cells (Z0.cg (some c0_1) y8_c0)))) (xs:=[]) rfl ⟨rfl,rfl⟩ ?_;exact(fun _ _ h=>h)
end
def Z17 (a0:Bs) (a1:Z4):Option (Bs×Bs):=some (a1.FName,a0)
theorem Z17_walk {a0:Bs}{a1:Z4}{r:Bs×Bs}(hE:Z17 a0 a1=some r) (H:Heap) :ACalls Tryz.prog 142 [.d (.str a0),.d (.view (Z4.c a1))] H fun v h'=>v=.tup [.d (.str r.1),.d (.str r.2)]/\h'=H:=by
 unfold Z17 at hE;refine ACalls.oW 8 [.tmp 3,.tmp 4] Tryz.call142 Tryz.func142 ?_;refine seqR (S As (S As (nil ?_)));refine seqR (S Fv (S Ld (S Mv (S As (S As (nil ?_))))));exact rt hE
end Go.Proofs

namespace Go.Proofs
open Go Go.Ab
open AOps Cert AWp Keeps KeepsT
variable {lou:Lou}
section
variable [IsLoud lou]
def Z16_j12 (s65_7:Nat) (k_next_6:Nat->Z0->Option Z0) (y13_c0:Z0):Option Z0:=k_next_6 (s65_7+1) y13_c0
def Z16_l6 (a1:TDef) (a2:TDef) :Nat->Nat->Z0->Option Z0
 | 0,_,_=>none
 | n6+1,s65_7,y8_c0=>bif (decide (((s65_7:Nat):Int)<((a2.FFields.l.length:Nat):Int))) then((a2.FFields.l[s65_7]?).bind fun x15=>(Z118 a1 x15.FName).bind fun x17=>bif (!x17.2) then((Z159 x15.FType).bind fun x20=>(Z13 y8_c0 (5:Int) x15.FName ([]:Bs) ([]:Bs) x20).bind fun x21=>Z16_j12 s65_7 ((Z16_l6 a1 a2 n6)) x21) else(Z16_j12 s65_7 ((Z16_l6 a1 a2 n6)) y8_c0)) else(some y8_c0)
def Z16_j2 (a1:TDef) (a2:TDef)  (y3_c0:Z0):Option Z0:=Z16_l6 a1 a2 (a2.FFields.l.length+1) 0 y3_c0
def Z16_j30 (s17_25:Nat) (k_next_24:Nat->Z0->Option Z0) (y31_c0:Z0):Option Z0:=k_next_24 (s17_25+1) y31_c0
def Z16_j42 (s17_25:Nat) (x33:Z4) (x35:(Z4×Bool)) (k_next_24:Nat->Z0->Option Z0) (y43_c0:Z0):Option Z0:=(Z18 y43_c0 x33.FArgs x35.1.FArgs (Z1.mk (7:Int) (8:Int) (9:Int) (10:Int)) (fun y0=>Z17 y0 x33)).bind fun x44=>Z16_j30 s17_25 k_next_24 x44
def Z16_l24 (a1:TDef) (a2:TDef) :Nat->Nat->Z0->Option Z0
 | 0,_,_=>none
 | n24+1,s17_25,y26_c0=>bif (decide (((s17_25:Nat):Int)<((a1.FFields.l.length:Nat):Int))) then((a1.FFields.l[s17_25]?).bind fun x33=>(Z118 a2 x33.FName).bind fun x35=>bif (!x35.2) then((Z159 x33.FType).bind fun x40=>(Z13 y26_c0 (4:Int) x33.FName ([]:Bs) x40 ([]:Bs)).bind fun x41=>Z16_j30 s17_25 ((Z16_l24 a1 a2 n24)) x41) else((Z160 x33.FType x35.1.FType).bind fun x46=>bif (!x46) then((Z159 x33.FType).bind fun x48=>(Z159 x35.1.FType).bind fun x49=>(Z13 y26_c0 (6:Int) x33.FName ([]:Bs) x48 x49).bind fun x50=>Z16_j42 s17_25 x33 x35 ((Z16_l24 a1 a2 n24)) x50) else(Z16_j42 s17_25 x33 x35 ((Z16_l24 a1 a2 n24)) y26_c0))) else(Z16_j2 a1 a2  y26_c0)
def Z16 (a0:Z0) (a1:TDef) (a2:TDef):Option Z0:=Z16_l24 a1 a2 (a1.FFields.l.length+1) 0 a0
theorem Z16_walk {a0:Z0}{a1 a2:TDef}{oT:Ab.Obj}{c0 c0_1 gT:Nat}{r:Z0}(hE:Z16 a0 a1 a2=some r) (H:Heap) (hc0:H c0=some (.cells (Z0.cg (some c0_1) a0))) (ht0_1:H c0_1=some (.tok 6 a0.Fout.l.length)) (hgT:H gT=some oT) (hoT:IsTab Tryz.prog oT):ACalls Tryz.prog 71 [.d (.ptr c0 0),.agg (TDef.c a1),.agg (TDef.c a2)] H fun v h'=>v=.tup []/\h'=((H.set c0_1 (some (.tok 6 r.Fout.l.length))).set c0 (some (.cells (Z0.cg (some c0_1) r)))):=by
 unfold Z16 at hE;refine ACalls.oW 86 [] Tryz.call71 Tryz.func71 ?_;have ne_c0_c0_1:c0≠c0_1:=fun e_=>by subst e_; simp_all
 have ne_gT_c0_1:gT≠c0_1:=fun e_=>by subst e_; obtain⟨_,_,_,e2_,_⟩:=hoT; simp_all
 have ne_gT_c0:gT≠c0:=fun e_=>by subst e_; obtain⟨_,_,_,e2_,_⟩:=hoT; simp_all
 refine AWp.heqA (h':=((H.set c0_1 (some (.tok 6 a0.Fout.l.length))).set c0 (some (.cells (Z0.cg (some c0_1) a0))))) (by funext n_; simp only [Heap.set]; (repeat' split)<;>simp_all) ?_;refine seqR (S BX (S BX (nil ?_)));refine seqJH (TA 0 (TA 4 (TA 5 KeepsT.nil))) (fun(z:Z0)=>[]) (fun z=>((H.set c0_1 (some (.tok 6 z.Fout.l.length))).set c0 (some (.cells (Z0.cg (some c0_1) z))))) (fun z=>Z16_j2 a1 a2 z=some r) ?_ ?_
 ·intro K2 hK2;refine seqR (S Fv (S Ld ?_));refine sLen (f:=Z4.c) (s:=a1.FFields) (TK rfl) rfl rfl rfl rfl fun hL23=>?_;refine S Mv (nil ?_);refine block ?_;refine loopH (TA 0 (TA 4 (TA 5 (TA 15 (TA 16 KeepsT.nil))))) (fun(z:Nat×Nat×Z0)=>[(17,.a (.d (.int .i64 ((z.2.1:Nat):Int))))]) (fun z=>((H.set c0_1 (some (.tok 6 z.2.2.Fout.l.length))).set c0 (some (.cells (Z0.cg (some c0_1) z.2.2))))) (fun z=>z.1) (fun z=>Z16_l24 a1 a2 z.1 z.2.1 z.2.2=some r) ((a1.FFields.l.length+1),0,a0) hE Weak.toA ?_
  rintro ⟨n24,s17_25,y26_c0⟩ hE K24 hK24;try dsimp only at hE
  cases n24 with
  | zero=>cases hE
  | succ n24 =>
    rw [Z16_l24] at hE;refine seqR (S BI (nil ?_));refine seqK fun K28 hK28=>?_;refine cE hE (fun hc29 hE=>?_) (fun hc29 hE=>?_)
    ·try dsimp only at hc29
     have hf29:=of_decide_eq_true hc29;refine sk hK28 ?_;clear hK28 K28;refine seqJH (TA 0 (TA 4 (TA 5 (TA 15 (TA 16 (TA 17 KeepsT.nil)))))) (fun(z:Z0)=>[]) (fun z=>((H.set c0_1 (some (.tok 6 z.Fout.l.length))).set c0 (some (.cells (Z0.cg (some c0_1) z))))) (fun z=>Z16_j30 s17_25 ((Z16_l24 a1 a2 n24)) z=some r) ?_ ?_
     ·intro K30 hK30;refine block ?_;refine seqR ?_;obtain⟨x33,gx33,hE⟩:=bO hE;refine S (ix Z4.c s17_25 gx33) (S Ld ?_);refine Sl ?_;refine Sf ?_;refine nil ?_;refine freezeA 7 _ rfl (KA 0 (KA 4 (KA 5 (KA 15 (KA 16 (KA 17 Keeps.nil)))))) ?_;refine seqR (S Ld (S Fv (S Ld ?_)));obtain⟨x35,gx35,hE⟩:=bO hE;refine Sc rfl rfl (Z118_walk gx35) ?_;refine S Mv (S EX (S EX ?_));refine Sl ?_;refine Sf ?_;refine S As (nil ?_)
      refine freezeA 8 _ rfl (KA 0 (KA 4 (KA 5 (KA 7 (KA 9 (KA 15 (KA 16 (KA 17 Keeps.nil)))))))) ?_;refine seqK fun K36 hK36=>?_;refine seqR (S Mv (S NB (nil ?_)));refine cE hE (fun hc38 hE=>?_) (fun hc38 hE=>?_)
      ·refine AWp.seqD (Sd Mv (Sd Fv (Sd Ld (Sd Fv (Sd Ld ?_)))));obtain⟨x40,gx40,hE⟩:=bO hE;refine Scd rfl rfl (Z159_walk gx40) ?_;obtain⟨x41,gx41,hE⟩:=bO hE;refine DOps.sH (callH rfl rfl (Z13_walk gx41 _ hpG hpG)) rfl ?_;refine DOps.Dh ((H.set c0_1 (some (.tok 6 x41.Fout.l.length))).set c0 (some (.cells (Z0.cg (some c0_1) x41)))) ?_;refine DOps.nil (by decide +kernel) ?_;refine AWp.exit ?_;exact hK30 _ x41 Weak.toA hE
      refine sk hK36 ?_;clear hK36 K36;refine seqJH (TA 0 (TA 4 (TA 5 (TA 7 (TA 8 (TA 15 (TA 16 (TA 17 KeepsT.nil)))))))) (fun(z:Z0)=>[]) (fun z=>((H.set c0_1 (some (.tok 6 z.Fout.l.length))).set c0 (some (.cells (Z0.cg (some c0_1) z))))) (fun z=>Z16_j42 s17_25 x33 x35 ((Z16_l24 a1 a2 n24)) z=some r) ?_ ?_
      ·intro K42 hK42;refine seqR (S Fv (S Ld (S Fv (S Ld ?_))));obtain⟨x46,gx46,hE⟩:=bO hE;refine Sc rfl rfl (Z160_walk gx46) ?_;refine S NB (nil ?_);refine cE hE (fun hc47 hE=>?_) (fun hc47 hE=>?_)
       ·refine AWp.draw rfl ?_;refine Sd Mv (Sd Fv (Sd Ld (Sd Fv (Sd Ld ?_))));obtain⟨x48,gx48,hE⟩:=bO hE;refine Scd rfl rfl (Z159_walk gx48) ?_;refine Sd Fv (Sd Ld ?_);obtain⟨x49,gx49,hE⟩:=bO hE;refine Scd rfl rfl (Z159_walk gx49) ?_;obtain⟨x50,gx50,hE⟩:=bO hE;refine DOps.sH (callH rfl rfl (Z13_walk gx50 _ hpG hpG)) rfl ?_;refine DOps.Dh ((H.set c0_1 (some (.tok 6 x50.Fout.l.length))).set c0 (some (.cells (Z0.cg (some c0_1) x50)))) ?_
        refine DOps.nil (by decide +kernel) ?_;exact hK42 _ x50 Weak.toA hE
       refine AWp.skip ?_;exact hK42 _ y26_c0 Weak.toA hE
      rintro y43_c0 hE;try dsimp only at hE
      unfold Z16_j42 at hE;refine region ?_;refine S Mv (S Fv (S Ld (S Fv (S Ld (S BU ?_)))));refine s0 (makeFunc rfl) rfl ?_;obtain⟨x44,gx44,hE⟩:=bO hE;refine sH (callH rfl rfl (Z18_walk (gT:=gT) (oT:=oT) gx44 _ hpG hpG (fun _ _ hx=>Z17_walk hx) hpG (by assumption))) rfl ?_;refine hq ((H.set c0_1 (some (.tok 6 x44.Fout.l.length))).set c0 (some (.cells (Z0.cg (some c0_1) x44)))) ?_;refine nil ?_;exact hK30 _ x44 Weak.toA hE
     rintro y31_c0 hE;try dsimp only at hE
     unfold Z16_j30 at hE;refine region ?_;refine SI ?_;refine S Mv (nil ?_);exact hK24 _ (n24,(s17_25+1),y31_c0) Weak.toA hE (Nat.lt_succ_self _)
    refine AWp.exit ?_;exact hK2 _ y26_c0 Weak.toA hE
 rintro y3_c0 hE;try dsimp only at hE
 unfold Z16_j2 at hE;refine seqR (S Fv (S Ld ?_));refine sLen (f:=Z4.c) (s:=a2.FFields) (TK rfl) rfl rfl rfl rfl fun hL5=>?_;refine S Mv (nil ?_);refine block ?_;refine loopH (TA 0 (TA 4 (TA 63 (TA 64 KeepsT.nil)))) (fun(z:Nat×Nat×Z0)=>[(65,.a (.d (.int .i64 ((z.2.1:Nat):Int))))]) (fun z=>((H.set c0_1 (some (.tok 6 z.2.2.Fout.l.length))).set c0 (some (.cells (Z0.cg (some c0_1) z.2.2))))) (fun z=>z.1) (fun z=>Z16_l6 a1 a2 z.1 z.2.1 z.2.2=some r) ((a2.FFields.l.length+1),0,y3_c0) hE Weak.toA ?_
 rintro ⟨n6,s65_7,y8_c0⟩ hE K6 hK6;try dsimp only at hE
 cases n6 with
 | zero=>cases hE
 | succ n6 =>
   rw [Z16_l6] at hE;refine seqR (S BI (nil ?_));refine seqK fun K10 hK10=>?_;refine cE hE (fun hc11 hE=>?_) (fun hc11 hE=>?_)
   ·try dsimp only at hc11
    have hf11:=of_decide_eq_true hc11;refine sk hK10 ?_;clear hK10 K10;refine seqJH (TA 0 (TA 4 (TA 63 (TA 64 (TA 65 KeepsT.nil))))) (fun(z:Z0)=>[]) (fun z=>((H.set c0_1 (some (.tok 6 z.Fout.l.length))).set c0 (some (.cells (Z0.cg (some c0_1) z))))) (fun z=>Z16_j12 s65_7 ((Z16_l6 a1 a2 n6)) z=some r) ?_ ?_
    ·intro K12 hK12;refine block ?_;refine seqR ?_;obtain⟨x15,gx15,hE⟩:=bO hE;refine S (ix Z4.c s65_7 gx15) (S Ld ?_);refine Sl ?_;refine Sf ?_;refine nil ?_;refine freezeA 11 _ rfl (KA 0 (KA 4 (KA 63 (KA 64 (KA 65 Keeps.nil))))) ?_;refine seqR (S Ld (S Fv (S Ld ?_)));obtain⟨x17,gx17,hE⟩:=bO hE;refine Sc rfl rfl (Z118_walk gx17) ?_;refine S Mv (S EX (S EX ?_));refine Sl ?_;refine Sf ?_;refine S As (nil ?_)
     refine freezeA 12 _ rfl (KA 0 (KA 4 (KA 11 (KA 13 (KA 63 (KA 64 (KA 65 Keeps.nil))))))) ?_;refine seqR (S Mv (S NB (nil ?_)));refine cE hE (fun hc19 hE=>?_) (fun hc19 hE=>?_)
     ·refine AWp.draw rfl ?_;refine Sd Mv (Sd Fv (Sd Ld (Sd Fv (Sd Ld ?_))));obtain⟨x20,gx20,hE⟩:=bO hE;refine Scd rfl rfl (Z159_walk gx20) ?_;obtain⟨x21,gx21,hE⟩:=bO hE;refine DOps.sH (callH rfl rfl (Z13_walk gx21 _ hpG hpG)) rfl ?_;refine DOps.Dh ((H.set c0_1 (some (.tok 6 x21.Fout.l.length))).set c0 (some (.cells (Z0.cg (some c0_1) x21)))) ?_;refine DOps.nil (by decide +kernel) ?_;exact hK12 _ x21 Weak.toA hE
     refine AWp.skip ?_;exact hK12 _ y8_c0 Weak.toA hE
    rintro y13_c0 hE;try dsimp only at hE
    unfold Z16_j12 at hE;refine region ?_;refine SI ?_;refine S Mv (nil ?_);exact hK6 _ (n6,(s65_7+1),y13_c0) Weak.toA hE (Nat.lt_succ_self _)
   refine AWp.exit ?_;repeat (first|refine xBlock_normal ?_|refine xThen_exit ?_|refine xBlock_exit ?_)
   obtain rfl:=Option.some.inj hE;refine retQ.normalF ((H.set c0_1 (some (.tok 6 y8_c0.Fout.l.length))).set c0 (some (.cells (Z0.cg (some c0_1) y8_c0)))) (xs:=[]) rfl ⟨rfl,rfl⟩ ?_;exact(fun _ _ h=>h)
end
def Z23_j3  (s3_4:(Sl Bs)):Option (Sl Bs):=some s3_4
def Z23_l8 (a0:(Sl Z6)) :Nat->(Sl Bs)->Nat->Option (Sl Bs)
 | 0,_,_=>none
 | n8+1,s3_9,s8_10=>bif (decide (((s8_10:Nat):Int)<((a0.l.length:Nat):Int))) then((a0.l[s8_10]?).bind fun x16=>(appC 16 s3_9 (⟨false,[x16.FName]⟩:Sl Bs)).bind fun x17=>(Z23_l8 a0 n8) x17 (s8_10+1)) else(Z23_j3   s3_9)
def Z23 (a0:(Sl Z6)):Option (Sl Bs):=Z23_l8 a0 (a0.l.length+1) (Sl.nil:Sl Bs) 0
theorem Z23_walk {a0:Sl Z6}{w0:Option Nat}{r:Sl Bs}(hE:Z23 a0=some r) (H:Heap) :ACalls Tryz.prog 72 [.d (Sl.d 2 Z6.c w0 a0)] H fun v h'=>v=.a (.d (Sl.d 1 strE none r))/\h'=H:=by
 unfold Z23 at hE;refine ACalls.oW 19 [.tmp 2] Tryz.call72 Tryz.func72 ?_;refine AWp.tok 1 fun tk1 htk1=>?_;refine seqR ?_;refine s0 (assignNil (k':=1) rfl) rfl ?_;refine nil ?_;refine seqR (S As (nil ?_));refine AWp.nilTok 3 1 tk1 rfl hpG ?_;refine seqJH KeepsT.nil (fun(z:(Sl Bs))=>[(3,.a (.d (Sl.d 1 strE (some tk1) z)))]) (fun z=>(H.set tk1 (some (.tok 1 z.l.length)))) (fun z=>Z23_j3 z=some r) ?_ ?_
 ·intro K3 hK3;refine seqR (S Mv ?_);refine sLen (f:=Z6.c) (s:=a0) (TK rfl) rfl rfl rfl rfl fun hL7=>?_;refine S Mv (nil ?_);refine block ?_;refine loopH (TA 6 (TA 7 KeepsT.nil)) (fun(z:Nat×(Sl Bs)×Nat)=>[(3,.a (.d (Sl.d 1 strE (some tk1) z.2.1))),(8,.a (.d (.int .i64 ((z.2.2:Nat):Int))))]) (fun z=>(H.set tk1 (some (.tok 1 z.2.1.l.length)))) (fun z=>z.1) (fun z=>Z23_l8 a0 z.1 z.2.1 z.2.2=some r) ((a0.l.length+1),(Sl.nil:Sl Bs),0) hE Weak.toA ?_
  rintro ⟨n8,s3_9,s8_10⟩ hE K8 hK8;try dsimp only at hE
  cases n8 with
  | zero=>cases hE
  | succ n8 =>
    rw [Z23_l8] at hE;refine seqR (S BI (nil ?_));refine seqK fun K12 hK12=>?_;refine cE hE (fun hc13 hE=>?_) (fun hc13 hE=>?_)
    ·try dsimp only at hc13
     have hf13:=of_decide_eq_true hc13;refine sk hK12 ?_;clear hK12 K12;refine seqK fun K14 hK14=>?_;refine block ?_;refine seqR ?_;obtain⟨x16,gx16,hE⟩:=bO hE;refine S (ix Z6.c s8_10 gx16) (S Ld ?_);refine Sl ?_;refine Sf ?_;refine nil ?_;refine freezeA 5 _ rfl (KA 3 (KA 6 (KA 7 (KA 8 Keeps.nil)))) ?_;refine region ?_;refine S Mv (S Fv (S Ld (S BV ?_)));obtain⟨x17,gx17,hE⟩:=bO hE;refine SH (am strE (TK rfl) rfl (TK rfl) (TK rfl) gx17) ?_
     refine hq (H.set tk1 (some (.tok 1 x17.l.length))) ?_;refine S As (nil ?_);refine hK14 _ ?_;clear hK14 K14;refine region ?_;refine SI ?_;refine S Mv (nil ?_);exact hK8 _ (n8,x17,(s8_10+1)) Weak.toA hE (Nat.lt_succ_self _)
    refine AWp.exit ?_;exact hK3 _ s3_9 Weak.toA hE
 rintro s3_4 hE;try dsimp only at hE
 unfold Z23_j3 at hE;refine seqR (S Mv (S As (nil ?_)));refine AWp.dropTok 2 rfl ?_;refine AWp.ret ?_;repeat (first|refine xBlock_ret ?_|refine xThen_ret ?_)
 obtain rfl:=Option.some.inj hE;refine retQ.retF H rfl ⟨rfl,rfl⟩ ?_
 first|exact Heap.sub_set htk1|(simp only [Heap.set_set]; exact Heap.sub_set htk1)
def Tryz.lay143_ren:Go.Shelf.Ren:=⟨fun|10=>143|6=>208|n=>n,fun|22=>55|23=>9|25=>91|3=>3|4=>4|0=>0|n=>n,fun|n=>n⟩
theorem Tryz.lay143:Go.Proofs.SlLaysH.n10 Tryz.prog Tryz.lay143_ren:={
 mixed:=by kernel_rfl
 f6:=⟨Tryz.f208.name,by decide,Tryz.func208.trans (congrArg some (by kernel_rfl))⟩
 f10:=⟨Tryz.f143.name,by decide,Tryz.func143.trans (congrArg some (by kernel_rfl))⟩
 t0:=Tryz.underlying0
 a0:=Tryz.isAgg0
 z0:=Tryz.sizeOf0
 v0:=Tryz.zeroValue0
 t3:=Tryz.underlying3
 a3:=Tryz.isAgg3
 z3:=Tryz.sizeOf3
 v3:=Tryz.zeroValue3
 t4:=Tryz.underlying4
 a4:=Tryz.isAgg4
 z4:=Tryz.sizeOf4
 v4:=Tryz.zeroValue4
 t22:=Tryz.underlying55
 a22:=Tryz.isAgg55
 z22:=Tryz.sizeOf55
 v22:=Tryz.zeroValue55
 a23:=Tryz.isAgg9
 z23:=Tryz.sizeOf9
 t25:=Tryz.underlying91
 a25:=Tryz.isAgg91
 z25:=Tryz.sizeOf91
 v25:=Tryz.zeroValue91 }
theorem Z126_walk {s:Sl Bs}{f:Bs->Option Bool}{g:Nat}{cs:List D}(ht:∀x,∃z,f x=some z) (eg:∀args w,(callFunc g args).run Tryz.prog w=.ok (.enter g args) w)
  (hg:∀x z j w cvs,f x=some z->All2 (DRel j w) cs cvs->Calls Tryz.prog g (#[.string ⟨x.toArray⟩]++cvs.toArray) w fun e w'=>e=.returned (.bool z)/\∃q,w'=w.drewN q)
  {H:Heap}{id m:Nat}{nl:Bool}(hH:H id=some (.arr 1 (s.l.map strE))) (hm:m=s.l.length) (hn:nl=s.nl):ACalls Tryz.prog 143 [.d (.arr 1 id nl m),.d (.func g cs)] H fun r h'=>r=.a (.d (Sl.d 1 strE none (delL f s)))/\h'=H.set id none :=
 delS_calls Tryz.lay143 Tryz.zeroValue9 ht eg hg hH hm hn rfl
def Z123 (a0:(Sl Bs)):Option (Sl Bs):=bif a0.nl then(some (Sl.nil:Sl Bs)) else((appC 16 (⟨false,[]⟩:Sl Bs) a0).bind fun x7=>some x7)
theorem Z123_arr {a0:Sl Bs}{w0:Option Nat}{ar0:Nat}{r:Sl Bs}(hE:Z123 a0=some r) (H:Heap) (har0:H ar0=some (.arr 1 [])) :ACalls Tryz.prog 144 [.d (Sl.d 1 strE w0 a0)] H fun v h'=>v=.a (.d (.arr 1 ar0 r.nl r.l.length))/\h'=H.set ar0 (some (.arr 1 (r.l.map strE))):=by
 unfold Z123 at hE;refine ACalls.oW 8 [.tmp 2] Tryz.call144 Tryz.func144 ?_;refine AWp.heqA (h':=(H.set ar0 (some (.arr 1 [])))) (by funext n_; simp only [Heap.set]; (repeat' split)<;>simp_all) ?_;refine seqR ?_;refine s0 (assignNil (k':=1) rfl) rfl ?_;refine AOps.nilR 2 1 ar0 rfl hpG ?_;refine nil ?_;refine seqK fun K2 hK2=>?_;refine seqR (S Mv ?_);refine s0 (eqNil (TK rfl) rfl rfl) rfl ?_;refine nil ?_
 refine cE hE (fun hc4 hE=>?_) (fun hc4 hE=>?_)
 ·refine seqR ?_;refine s0 (assignNil (k':=1) rfl) rfl ?_;refine AOps.nilR 2 1 ar0 rfl hpG ?_;refine nil ?_;exact rt hE
 refine sk hK2 ?_;clear hK2 K2;refine seqR ?_;refine s0 (buildSliceF (TK rfl) rfl (TK rfl) rfl rfl rfl rfl rfl rfl) rfl ?_;refine AOps.fullR 5 1 ar0 rfl hpG ?_;refine S Mv ?_;obtain⟨x7,gx7,hE⟩:=bO hE;refine sH (appR (f:=strE) (s:=(⟨false,[]⟩:Sl Bs)) (TK rfl) rfl (TK rfl) (TK rfl) ⟨_,rfl⟩ rfl rfl rfl rfl rfl rfl hpG (by first|rfl|simp [Sl.setL,Sl.nil,sortL_len]) rfl gx7) rfl ?_;refine hq (H.set ar0 (some (.arr 1 (x7.l.map strE)))) ?_
 refine S As (nil ?_);exact rt hE
def Z128_j2  :Option Int:=some (-1:Int)
def Z128_l6 (a0:(Sl Bs)) (a1:Bs) :Nat->Nat->Option Int
 | 0,_=>none
 | n6+1,s8_7=>bif (decide (((s8_7:Nat):Int)<((a0.l.length:Nat):Int))) then((a0.l[s8_7]?).bind fun x14=>bif ((a1==x14)) then(some ((s8_7:Nat):Int)) else((Z128_l6 a0 a1 n6) (s8_7+1))) else(Z128_j2   )
def Z128 (a0:(Sl Bs)) (a1:Bs):Option Int:=Z128_l6 a0 a1 (a0.l.length+1) 0
def Z124 (a0:(Sl Bs)) (a1:Bs):Option Bool:=(Z128 a0 a1).bind fun x3=>some (decide ((0:Int)<=x3))
def Z22 (a0:Bs) (a1:(Sl Bs)):Option Bool:=(Z124 a1 a0).bind fun x3=>some x3
def Tryz.lay146_ren:Go.Shelf.Ren:=⟨fun|31=>146|29=>209|n=>n,fun|22=>55|23=>9|4=>4|3=>3|0=>0|n=>n,fun|n=>n⟩
theorem Tryz.lay146:Go.Proofs.SlLaysE.n31 Tryz.prog Tryz.lay146_ren:={
 mixed:=by kernel_rfl
 f29:=⟨Tryz.f209.name,by decide,Tryz.func209.trans (congrArg some (by kernel_rfl))⟩
 f31:=⟨Tryz.f146.name,by decide,Tryz.func146.trans (congrArg some (by kernel_rfl))⟩
 t0:=Tryz.underlying0
 a0:=Tryz.isAgg0
 z0:=Tryz.sizeOf0
 v0:=Tryz.zeroValue0
 t3:=Tryz.underlying3
 a3:=Tryz.isAgg3
 z3:=Tryz.sizeOf3
 v3:=Tryz.zeroValue3
 t4:=Tryz.underlying4
 a4:=Tryz.isAgg4
 z4:=Tryz.sizeOf4
 v4:=Tryz.zeroValue4
 t22:=Tryz.underlying55
 a22:=Tryz.isAgg55
 z22:=Tryz.sizeOf55
 v22:=Tryz.zeroValue55
 a23:=Tryz.isAgg9
 z23:=Tryz.sizeOf9 }
theorem Z22_idx (a1:Sl Bs) (x:Bs):∀(n k:Nat),k<=a1.l.length->a1.l.length<k+n->∃i:Int,Z128_l6 a1 x n k=some i/\decide ((0:Int)<=i)=(a1.l.drop k).contains x
 | 0,k,h1,h2=>by omega
 | n+1,k,h1,h2=>by
  rw [Z128_l6];by_cases hk:k<a1.l.length
  ·rw [decide_eq_true (by omega:((k:Nat):Int)<((a1.l.length:Nat):Int)),cond_true,List.getElem?_eq_getElem hk,Option.bind_some,List.drop_eq_getElem_cons hk,List.contains_cons];cases h:(x==a1.l[k])
   ·obtain⟨i,e,hi⟩:=Z22_idx a1 x n (k+1) (by omega) (by omega);exact⟨i,by rw [cond_false,e],by rw [hi,Bool.false_or]⟩
   exact⟨_,rfl,by simp⟩
  rw [decide_eq_false (by omega:¬((k:Nat):Int)<((a1.l.length:Nat):Int)),cond_false];unfold Z128_j2;exact⟨-1,rfl,by rw [List.drop_of_length_le (by omega)]; rfl⟩
theorem Z22_is (x:Bs) (a1:Sl Bs):Z22 x a1=some (a1.l.contains x):=by
 obtain⟨i,e,h⟩:=Z22_idx a1 x (a1.l.length+1) 0 (Nat.zero_le _) (by omega);unfold Z22 Z124 Z128;rw [e,Option.bind_some,Option.bind_some,h,List.drop_zero]
theorem Z22_tot (a1:Sl Bs) (x:Bs):∃z,Z22 x a1=some z:=⟨_,Z22_is x a1⟩
theorem Z22_enter (args:Array Value) (w:World):(callFunc 145 args).run Tryz.prog w=.ok (.enter 145 args) w:=Tryz.call145 args w
theorem Z22_callsC (a1:Sl Bs) (x:Bs) (z:Bool) (j:J) (w:World) (cvs:List Value) (h:Z22 x a1=some z) (hc:All2 (DRel j w) [.view [Sl.d 1 strE none a1]] cvs) :
  Calls Tryz.prog 145 (#[.string ⟨x.toArray⟩]++cvs.toArray) w fun e w'=>e=.returned (.bool z)/\∃q,w'=w.drewN q:=by
 rw [Z22_is] at h;obtain rfl:=Option.some.inj h;obtain⟨a,cv,rfl,hsp,hcell,hv⟩:=view_strs hc;obtain⟨ab,ao,asp⟩:=a;obtain rfl:asp=none:=hsp;have eC:∀args w,(callFunc 146 args).run Tryz.prog w=.ok (.enter 146 args) w:=fun args w=>Tryz.call146 args w
 go_enter Tryz.func145,Tryz.ntmps145
 go_wp2_with (go_at_fn 146; refine(containsS_calls (ρ:=Tryz.lay146_ren) Tryz.lay146 (EqlAt.stringS _ _) hv x).mono ?_; rintro e w' ⟨rfl,rfl⟩)
 go_ret
 refine⟨?_,0,rfl⟩;show Ending.returned (Value.bool (decide (x∈a1.l)))=Ending.returned (Value.bool (a1.l.contains x))
 congr 2
 rw [Bool.eq_iff_iff]; simp
def Z21 (a0:(Sl Bs)) (a1:(Sl Bs)):Option (Sl Bs):=(Z123 a0).bind fun x3=>(some (delL (fun y0=>Z22 y0 a1) x3)).bind fun x4=>some x4
theorem Z21_walk {a0 a1:Sl Bs}{w0 w1:Option Nat}{r:Sl Bs}(hE:Z21 a0 a1=some r) (H:Heap) :ACalls Tryz.prog 73 [.d (Sl.d 1 strE w0 a0),.d (Sl.d 1 strE w1 a1)] H fun v h'=>v=.a (.d (Sl.d 1 strE none r))/\h'=H:=by
 unfold Z21 at hE;refine ACalls.oW 9 [.tmp 4] Tryz.call73 Tryz.func73 ?_;refine AWp.arrO 1 fun ar1 har1=>?_;refine seqR ?_;refine AOps.dropTok 1 rfl ?_;refine S BX ?_;refine s0 (assignNil (k':=1) rfl) rfl ?_;refine nil ?_;refine seqR (S Mv ?_);obtain⟨x3,gx3,hE⟩:=bO hE;refine sH (callH rfl rfl (Z123_arr gx3 _ hpG)) rfl ?_;refine hq (H.set ar1 (some (.arr 1 (x3.l.map strE)))) ?_;refine s0 (makeFunc rfl) rfl ?_
 obtain⟨x4,gx4,hE⟩:=bO hE;have ex4:=Option.some.inj gx4;refine sH (callH rfl rfl (Z126_walk (s:=x3) (f:=fun y0=>Z22 y0 a1) (Z22_tot a1) Z22_enter (Z22_callsC a1) hpG (by first|rfl|simp [Sl.setL,Sl.nil,sortL_len]) rfl)) rfl ?_;refine hq H ?_;rw [ex4];refine S As (nil ?_);exact rt hE
def Z15 (a0:Bs):Option (Bs×Bs):=some (a0,([]:Bs))
theorem Z15_walk {a0:Bs}{r:Bs×Bs}(hE:Z15 a0=some r) (H:Heap) :ACalls Tryz.prog 75 [.d (.str a0)] H fun v h'=>v=.tup [.d (.str r.1),.d (.str r.2)]/\h'=H:=by
 unfold Z15 at hE;refine ACalls.oW 5 [.tmp 2,.tmp 3] Tryz.call75 Tryz.func75 ?_;refine seqR (S As (S As (nil ?_)));refine seqR (S Mv (S As (S As (nil ?_))));exact rt hE
end Go.Proofs

namespace Go.Proofs
open Go Go.Ab
open AOps Cert AWp Keeps KeepsT
variable {lou:Lou}
section
variable [IsLoud lou]
def Z14_l18 (x16:(Sl Bs)) :Nat->Nat->Z0->Option Z0
 | 0,_,_=>none
 | n18+1,s77_19,y20_c0=>bif (decide (((s77_19:Nat):Int)<((x16.l.length:Nat):Int))) then((x16.l[s77_19]?).bind fun x26=>(Z13 y20_c0 (18:Int) ([]:Bs) ([]:Bs) ([]:Bs) x26).bind fun x27=>(Z14_l18 x16 n18) (s77_19+1) x27) else(some y20_c0)
def Z14_j13 (a1:TDef) (a2:TDef)  (y14_c0:Z0):Option Z0:=(Z21 a2.FImplements a1.FImplements).bind fun x16=>Z14_l18 x16 (x16.l.length+1) 0 y14_c0
def Z14_l31 (a1:TDef) (a2:TDef) (x29:(Sl Bs)) :Nat->Nat->Z0->Option Z0
 | 0,_,_=>none
 | n31+1,s63_32,y33_c0=>bif (decide (((s63_32:Nat):Int)<((x29.l.length:Nat):Int))) then((x29.l[s63_32]?).bind fun x39=>(Z13 y33_c0 (17:Int) ([]:Bs) ([]:Bs) x39 ([]:Bs)).bind fun x40=>(Z14_l31 a1 a2 x29 n31) (s63_32+1) x40) else(Z14_j13 a1 a2  y33_c0)
def Z14_j9 (a1:TDef) (a2:TDef)  (y10_c0:Z0):Option Z0:=(Z18 y10_c0 a1.FInputs a2.FInputs (Z1.mk (13:Int) (14:Int) (15:Int) (16:Int)) Z15).bind fun x12=>(Z21 a1.FImplements a2.FImplements).bind fun x29=>Z14_l31 a1 a2 x29 (x29.l.length+1) 0 x12
def Z14_l44 (a1:TDef) (a2:TDef) (x42:(Sl Bs)) :Nat->Nat->Z0->Option Z0
 | 0,_,_=>none
 | n44+1,s42_45,y46_c0=>bif (decide (((s42_45:Nat):Int)<((x42.l.length:Nat):Int))) then((x42.l[s42_45]?).bind fun x52=>(Z13 y46_c0 (12:Int) x52 ([]:Bs) ([]:Bs) ([]:Bs)).bind fun x53=>(Z14_l44 a1 a2 x42 n44) (s42_45+1) x53) else(Z14_j9 a1 a2  y46_c0)
def Z14_j7 (a1:TDef) (a2:TDef) (x5:(Sl Bs)) (x6:(Sl Bs))  (y8_c0:Z0):Option Z0:=(Z21 x6 x5).bind fun x42=>Z14_l44 a1 a2 x42 (x42.l.length+1) 0 y8_c0
def Z14_l57 (a1:TDef) (a2:TDef) (x5:(Sl Bs)) (x6:(Sl Bs)) (x55:(Sl Bs)) :Nat->Nat->Z0->Option Z0
 | 0,_,_=>none
 | n57+1,s30_58,y59_c0=>bif (decide (((s30_58:Nat):Int)<((x55.l.length:Nat):Int))) then((x55.l[s30_58]?).bind fun x65=>(Z13 y59_c0 (11:Int) x65 ([]:Bs) ([]:Bs) ([]:Bs)).bind fun x66=>(Z14_l57 a1 a2 x5 x6 x55 n57) (s30_58+1) x66) else(Z14_j7 a1 a2 x5 x6  y59_c0)
def Z14 (a0:Z0) (a1:TDef) (a2:TDef):Option Z0:=(Z16 a0 a1 a2).bind fun x3=>(Z23 a1.FMembers).bind fun x5=>(Z23 a2.FMembers).bind fun x6=>(Z21 x5 x6).bind fun x55=>Z14_l57 a1 a2 x5 x6 x55 (x55.l.length+1) 0 x3
theorem Z14_walk {a0:Z0}{a1 a2:TDef}{oT:Ab.Obj}{c0 c0_1 gT:Nat}{r:Z0}(hE:Z14 a0 a1 a2=some r) (H:Heap) (hc0:H c0=some (.cells (Z0.cg (some c0_1) a0))) (ht0_1:H c0_1=some (.tok 6 a0.Fout.l.length)) (hgT:H gT=some oT) (hoT:IsTab Tryz.prog oT):ACalls Tryz.prog 31 [.d (.ptr c0 0),.agg (TDef.c a1),.agg (TDef.c a2)] H fun v h'=>v=.tup []/\h'=((H.set c0_1 (some (.tok 6 r.Fout.l.length))).set c0 (some (.cells (Z0.cg (some c0_1) r)))):=by
 unfold Z14 at hE;refine ACalls.oW 85 [] Tryz.call31 Tryz.func31 ?_;have ne_c0_c0_1:c0≠c0_1:=fun e_=>by subst e_; simp_all
 have ne_gT_c0_1:gT≠c0_1:=fun e_=>by subst e_; obtain⟨_,_,_,e2_,_⟩:=hoT; simp_all
 have ne_gT_c0:gT≠c0:=fun e_=>by subst e_; obtain⟨_,_,_,e2_,_⟩:=hoT; simp_all
 refine AWp.heqA (h':=((H.set c0_1 (some (.tok 6 a0.Fout.l.length))).set c0 (some (.cells (Z0.cg (some c0_1) a0))))) (by funext n_; simp only [Heap.set]; (repeat' split)<;>simp_all) ?_;refine seqR (S BX (S BX (nil ?_)));refine seqR (S Mv (S Ld (S Ld ?_)));obtain⟨x3,gx3,hE⟩:=bO hE;refine sH (callH rfl rfl (Z16_walk (gT:=gT) (oT:=oT) gx3 _ hpG hpG hpG (by assumption))) rfl ?_;refine hq ((H.set c0_1 (some (.tok 6 x3.Fout.l.length))).set c0 (some (.cells (Z0.cg (some c0_1) x3)))) ?_
 refine nil ?_;refine AWp.seqD (Sd Fv (Sd Ld ?_));obtain⟨x5,gx5,hE⟩:=bO hE;refine Scd rfl rfl (Z23_walk gx5) ?_;refine Sd Fv (Sd Ld ?_);obtain⟨x6,gx6,hE⟩:=bO hE;refine Scd rfl rfl (Z23_walk gx6) ?_;refine Sd As (Sd As ?_);refine DOps.nil (by decide +kernel) ?_;refine seqJH (TA 0 (TA 4 (TA 5 (TA 6 (TA 7 KeepsT.nil))))) (fun(z:Z0)=>[]) (fun z=>((H.set c0_1 (some (.tok 6 z.Fout.l.length))).set c0 (some (.cells (Z0.cg (some c0_1) z))))) (fun z=>Z14_j7 a1 a2 x5 x6 z=some r) ?_ ?_
 ·intro K7 hK7;refine seqR (S Mv (S Mv ?_));obtain⟨x55,gx55,hE⟩:=bO hE;refine Sc rfl rfl (Z21_walk gx55) ?_;refine sLen (f:=strE) (s:=x55) (TK rfl) rfl rfl rfl rfl fun hL56=>?_;refine S Mv (nil ?_);refine block ?_;refine loopH (TA 0 (TA 4 (TA 5 (TA 6 (TA 7 (TA 28 (TA 29 KeepsT.nil))))))) (fun(z:Nat×Nat×Z0)=>[(30,.a (.d (.int .i64 ((z.2.1:Nat):Int))))]) (fun z=>((H.set c0_1 (some (.tok 6 z.2.2.Fout.l.length))).set c0 (some (.cells (Z0.cg (some c0_1) z.2.2))))) (fun z=>z.1) (fun z=>Z14_l57 a1 a2 x5 x6 x55 z.1 z.2.1 z.2.2=some r) ((x55.l.length+1),0,x3) hE Weak.toA ?_
  rintro ⟨n57,s30_58,y59_c0⟩ hE K57 hK57;try dsimp only at hE
  cases n57 with
  | zero=>cases hE
  | succ n57 =>
    rw [Z14_l57] at hE;refine seqR (S BI (nil ?_));refine seqK fun K61 hK61=>?_;refine cE hE (fun hc62 hE=>?_) (fun hc62 hE=>?_)
    ·try dsimp only at hc62
     have hf62:=of_decide_eq_true hc62;refine sk hK61 ?_;clear hK61 K61;refine seqK fun K63 hK63=>?_;refine block ?_;refine seqR ?_;obtain⟨x65,gx65,hE⟩:=bO hE;refine S (ix strE s30_58 gx65) (S Ld (S As (nil ?_)));refine region ?_;refine S Mv (S Mv ?_);obtain⟨x66,gx66,hE⟩:=bO hE;refine sH (callH rfl rfl (Z13_walk gx66 _ hpG hpG)) rfl ?_;refine hq ((H.set c0_1 (some (.tok 6 x66.Fout.l.length))).set c0 (some (.cells (Z0.cg (some c0_1) x66)))) ?_
     refine nil ?_;refine hK63 _ ?_;clear hK63 K63;refine region ?_;refine SI ?_;refine S Mv (nil ?_);exact hK57 _ (n57,(s30_58+1),x66) Weak.toA hE (Nat.lt_succ_self _)
    refine AWp.exit ?_;exact hK7 _ y59_c0 Weak.toA hE
 rintro y8_c0 hE;try dsimp only at hE
 unfold Z14_j7 at hE;refine seqJH (TA 0 (TA 4 (TA 5 KeepsT.nil))) (fun(z:Z0)=>[]) (fun z=>((H.set c0_1 (some (.tok 6 z.Fout.l.length))).set c0 (some (.cells (Z0.cg (some c0_1) z))))) (fun z=>Z14_j9 a1 a2 z=some r) ?_ ?_
 ·intro K9 hK9;refine seqR (S Mv (S Mv ?_));obtain⟨x42,gx42,hE⟩:=bO hE;refine Sc rfl rfl (Z21_walk gx42) ?_;refine sLen (f:=strE) (s:=x42) (TK rfl) rfl rfl rfl rfl fun hL43=>?_;refine S Mv (nil ?_);refine block ?_;refine loopH (TA 0 (TA 4 (TA 5 (TA 40 (TA 41 KeepsT.nil))))) (fun(z:Nat×Nat×Z0)=>[(42,.a (.d (.int .i64 ((z.2.1:Nat):Int))))]) (fun z=>((H.set c0_1 (some (.tok 6 z.2.2.Fout.l.length))).set c0 (some (.cells (Z0.cg (some c0_1) z.2.2))))) (fun z=>z.1) (fun z=>Z14_l44 a1 a2 x42 z.1 z.2.1 z.2.2=some r) ((x42.l.length+1),0,y8_c0) hE Weak.toA ?_
  rintro ⟨n44,s42_45,y46_c0⟩ hE K44 hK44;try dsimp only at hE
  cases n44 with
  | zero=>cases hE
  | succ n44 =>
    rw [Z14_l44] at hE;refine seqR (S BI (nil ?_));refine seqK fun K48 hK48=>?_;refine cE hE (fun hc49 hE=>?_) (fun hc49 hE=>?_)
    ·try dsimp only at hc49
     have hf49:=of_decide_eq_true hc49;refine sk hK48 ?_;clear hK48 K48;refine seqK fun K50 hK50=>?_;refine block ?_;refine seqR ?_;obtain⟨x52,gx52,hE⟩:=bO hE;refine S (ix strE s42_45 gx52) (S Ld (S As (nil ?_)));refine region ?_;refine S Mv (S Mv ?_);obtain⟨x53,gx53,hE⟩:=bO hE;refine sH (callH rfl rfl (Z13_walk gx53 _ hpG hpG)) rfl ?_;refine hq ((H.set c0_1 (some (.tok 6 x53.Fout.l.length))).set c0 (some (.cells (Z0.cg (some c0_1) x53)))) ?_
     refine nil ?_;refine hK50 _ ?_;clear hK50 K50;refine region ?_;refine SI ?_;refine S Mv (nil ?_);exact hK44 _ (n44,(s42_45+1),x53) Weak.toA hE (Nat.lt_succ_self _)
    refine AWp.exit ?_;exact hK9 _ y46_c0 Weak.toA hE
 rintro y10_c0 hE;try dsimp only at hE
 unfold Z14_j9 at hE;refine seqR (S Mv (S Fv (S Ld (S Fv (S Ld (S BU ?_))))));obtain⟨x12,gx12,hE⟩:=bO hE;refine sH (callH rfl rfl (Z18_walk (gT:=gT) (oT:=oT) gx12 _ hpG hpG (fun _ _ hx=>Z15_walk hx) hpG (by assumption))) rfl ?_;refine hq ((H.set c0_1 (some (.tok 6 x12.Fout.l.length))).set c0 (some (.cells (Z0.cg (some c0_1) x12)))) ?_;refine nil ?_;refine seqJH (TA 0 (TA 4 (TA 5 KeepsT.nil))) (fun(z:Z0)=>[]) (fun z=>((H.set c0_1 (some (.tok 6 z.Fout.l.length))).set c0 (some (.cells (Z0.cg (some c0_1) z))))) (fun z=>Z14_j13 a1 a2 z=some r) ?_ ?_
 ·intro K13 hK13;refine seqR (S Fv (S Ld (S Fv (S Ld ?_))));obtain⟨x29,gx29,hE⟩:=bO hE;refine Sc rfl rfl (Z21_walk gx29) ?_;refine sLen (f:=strE) (s:=x29) (TK rfl) rfl rfl rfl rfl fun hL30=>?_;refine S Mv (nil ?_);refine block ?_;refine loopH (TA 0 (TA 4 (TA 5 (TA 61 (TA 62 KeepsT.nil))))) (fun(z:Nat×Nat×Z0)=>[(63,.a (.d (.int .i64 ((z.2.1:Nat):Int))))]) (fun z=>((H.set c0_1 (some (.tok 6 z.2.2.Fout.l.length))).set c0 (some (.cells (Z0.cg (some c0_1) z.2.2))))) (fun z=>z.1) (fun z=>Z14_l31 a1 a2 x29 z.1 z.2.1 z.2.2=some r) ((x29.l.length+1),0,x12) hE Weak.toA ?_
  rintro ⟨n31,s63_32,y33_c0⟩ hE K31 hK31;try dsimp only at hE
  cases n31 with
  | zero=>cases hE
  | succ n31 =>
    rw [Z14_l31] at hE;refine seqR (S BI (nil ?_));refine seqK fun K35 hK35=>?_;refine cE hE (fun hc36 hE=>?_) (fun hc36 hE=>?_)
    ·try dsimp only at hc36
     have hf36:=of_decide_eq_true hc36;refine sk hK35 ?_;clear hK35 K35;refine seqK fun K37 hK37=>?_;refine block ?_;refine seqR ?_;obtain⟨x39,gx39,hE⟩:=bO hE;refine S (ix strE s63_32 gx39) (S Ld (S As (nil ?_)));refine region ?_;refine S Mv (S Mv ?_);obtain⟨x40,gx40,hE⟩:=bO hE;refine sH (callH rfl rfl (Z13_walk gx40 _ hpG hpG)) rfl ?_;refine hq ((H.set c0_1 (some (.tok 6 x40.Fout.l.length))).set c0 (some (.cells (Z0.cg (some c0_1) x40)))) ?_
     refine nil ?_;refine hK37 _ ?_;clear hK37 K37;refine region ?_;refine SI ?_;refine S Mv (nil ?_);exact hK31 _ (n31,(s63_32+1),x40) Weak.toA hE (Nat.lt_succ_self _)
    refine AWp.exit ?_;exact hK13 _ y33_c0 Weak.toA hE
 rintro y14_c0 hE;try dsimp only at hE
 unfold Z14_j13 at hE;refine seqR (S Fv (S Ld (S Fv (S Ld ?_))));obtain⟨x16,gx16,hE⟩:=bO hE;refine Sc rfl rfl (Z21_walk gx16) ?_;refine sLen (f:=strE) (s:=x16) (TK rfl) rfl rfl rfl rfl fun hL17=>?_;refine S Mv (nil ?_);refine block ?_;refine loopH (TA 0 (TA 75 (TA 76 KeepsT.nil))) (fun(z:Nat×Nat×Z0)=>[(77,.a (.d (.int .i64 ((z.2.1:Nat):Int))))]) (fun z=>((H.set c0_1 (some (.tok 6 z.2.2.Fout.l.length))).set c0 (some (.cells (Z0.cg (some c0_1) z.2.2))))) (fun z=>z.1) (fun z=>Z14_l18 x16 z.1 z.2.1 z.2.2=some r) ((x16.l.length+1),0,y14_c0) hE Weak.toA ?_
 rintro ⟨n18,s77_19,y20_c0⟩ hE K18 hK18;try dsimp only at hE
 cases n18 with
 | zero=>cases hE
 | succ n18 =>
   rw [Z14_l18] at hE;refine seqR (S BI (nil ?_));refine seqK fun K22 hK22=>?_;refine cE hE (fun hc23 hE=>?_) (fun hc23 hE=>?_)
   ·try dsimp only at hc23
    have hf23:=of_decide_eq_true hc23;refine sk hK22 ?_;clear hK22 K22;refine seqK fun K24 hK24=>?_;refine block ?_;refine seqR ?_;obtain⟨x26,gx26,hE⟩:=bO hE;refine S (ix strE s77_19 gx26) (S Ld (S As (nil ?_)));refine region ?_;refine S Mv (S Mv ?_);obtain⟨x27,gx27,hE⟩:=bO hE;refine sH (callH rfl rfl (Z13_walk gx27 _ hpG hpG)) rfl ?_;refine hq ((H.set c0_1 (some (.tok 6 x27.Fout.l.length))).set c0 (some (.cells (Z0.cg (some c0_1) x27)))) ?_
    refine nil ?_;refine hK24 _ ?_;clear hK24 K24;refine region ?_;refine SI ?_;refine S Mv (nil ?_);exact hK18 _ (n18,(s77_19+1),x27) Weak.toA hE (Nat.lt_succ_self _)
   refine AWp.exit ?_;repeat (first|refine xBlock_normal ?_|refine xThen_exit ?_|refine xBlock_exit ?_)
   obtain rfl:=Option.some.inj hE;refine retQ.normalF ((H.set c0_1 (some (.tok 6 y20_c0.Fout.l.length))).set c0 (some (.cells (Z0.cg (some c0_1) y20_c0)))) (xs:=[]) rfl ⟨rfl,rfl⟩ ?_;exact(fun _ _ h=>h)
end
section
variable [IsLoud lou]
def Z10_j9  (y10_id19_3:Z0):Option (Sl Z2):=some y10_id19_3.Fout
def Z10_j20 (s91_15:Nat) (k_next_14:Nat->Z0->Option (Sl Z2)) (y21_id19_3:Z0):Option (Sl Z2):=k_next_14 (s91_15+1) y21_id19_3
def Z10_l14 (a0:TDoc) (a1:TDoc) :Nat->Nat->Z0->Option (Sl Z2)
 | 0,_,_=>none
 | n14+1,s91_15,y16_id19_3=>bif (decide (((s91_15:Nat):Int)<((a1.FDefs.l.length:Nat):Int))) then((a1.FDefs.l[s91_15]?).bind fun x23=>(Z119 a0 x23.FName).bind fun x26=>bif (!x26.2) then((Z20 x23.FKind).bind fun x29=>(Z13 (Z0.mk x23.FName y16_id19_3.Fout) (2:Int) ([]:Bs) ([]:Bs) ([]:Bs) x29).bind fun x30=>Z10_j20 s91_15 ((Z10_l14 a0 a1 n14)) x30) else(Z10_j20 s91_15 ((Z10_l14 a0 a1 n14)) (Z0.mk x23.FName y16_id19_3.Fout))) else(Z10_j9   y16_id19_3)
def Z10_j7 (a0:TDoc) (a1:TDoc)  (y8_id19_3:Z0):Option (Sl Z2):=Z10_l14 a0 a1 (a1.FDefs.l.length+1) 0 y8_id19_3
def Z10_j39 (s50_34:Nat) (k_next_33:Nat->Z0->Option (Sl Z2)) (y40_id19_3:Z0):Option (Sl Z2):=k_next_33 (s50_34+1) y40_id19_3
def Z10_l33 (a0:TDoc) (a1:TDoc) :Nat->Nat->Z0->Option (Sl Z2)
 | 0,_,_=>none
 | n33+1,s50_34,y35_id19_3=>bif (decide (((s50_34:Nat):Int)<((a0.FDefs.l.length:Nat):Int))) then((a0.FDefs.l[s50_34]?).bind fun x42=>(Z119 a1 x42.FName).bind fun x45=>bif (!x45.2) then(Z10_j39 s50_34 ((Z10_l33 a0 a1 n33)) (Z0.mk x42.FName y35_id19_3.Fout)) else(bif (!decide (x42.FKind=x45.1.FKind)) then((Z20 x42.FKind).bind fun x50=>(Z20 x45.1.FKind).bind fun x51=>(Z13 (Z0.mk x42.FName y35_id19_3.Fout) (3:Int) ([]:Bs) ([]:Bs) x50 x51).bind fun x52=>Z10_j39 s50_34 ((Z10_l33 a0 a1 n33)) x52) else((Z14 (Z0.mk x42.FName y35_id19_3.Fout) x42 x45.1).bind fun x53=>Z10_j39 s50_34 ((Z10_l33 a0 a1 n33)) x53))) else(Z10_j7 a0 a1  y35_id19_3)
def Z10_j5 (a0:TDoc) (a1:TDoc)  (y6_id19_3:Z0):Option (Sl Z2):=Z10_l33 a0 a1 (a0.FDefs.l.length+1) 0 y6_id19_3
def Z10_j62 (s23_57:Nat) (k_next_56:Nat->Z0->Option (Sl Z2)) (y63_id19_3:Z0):Option (Sl Z2):=k_next_56 (s23_57+1) y63_id19_3
def Z10_l56 (a0:TDoc) (a1:TDoc) :Nat->Nat->Z0->Option (Sl Z2)
 | 0,_,_=>none
 | n56+1,s23_57,y58_id19_3=>bif (decide (((s23_57:Nat):Int)<((a0.FDefs.l.length:Nat):Int))) then((a0.FDefs.l[s23_57]?).bind fun x65=>(Z119 a1 x65.FName).bind fun x68=>bif (!x68.2) then((Z20 x65.FKind).bind fun x71=>(Z13 (Z0.mk x65.FName y58_id19_3.Fout) (1:Int) ([]:Bs) ([]:Bs) x71 ([]:Bs)).bind fun x72=>Z10_j62 s23_57 ((Z10_l56 a0 a1 n56)) x72) else(Z10_j62 s23_57 ((Z10_l56 a0 a1 n56)) (Z0.mk x65.FName y58_id19_3.Fout))) else(Z10_j5 a0 a1  y58_id19_3)
def Z10 (a0:TDoc) (a1:TDoc):Option (Sl Z2):=Z10_l56 a0 a1 (a0.FDefs.l.length+1) 0 (Z0.mk ([]:Bs) (Sl.nil:Sl Z2))
theorem Z10_walk {a0 a1:TDoc}{oT:Ab.Obj}{gT:Nat}{r:Sl Z2}(hE:Z10 a0 a1=some r) (H:Heap) (hgT:H gT=some oT) (hoT:IsTab Tryz.prog oT):ACalls Tryz.prog 13 [.agg (TDoc.c a0),.agg (TDoc.c a1)] H fun v h'=>v=.a (.d (Sl.d 6 Z2.c none r))/\h'=H:=by
 unfold Z10 at hE;refine ACalls.oW 119 [.tmp 4] Tryz.call13 Tryz.func13 ?_;refine seqR (S BX (S BX ?_));refine s0 (assignNil (k':=6) rfl) rfl ?_;refine nil ?_;refine seqR (S BU ?_);refine AOps.tok 6 fun tk19_4 htk19_4=>?_;have ne_tk19_4_gT:tk19_4≠gT:=fun e_=>by subst e_; simp_all
 refine sE (StepE.boxO rfl) rfl (fun _ _ _ ⟨id19_3,hid19_3,e1,e2,e3⟩=>?_); subst e1 e2 e3;obtain⟨ne_id19_3_tk19_4,hid19_3⟩:=Heap.set_fresh hid19_3;have ne_id19_3_gT:id19_3≠gT:=fun e_=>by subst e_; simp_all
 refine AOps.recell id19_3 _ hpG (fun j w cs hh hx=>tok_cell 1 6 6 hh (t:=tk19_4) hpG hx rfl) ?_;refine hq ((H.set tk19_4 (some (.tok 6 0))).set id19_3 (some (.cells (Z0.cg (some tk19_4) (Z0.mk ([]:Bs) (Sl.nil:Sl Z2)))))) ?_;refine S As (nil ?_);refine seqJH (TA 2 (TA 3 (TA 5 KeepsT.nil))) (fun(z:Z0)=>[]) (fun z=>((H.set tk19_4 (some (.tok 6 z.Fout.l.length))).set id19_3 (some (.cells (Z0.cg (some tk19_4) z))))) (fun z=>Z10_j5 a0 a1 z=some r) ?_ ?_
 ·intro K5 hK5;refine seqR (S Fv (S Ld ?_));refine sLen (f:=TDef.c) (s:=a0.FDefs) (TK rfl) rfl rfl rfl rfl fun hL55=>?_;refine S Mv (nil ?_);refine block ?_;refine loopH (TA 2 (TA 3 (TA 5 (TA 21 (TA 22 KeepsT.nil))))) (fun(z:Nat×Nat×Z0)=>[(23,.a (.d (.int .i64 ((z.2.1:Nat):Int))))]) (fun z=>((H.set tk19_4 (some (.tok 6 z.2.2.Fout.l.length))).set id19_3 (some (.cells (Z0.cg (some tk19_4) z.2.2))))) (fun z=>z.1) (fun z=>Z10_l56 a0 a1 z.1 z.2.1 z.2.2=some r) ((a0.FDefs.l.length+1),0,(Z0.mk ([]:Bs) (Sl.nil:Sl Z2))) hE Weak.toA ?_
  rintro ⟨n56,s23_57,y58_id19_3⟩ hE K56 hK56;try dsimp only at hE
  cases n56 with
  | zero=>cases hE
  | succ n56 =>
    rw [Z10_l56] at hE;refine seqR (S BI (nil ?_));refine seqK fun K60 hK60=>?_;refine cE hE (fun hc61 hE=>?_) (fun hc61 hE=>?_)
    ·try dsimp only at hc61
     have hf61:=of_decide_eq_true hc61;refine sk hK60 ?_;clear hK60 K60;refine seqJH (TA 2 (TA 3 (TA 5 (TA 21 (TA 22 (TA 23 KeepsT.nil)))))) (fun(z:Z0)=>[]) (fun z=>((H.set tk19_4 (some (.tok 6 z.Fout.l.length))).set id19_3 (some (.cells (Z0.cg (some tk19_4) z))))) (fun z=>Z10_j62 s23_57 ((Z10_l56 a0 a1 n56)) z=some r) ?_ ?_
     ·intro K62 hK62;refine block ?_;refine seqR ?_;obtain⟨x65,gx65,hE⟩:=bO hE;refine S (ix TDef.c s23_57 gx65) (S Ld ?_);refine Sl ?_;refine Sf ?_;refine nil ?_;refine freezeA 7 _ rfl (KA 2 (KA 3 (KA 5 (KA 21 (KA 22 (KA 23 Keeps.nil)))))) ?_;refine seqR (S Mv (S Fv (S Ld (S NP ?_))));refine s0 (fieldP (TK rfl) rfl rfl (TK rfl) rfl rfl) rfl ?_;refine sHn (storeP1 (TK rfl) rfl rfl hpG rfl (by repeat (first|exact SetAt.zero|apply SetAt.succ))) rfl rfl ?_
      refine hq ((H.set tk19_4 (some (.tok 6 y58_id19_3.Fout.l.length))).set id19_3 (some (.cells (Z0.cg (some tk19_4) (Z0.mk x65.FName y58_id19_3.Fout))))) ?_;refine nil ?_;refine seqR (S Ld (S Fv (S Ld ?_)));obtain⟨x68,gx68,hE⟩:=bO hE;refine Sc rfl rfl (Z119_walk gx68) ?_;refine S Mv (S EX (S EX ?_));refine Sl ?_;refine Sf ?_;refine S As (nil ?_);refine freezeA 8 _ rfl (KA 2 (KA 3 (KA 5 (KA 7 (KA 9 (KA 21 (KA 22 (KA 23 Keeps.nil)))))))) ?_
      refine seqR (S Mv (S NB (nil ?_)));refine cE hE (fun hc70 hE=>?_) (fun hc70 hE=>?_)
      ·refine region ?_;refine S Mv (S Fv (S Ld ?_));obtain⟨x71,gx71,hE⟩:=bO hE;refine Sc rfl rfl (Z20_walk gx71) ?_;obtain⟨x72,gx72,hE⟩:=bO hE;refine sH (callH rfl rfl (Z13_walk gx72 _ hpG hpG)) rfl ?_;refine hq ((H.set tk19_4 (some (.tok 6 x72.Fout.l.length))).set id19_3 (some (.cells (Z0.cg (some tk19_4) x72)))) ?_;refine nil ?_;exact hK62 _ x72 Weak.toA hE
      refine AWp.skip ?_;exact hK62 _ (Z0.mk x65.FName y58_id19_3.Fout) Weak.toA hE
     rintro y63_id19_3 hE;try dsimp only at hE
     unfold Z10_j62 at hE;refine region ?_;refine SI ?_;refine S Mv (nil ?_);exact hK56 _ (n56,(s23_57+1),y63_id19_3) Weak.toA hE (Nat.lt_succ_self _)
    refine AWp.exit ?_;exact hK5 _ y58_id19_3 Weak.toA hE
 rintro y6_id19_3 hE;try dsimp only at hE
 unfold Z10_j5 at hE;refine seqJH (TA 2 (TA 3 (TA 5 KeepsT.nil))) (fun(z:Z0)=>[]) (fun z=>((H.set tk19_4 (some (.tok 6 z.Fout.l.length))).set id19_3 (some (.cells (Z0.cg (some tk19_4) z))))) (fun z=>Z10_j7 a0 a1 z=some r) ?_ ?_
 ·intro K7 hK7;refine seqR (S Fv (S Ld ?_));refine sLen (f:=TDef.c) (s:=a0.FDefs) (TK rfl) rfl rfl rfl rfl fun hL32=>?_;refine S Mv (nil ?_);refine block ?_;refine loopH (TA 2 (TA 3 (TA 5 (TA 48 (TA 49 KeepsT.nil))))) (fun(z:Nat×Nat×Z0)=>[(50,.a (.d (.int .i64 ((z.2.1:Nat):Int))))]) (fun z=>((H.set tk19_4 (some (.tok 6 z.2.2.Fout.l.length))).set id19_3 (some (.cells (Z0.cg (some tk19_4) z.2.2))))) (fun z=>z.1) (fun z=>Z10_l33 a0 a1 z.1 z.2.1 z.2.2=some r) ((a0.FDefs.l.length+1),0,y6_id19_3) hE Weak.toA ?_
  rintro ⟨n33,s50_34,y35_id19_3⟩ hE K33 hK33;try dsimp only at hE
  cases n33 with
  | zero=>cases hE
  | succ n33 =>
    rw [Z10_l33] at hE;refine seqR (S BI (nil ?_));refine seqK fun K37 hK37=>?_;refine cE hE (fun hc38 hE=>?_) (fun hc38 hE=>?_)
    ·try dsimp only at hc38
     have hf38:=of_decide_eq_true hc38;refine sk hK37 ?_;clear hK37 K37;refine seqJH (TA 2 (TA 3 (TA 5 (TA 48 (TA 49 (TA 50 KeepsT.nil)))))) (fun(z:Z0)=>[]) (fun z=>((H.set tk19_4 (some (.tok 6 z.Fout.l.length))).set id19_3 (some (.cells (Z0.cg (some tk19_4) z))))) (fun z=>Z10_j39 s50_34 ((Z10_l33 a0 a1 n33)) z=some r) ?_ ?_
     ·intro K39 hK39;refine block ?_;refine seqR ?_;obtain⟨x42,gx42,hE⟩:=bO hE;refine S (ix TDef.c s50_34 gx42) (S Ld ?_);refine Sl ?_;refine Sf ?_;refine nil ?_;refine freezeA 11 _ rfl (KA 2 (KA 3 (KA 5 (KA 48 (KA 49 (KA 50 Keeps.nil)))))) ?_;refine seqR (S Mv (S Fv (S Ld (S NP ?_))));refine s0 (fieldP (TK rfl) rfl rfl (TK rfl) rfl rfl) rfl ?_;refine sHn (storeP1 (TK rfl) rfl rfl hpG rfl (by repeat (first|exact SetAt.zero|apply SetAt.succ))) rfl rfl ?_
      refine hq ((H.set tk19_4 (some (.tok 6 y35_id19_3.Fout.l.length))).set id19_3 (some (.cells (Z0.cg (some tk19_4) (Z0.mk x42.FName y35_id19_3.Fout))))) ?_;refine nil ?_;refine seqR (S Ld (S Fv (S Ld ?_)));obtain⟨x45,gx45,hE⟩:=bO hE;refine Sc rfl rfl (Z119_walk gx45) ?_;refine S Mv (S EX (S EX ?_));refine Sl ?_;refine Sf ?_;refine S As (nil ?_);refine freezeA 12 _ rfl (KA 2 (KA 3 (KA 5 (KA 11 (KA 13 (KA 48 (KA 49 (KA 50 Keeps.nil)))))))) ?_
      refine block ?_;refine seqR (S Mv (S NB (S As (nil ?_))));refine cE hE (fun hc47 hE=>?_) (fun hc47 hE=>?_)
      ·refine AWp.skip ?_;exact hK39 _ (Z0.mk x42.FName y35_id19_3.Fout) Weak.toA hE
      refine seqR (S Fv (S Ld (S Fv (S Ld (S BI (S As (nil ?_)))))));refine cE hE (fun hc49 hE=>?_) (fun hc49 hE=>?_)
      ·refine AWp.draw rfl ?_;refine Sd Mv (Sd Fv (Sd Ld ?_));obtain⟨x50,gx50,hE⟩:=bO hE;refine Scd rfl rfl (Z20_walk gx50) ?_;refine Sd Fv (Sd Ld ?_);obtain⟨x51,gx51,hE⟩:=bO hE;refine Scd rfl rfl (Z20_walk gx51) ?_;obtain⟨x52,gx52,hE⟩:=bO hE;refine DOps.sH (callH rfl rfl (Z13_walk gx52 _ hpG hpG)) rfl ?_;refine DOps.Dh ((H.set tk19_4 (some (.tok 6 x52.Fout.l.length))).set id19_3 (some (.cells (Z0.cg (some tk19_4) x52)))) ?_
       refine DOps.nil (by decide +kernel) ?_;exact hK39 _ x52 Weak.toA hE
      refine region ?_;refine S Mv (S Ld (S Ld ?_));obtain⟨x53,gx53,hE⟩:=bO hE;refine sH (callH rfl rfl (Z14_walk (gT:=gT) (oT:=oT) gx53 _ hpG hpG hpG (by assumption))) rfl ?_;refine hq ((H.set tk19_4 (some (.tok 6 x53.Fout.l.length))).set id19_3 (some (.cells (Z0.cg (some tk19_4) x53)))) ?_;refine nil ?_;exact hK39 _ x53 Weak.toA hE
     rintro y40_id19_3 hE;try dsimp only at hE
     unfold Z10_j39 at hE;refine region ?_;refine SI ?_;refine S Mv (nil ?_);exact hK33 _ (n33,(s50_34+1),y40_id19_3) Weak.toA hE (Nat.lt_succ_self _)
    refine AWp.exit ?_;exact hK7 _ y35_id19_3 Weak.toA hE
 rintro y8_id19_3 hE;try dsimp only at hE
 unfold Z10_j7 at hE;refine seqJH (TA 5 KeepsT.nil) (fun(z:Z0)=>[]) (fun z=>((H.set tk19_4 (some (.tok 6 z.Fout.l.length))).set id19_3 (some (.cells (Z0.cg (some tk19_4) z))))) (fun z=>Z10_j9 z=some r) ?_ ?_
 ·intro K9 hK9;refine seqR (S Fv (S Ld ?_));refine sLen (f:=TDef.c) (s:=a1.FDefs) (TK rfl) rfl rfl rfl rfl fun hL13=>?_;refine S Mv (nil ?_);refine block ?_;refine loopH (TA 2 (TA 5 (TA 89 (TA 90 KeepsT.nil)))) (fun(z:Nat×Nat×Z0)=>[(91,.a (.d (.int .i64 ((z.2.1:Nat):Int))))]) (fun z=>((H.set tk19_4 (some (.tok 6 z.2.2.Fout.l.length))).set id19_3 (some (.cells (Z0.cg (some tk19_4) z.2.2))))) (fun z=>z.1) (fun z=>Z10_l14 a0 a1 z.1 z.2.1 z.2.2=some r) ((a1.FDefs.l.length+1),0,y8_id19_3) hE Weak.toA ?_
  rintro ⟨n14,s91_15,y16_id19_3⟩ hE K14 hK14;try dsimp only at hE
  cases n14 with
  | zero=>cases hE
  | succ n14 =>
    rw [Z10_l14] at hE;refine seqR (S BI (nil ?_));refine seqK fun K18 hK18=>?_;refine cE hE (fun hc19 hE=>?_) (fun hc19 hE=>?_)
    ·try dsimp only at hc19
     have hf19:=of_decide_eq_true hc19;refine sk hK18 ?_;clear hK18 K18;refine seqJH (TA 2 (TA 5 (TA 89 (TA 90 (TA 91 KeepsT.nil))))) (fun(z:Z0)=>[]) (fun z=>((H.set tk19_4 (some (.tok 6 z.Fout.l.length))).set id19_3 (some (.cells (Z0.cg (some tk19_4) z))))) (fun z=>Z10_j20 s91_15 ((Z10_l14 a0 a1 n14)) z=some r) ?_ ?_
     ·intro K20 hK20;refine block ?_;refine seqR ?_;obtain⟨x23,gx23,hE⟩:=bO hE;refine S (ix TDef.c s91_15 gx23) (S Ld ?_);refine Sl ?_;refine Sf ?_;refine nil ?_;refine freezeA 15 _ rfl (KA 2 (KA 5 (KA 89 (KA 90 (KA 91 Keeps.nil))))) ?_;refine seqR (S Mv (S Fv (S Ld (S NP ?_))));refine s0 (fieldP (TK rfl) rfl rfl (TK rfl) rfl rfl) rfl ?_;refine sHn (storeP1 (TK rfl) rfl rfl hpG rfl (by repeat (first|exact SetAt.zero|apply SetAt.succ))) rfl rfl ?_
      refine hq ((H.set tk19_4 (some (.tok 6 y16_id19_3.Fout.l.length))).set id19_3 (some (.cells (Z0.cg (some tk19_4) (Z0.mk x23.FName y16_id19_3.Fout))))) ?_;refine nil ?_;refine seqR (S Ld (S Fv (S Ld ?_)));obtain⟨x26,gx26,hE⟩:=bO hE;refine Sc rfl rfl (Z119_walk gx26) ?_;refine S Mv (S EX (S EX ?_));refine Sl ?_;refine Sf ?_;refine S As (nil ?_);refine freezeA 16 _ rfl (KA 2 (KA 5 (KA 15 (KA 17 (KA 89 (KA 90 (KA 91 Keeps.nil))))))) ?_
      refine seqR (S Mv (S NB (nil ?_)));refine cE hE (fun hc28 hE=>?_) (fun hc28 hE=>?_)
      ·refine region ?_;refine S Mv (S Fv (S Ld ?_));obtain⟨x29,gx29,hE⟩:=bO hE;refine Sc rfl rfl (Z20_walk gx29) ?_;obtain⟨x30,gx30,hE⟩:=bO hE;refine sH (callH rfl rfl (Z13_walk gx30 _ hpG hpG)) rfl ?_;refine hq ((H.set tk19_4 (some (.tok 6 x30.Fout.l.length))).set id19_3 (some (.cells (Z0.cg (some tk19_4) x30)))) ?_;refine nil ?_;exact hK20 _ x30 Weak.toA hE
      refine AWp.skip ?_;exact hK20 _ (Z0.mk x23.FName y16_id19_3.Fout) Weak.toA hE
     rintro y21_id19_3 hE;try dsimp only at hE
     unfold Z10_j20 at hE;refine region ?_;refine SI ?_;refine S Mv (nil ?_);exact hK14 _ (n14,(s91_15+1),y21_id19_3) Weak.toA hE (Nat.lt_succ_self _)
    refine AWp.exit ?_;exact hK9 _ y16_id19_3 Weak.toA hE
 rintro y10_id19_3 hE;try dsimp only at hE
 unfold Z10_j9 at hE;refine seqR (S Mv (S NP ?_));refine s0 (fieldP (TK rfl) rfl rfl (TK rfl) rfl rfl) rfl ?_;refine s0 (loadP (TK rfl) rfl rfl hpG rfl) rfl ?_;refine S As (nil ?_);refine AWp.dropTok 4 rfl ?_;refine AWp.ret ?_;repeat (first|refine xBlock_ret ?_|refine xThen_ret ?_)
 obtain rfl:=Option.some.inj hE;refine retQ.retF H rfl ⟨rfl,rfl⟩ ?_;intro id_ o_ he_;have e_tk19_4:id_≠tk19_4:=fun e_=>by subst e_; simp_all [Heap.set]
 have e_id19_3:id_≠id19_3:=fun e_=>by subst e_; simp_all [Heap.set]
 rw [<- he_];simp only [Heap.set] at he_ ⊢
 (repeat' split)<;>simp_all
end
def Z33 (a0:TRef) (a1:Bs):Option TDoc:=some (TDoc.mk (⟨false,[(TDef.mk (1:Int) ([65]:Bs) (Sl.nil:Sl Bs) (Sl.nil:Sl TDir) (⟨false,[(Z4.mk ([120]:Bs) (⟨false,[(Z5.mk ([110]:Bs) a0 false Z7.zero (Sl.nil:Sl TDir))]⟩:Sl Z5) (TRef.mk ([73,110,116]:Bs) (Sl.nil:Sl Int)) (Sl.nil:Sl TDir)),(Z4.mk a1 (Sl.nil:Sl Z5) (TRef.mk ([73,110,116]:Bs) (Sl.nil:Sl Int)) (Sl.nil:Sl TDir))]⟩:Sl Z4) (Sl.nil:Sl Z6) (Sl.nil:Sl Z5))]⟩:Sl TDef))
theorem Z33_walk {a0:TRef}{a1:Bs}{r:TDoc}(hE:Z33 a0 a1=some r) (H:Heap) :ACalls Tryz.prog 25 [.agg (TRef.c a0),.d (.str a1)] H fun v h'=>v=.a (.agg (TDoc.c r))/\h'=H:=by
 unfold Z33 at hE;refine ACalls.oW 19 [.cell 4 24] Tryz.call25 Tryz.func25 ?_;refine seqR (S BX ?_);refine Sl ?_;refine nil ?_;refine seqR (S BU ?_);refine Sl ?_;refine Sf ?_;refine nil ?_;refine freezeA 5 _ rfl (KA 1 (KA 2 (KA 4 Keeps.nil))) ?_;refine seqR (S Ld (S Ld (S BU (S BV (S BU (S Mv (S Ld (S BU (S BV (S BU (S BV (S BU ?_))))))))))));refine Sf ?_;refine nil ?_;exact rt hE
def Z25 (a0:Int):Option Bs:=bif ((decide (a0<(1:Int)))||(decide ((18:Int)<a0))) then((Z143 a0).bind fun x7=>(catC ([67,104,97,110,103,101,32]:Bs) x7).bind fun x8=>some x8) else((idxC ([([]:Bs),([84,121,112,101,71,111,110,101]:Bs),([84,121,112,101,78,101,119]:Bs),([84,121,112,101,75,105,110,100]:Bs),([70,105,101,108,100,71,111,110,101]:Bs),([70,105,101,108,100,78,101,119]:Bs),([70,105,101,108,100,84,121,112,101]:Bs),([65,114,103,71,111,110,101]:Bs),([65,114,103,78,101,119]:Bs),([65,114,103,84,121,112,101]:Bs),([65,114,103,68,101,102,97,117,108,116]:Bs),([77,101,109,98,101,114,71,111,110,101]:Bs),([77,101,109,98,101,114,78,101,119]:Bs),([73,110,112,117,116,71,111,110,101]:Bs),([73,110,112,117,116,78,101,119]:Bs),([73,110,112,117,116,84,121,112,101]:Bs),([73,110,112,117,116,68,101,102,97,117,108,116]:Bs),([70,97,99,101,71,111,110,101]:Bs),([70,97,99,101,78,101,119]:Bs)]:List Bs) a0).bind fun x10=>some x10)
theorem Z25_walk {a0:Int}{oT:Ab.Obj}{gT:Nat}{r:Bs}(hE:Z25 a0=some r) (H:Heap) (hgT:H gT=some oT) (hoT:IsTab Tryz.prog oT):ACalls Tryz.prog 65 [.d (.int .i64 a0)] H fun v h'=>v=.a (.d (.str r))/\h'=H:=by
 unfold Z25 at hE;refine ACalls.oW 17 [.tmp 2] Tryz.call65 Tryz.func65 ?_;refine seqR (S As (nil ?_));refine seqR ?_;refine s0 (buildArr Tryz.tab_ok Tryz.underlying199 rfl rfl rfl rfl rfl) rfl ?_;refine Sl ?_;refine Sf ?_;refine nil ?_;refine freezeA 3 _ rfl (KA 0 Keeps.nil) ?_;refine seqK fun K3 hK3=>?_;refine seqR (S Mv (S BI (S Mv (G0 Mv ?_))));refine G1 8 rfl BI ?_;refine S PO (nil ?_);refine cE hE (fun hc5 hE=>?_) (fun hc5 hE=>?_)
 ·refine seqR (S Mv ?_);obtain⟨x7,gx7,hE⟩:=bO hE;refine s0 (callR rfl rfl (Z143_walk (gT:=gT) (oT:=oT) gx7 _ hpG (by assumption))) rfl ?_;obtain⟨x8,gx8,hE⟩:=bO hE;refine s0 (catM rfl rfl gx8) rfl ?_;refine S As (nil ?_);exact rt hE
 refine sk hK3 ?_;clear hK3 K3;refine seqR (S Mv ?_);obtain⟨x10,gx10,hE⟩:=bO hE;refine s0 (idxArr (f:=D.str) (l:=([([]:Bs),([84,121,112,101,71,111,110,101]:Bs),([84,121,112,101,78,101,119]:Bs),([84,121,112,101,75,105,110,100]:Bs),([70,105,101,108,100,71,111,110,101]:Bs),([70,105,101,108,100,78,101,119]:Bs),([70,105,101,108,100,84,121,112,101]:Bs),([65,114,103,71,111,110,101]:Bs),([65,114,103,78,101,119]:Bs),([65,114,103,84,121,112,101]:Bs),([65,114,103,68,101,102,97,117,108,116]:Bs),([77,101,109,98,101,114,71,111,110,101]:Bs),([77,101,109,98,101,114,78,101,119]:Bs),([73,110,112,117,116,71,111,110,101]:Bs),([73,110,112,117,116,78,101,119]:Bs),([73,110,112,117,116,84,121,112,101]:Bs),([73,110,112,117,116,68,101,102,97,117,108,116]:Bs),([70,97,99,101,71,111,110,101]:Bs),([70,97,99,101,78,101,119]:Bs)]:List Bs)) Tryz.underlying199 (TK rfl) rfl rfl rfl rfl gx10) rfl ?_
 refine S Ld (S As (nil ?_));exact rt hE
def Z24 (a0:Bs):Option Bs:=bif ((a0==([]:Bs))) then(some ([110,111,110,101]:Bs)) else(some a0)
theorem Z24_walk {a0 r:Bs}(hE:Z24 a0=some r) (H:Heap) :ACalls Tryz.prog 66 [.d (.str a0)] H fun v h'=>v=.a (.d (.str r))/\h'=H:=by
 unfold Z24 at hE;refine ACalls.oW 6 [.tmp 2] Tryz.call66 Tryz.func66 ?_;refine seqR (S As (nil ?_));refine seqK fun K2 hK2=>?_;refine seqR (S Mv (S BS (nil ?_)));refine cE hE (fun hc4 hE=>?_) (fun hc4 hE=>?_)
 ·refine seqR (S As (nil ?_));exact rt hE
 refine sk hK2 ?_;clear hK2 K2;refine seqR (S Mv (S As (nil ?_)));exact rt hE
end Go.Proofs

namespace Go.Proofs
open Go Go.Ab
open AOps Cert AWp Keeps KeepsT
variable {lou:Lou}
def Z11_j10  (s3_11:Bs):Option Bs:=some s3_11
def Z11_j8 (a0:Z2)  (s3_9:Bs):Option Bs:=bif ((!(a0.FFrom==([]:Bs)))||(!(a0.FTo==([]:Bs)))) then((Z24 a0.FFrom).bind fun x15=>(catC ([58,32]:Bs) x15).bind fun x16=>(catC x16 ([32,45,62,32]:Bs)).bind fun x17=>(Z24 a0.FTo).bind fun x18=>(catC x17 x18).bind fun x19=>(catC s3_9 x19).bind fun x20=>Z11_j10   x20) else(Z11_j10   s3_9)
def Z11_j6 (a0:Z2)  (s3_7:Bs):Option Bs:=bif (!(a0.FArg==([]:Bs))) then((catC ([40]:Bs) a0.FArg).bind fun x23=>(catC x23 ([41]:Bs)).bind fun x24=>(catC s3_7 x24).bind fun x25=>Z11_j8 a0  x25) else(Z11_j8 a0  s3_7)
def Z11 (a0:Z2):Option Bs:=(Z25 a0.FKind).bind fun x3=>(catC x3 ([32]:Bs)).bind fun x4=>(catC x4 a0.FType).bind fun x5=>bif (!(a0.FField==([]:Bs))) then((catC ([46]:Bs) a0.FField).bind fun x28=>(catC x5 x28).bind fun x29=>Z11_j6 a0  x29) else(Z11_j6 a0  x5)
theorem Z11_walk {a0:Z2}{oT:Ab.Obj}{gT:Nat}{r:Bs}(hE:Z11 a0=some r) (H:Heap) (hgT:H gT=some oT) (hoT:IsTab Tryz.prog oT):ACalls Tryz.prog 26 [.agg (Z2.c a0)] H fun v h'=>v=.a (.d (.str r))/\h'=H:=by
 unfold Z11 at hE;refine ACalls.oW 48 [.tmp 2] Tryz.call26 Tryz.func26 ?_;refine seqR (S BX (S As (nil ?_)));refine AWp.seqD (Sd Fv (Sd Ld ?_));obtain⟨x3,gx3,hE⟩:=bO hE;refine DOps.s0 (callR rfl rfl (Z25_walk (gT:=gT) (oT:=oT) gx3 _ hpG (by assumption))) rfl ?_;obtain⟨x4,gx4,hE⟩:=bO hE;refine DOps.s0 (catM rfl rfl gx4) rfl ?_;refine Sd Fv (Sd Ld ?_);obtain⟨x5,gx5,hE⟩:=bO hE;refine DOps.s0 (catM rfl rfl gx5) rfl ?_
 refine Sd As ?_;refine DOps.nil (by decide +kernel) ?_;refine seqJH (TA 1 KeepsT.nil) (fun(z:Bs)=>[(3,.a (.d (.str z)))]) (fun z=>H) (fun z=>Z11_j6 a0 z=some r) ?_ ?_
 ·intro K6 hK6;refine seqR (S Fv (S Ld (S BS (nil ?_))));refine cE hE (fun hc27 hE=>?_) (fun hc27 hE=>?_)
  ·refine region ?_;refine S Mv (S Fv (S Ld ?_));obtain⟨x28,gx28,hE⟩:=bO hE;refine s0 (catM rfl rfl gx28) rfl ?_;obtain⟨x29,gx29,hE⟩:=bO hE;refine s0 (catM rfl rfl gx29) rfl ?_;refine S As (nil ?_);exact hK6 _ x29 Weak.toA hE
  refine AWp.skip ?_;exact hK6 _ x5 Weak.toA hE
 rintro s3_7 hE;try dsimp only at hE
 unfold Z11_j6 at hE;refine seqJH (TA 1 KeepsT.nil) (fun(z:Bs)=>[(3,.a (.d (.str z)))]) (fun z=>H) (fun z=>Z11_j8 a0 z=some r) ?_ ?_
 ·intro K8 hK8;refine seqR (S Fv (S Ld (S BS (nil ?_))));refine cE hE (fun hc22 hE=>?_) (fun hc22 hE=>?_)
  ·refine region ?_;refine S Mv (S Fv (S Ld ?_));obtain⟨x23,gx23,hE⟩:=bO hE;refine s0 (catM rfl rfl gx23) rfl ?_;obtain⟨x24,gx24,hE⟩:=bO hE;refine s0 (catM rfl rfl gx24) rfl ?_;obtain⟨x25,gx25,hE⟩:=bO hE;refine s0 (catM rfl rfl gx25) rfl ?_;refine S As (nil ?_);exact hK8 _ x25 Weak.toA hE
  refine AWp.skip ?_;exact hK8 _ s3_7 Weak.toA hE
 rintro s3_9 hE;try dsimp only at hE
 unfold Z11_j8 at hE;refine seqJH KeepsT.nil (fun(z:Bs)=>[(3,.a (.d (.str z)))]) (fun z=>H) (fun z=>Z11_j10 z=some r) ?_ ?_
 ·intro K10 hK10;refine seqR (S Fv (S Ld (S BS (S Mv (G0 Fv ?_)))));refine G1 32 rfl Ld ?_;refine G1 33 rfl BS ?_;refine S PO (nil ?_);refine cE hE (fun hc14 hE=>?_) (fun hc14 hE=>?_)
  ·refine AWp.draw rfl ?_;refine Sd Mv (Sd Fv (Sd Ld ?_));obtain⟨x15,gx15,hE⟩:=bO hE;refine Scd rfl rfl (Z24_walk gx15) ?_;obtain⟨x16,gx16,hE⟩:=bO hE;refine DOps.s0 (catM rfl rfl gx16) rfl ?_;obtain⟨x17,gx17,hE⟩:=bO hE;refine DOps.s0 (catM rfl rfl gx17) rfl ?_;refine Sd Fv (Sd Ld ?_);obtain⟨x18,gx18,hE⟩:=bO hE;refine Scd rfl rfl (Z24_walk gx18) ?_;obtain⟨x19,gx19,hE⟩:=bO hE;refine DOps.s0 (catM rfl rfl gx19) rfl ?_
   obtain⟨x20,gx20,hE⟩:=bO hE;refine DOps.s0 (catM rfl rfl gx20) rfl ?_;refine Sd As ?_;refine DOps.nil (by decide +kernel) ?_;exact hK10 _ x20 Weak.toA hE
  refine AWp.skip ?_;exact hK10 _ s3_9 Weak.toA hE
 rintro s3_11 hE;try dsimp only at hE
 unfold Z11_j10 at hE;refine seqR (S Mv (S As (nil ?_)));exact rt hE
def Z29 (a0:Bs) (a1:Bs):Option Bool:=guardO ((decide (((a1.length:Nat):Int)<=((a0.length:Nat):Int)))) (subC ((a0.length:Nat):Int) ((a1.length:Nat):Int)) (0:Int) fun x5=>guardO ((decide (((a1.length:Nat):Int)<=((a0.length:Nat):Int)))) (cutC a0 (some x5) none) ([]:Bs) fun x6=>some ((decide (((a1.length:Nat):Int)<=((a0.length:Nat):Int)))&&((x6==a1)))
theorem Z29_walk {a0 a1:Bs}{r:Bool}(hE:Z29 a0 a1=some r) (H:Heap) :ACalls Tryz.prog 135 [.d (.str a0),.d (.str a1)] H fun v h'=>v=.a (.d (.bool r))/\h'=H:=by
 unfold Z29 at hE;refine ACalls.oW 21 [.tmp 4] Tryz.call135 Tryz.func135 ?_;refine seqR (S As (nil ?_));refine seqR (S Mv ?_);refine sLenS (TK rfl) rfl rfl rfl rfl fun hL3=>?_;refine S Mv ?_;refine sLenS (TK rfl) rfl rfl rfl rfl fun hL4=>?_;refine S BI (S Mv (G0 Mv (G0 Mv ?_)));refine gC rfl rfl (fun hC=>ungdA (k:=12) rfl (lenS (TK rfl) rfl rfl rfl)) rfl ?_;refine G0 Mv ?_;refine gC rfl rfl (fun hC=>ungdA (k:=14) rfl (lenS (TK rfl) rfl rfl rfl)) rfl ?_
 obtain⟨x5,gx5,hE⟩:=gO hE;refine gC rfl rfl (fun hC=>ungdA (k:=13) rfl (ungdA (k:=15) rfl (subM rfl rfl (gx5 hC)))) rfl ?_;obtain⟨x6,gx6,hE⟩:=gO hE;refine gC rfl rfl (fun hC=>ungdA (k:=11) rfl (ungdA (k:=16) rfl (cutM (l:=(some x5)) (r:=none) (TK rfl) rfl rfl rfl trivial (by simp) (gx6 hC)))) rfl ?_;refine G0 Mv ?_;refine G2 17 18 rfl rfl BS ?_;refine S PA (S As (nil ?_));exact rt hE
def Z139 (a0:Bs) (a1:Bs):Option Bool:=(Z29 a0 a1).bind fun x3=>some x3
theorem Z139_walk {a0 a1:Bs}{r:Bool}(hE:Z139 a0 a1=some r) (H:Heap) :ACalls Tryz.prog 67 [.d (.str a0),.d (.str a1)] H fun v h'=>v=.a (.d (.bool r))/\h'=H:=by
 unfold Z139 at hE;refine ACalls.oW 8 [.tmp 4] Tryz.call67 Tryz.func67 ?_;refine seqR (S As (nil ?_));refine seqR (S Mv (S Mv ?_));obtain⟨x3,gx3,hE⟩:=bO hE;refine Sc rfl rfl (Z29_walk gx3) ?_;refine S As (nil ?_);exact rt hE
def Z136 (a0:Bs) (a1:Bs):Option Bool:=none
theorem Z136_walk {a0 a1:Bs}{r:Bool}(hE:Z136 a0 a1=some r) (H:Heap) :ACalls Tryz.prog 68 [.d (.str a0),.d (.str a1)] H fun v h'=>v=.a (.d (.bool r))/\h'=H:=by cases hE
def Tryz.lay244_ren:Go.Shelf.Ren:=⟨fun|153=>244|152=>297|226=>298|227=>299|228=>300|137=>306|119=>338|224=>242|225=>241|217=>240|266=>295|n=>n,fun|9=>9|3=>3|4=>4|5=>5|21=>21|117=>331|116=>330|0=>0|46=>280|124=>365|n=>n,fun|n=>n⟩
theorem Tryz.lay244:Go.Proofs.Lays.n153 Tryz.prog Tryz.lay244_ren:={
 mixed:=by kernel_rfl
 f119:=Tryz.func338.trans (congrArg some (by kernel_rfl))
 f137:=Tryz.func306.trans (congrArg some (by kernel_rfl))
 f152:=Tryz.func297.trans (congrArg some (by kernel_rfl))
 f153:=Tryz.func244.trans (congrArg some (by kernel_rfl))
 f217:=Tryz.func240.trans (congrArg some (by kernel_rfl))
 f224:=Tryz.func242.trans (congrArg some (by kernel_rfl))
 f225:=Tryz.func241.trans (congrArg some (by kernel_rfl))
 f226:=Tryz.func298.trans (congrArg some (by kernel_rfl))
 f227:=Tryz.func299.trans (congrArg some (by kernel_rfl))
 f228:=Tryz.func300.trans (congrArg some (by kernel_rfl))
 f266:=Tryz.func295.trans (congrArg some (by kernel_rfl))
 t0:=Tryz.underlying0
 a0:=Tryz.isAgg0
 z0:=Tryz.sizeOf0
 v0:=Tryz.zeroValue0
 t3:=Tryz.underlying3
 a3:=Tryz.isAgg3
 z3:=Tryz.sizeOf3
 v3:=Tryz.zeroValue3
 t4:=Tryz.underlying4
 a4:=Tryz.isAgg4
 z4:=Tryz.sizeOf4
 v4:=Tryz.zeroValue4
 t5:=Tryz.underlying5
 a5:=Tryz.isAgg5
 z5:=Tryz.sizeOf5
 v5:=Tryz.zeroValue5
 t9:=Tryz.underlying9
 a9:=Tryz.isAgg9
 z9:=Tryz.sizeOf9
 v9:=Tryz.zeroValue9
 t21:=Tryz.underlying21
 a21:=Tryz.isAgg21
 z21:=Tryz.sizeOf21
 v21:=Tryz.zeroValue21
 t46:=Tryz.underlying280
 a46:=Tryz.isAgg280
 z46:=Tryz.sizeOf280
 v46:=Tryz.zeroValue280
 t116:=Tryz.underlying330
 a116:=Tryz.isAgg330
 z116:=Tryz.sizeOf330
 t117:=Tryz.underlying331
 a117:=Tryz.isAgg331
 z117:=Tryz.sizeOf331
 v117:=Tryz.zeroValue331
 t124:=Tryz.underlying365
 a124:=Tryz.isAgg365
 z124:=Tryz.sizeOf365
 v124:=Tryz.zeroValue365 }
def Z140 (s c:Bs):Option Int:=idxAnyC s c
theorem Z140_walk {a0 a1:Bs}{r:Int}(hE:Z140 a0 a1=some r) (H:Heap):ACalls Tryz.prog 244 [.d (.str a0),.d (.str a1)] H fun v h'=>v=.a (.d (.int .i64 r))/\h'=H:=idxAny_calls Tryz.lay244 (by kernel_rfl) hE rfl
def Z151_j2  (s1_3:Int):Option Int:=some s1_3
def Z151_j13 (a0:Bs) (s1_6:Int) (x12:UInt8) (k_next_5:Int->Option Int) (s14_14:Bool):Option Int:=bif s14_14 then((addC s1_6 (1:Int)).bind fun x16=>k_next_5 x16) else(bif (decide (((x12.toNat:Nat):Int)=(35:Int))) then((cutC a0 (some s1_6) none).bind fun x20=>(Z140 x20 ([10,13]:Bs)).bind fun x21=>bif (decide ((0:Int)<=x21)) then((addC s1_6 x21).bind fun x24=>k_next_5 x24) else(k_next_5 ((a0.length:Nat):Int))) else(some s1_6))
def Z151_l5 (a0:Bs) :Nat->Int->Option Int
 | 0,_=>none
 | n5+1,s1_6=>bif (decide (s1_6<((a0.length:Nat):Int))) then((idxC a0 s1_6).bind fun x12=>bif (decide (((x12.toNat:Nat):Int)=(32:Int))) then(Z151_j13 a0 s1_6 x12 ((Z151_l5 a0 n5)) (decide (((x12.toNat:Nat):Int)=(32:Int)))) else(bif (decide (((x12.toNat:Nat):Int)=(9:Int))) then(Z151_j13 a0 s1_6 x12 ((Z151_l5 a0 n5)) (decide (((x12.toNat:Nat):Int)=(9:Int)))) else(bif (decide (((x12.toNat:Nat):Int)=(10:Int))) then(Z151_j13 a0 s1_6 x12 ((Z151_l5 a0 n5)) (decide (((x12.toNat:Nat):Int)=(10:Int)))) else(bif (decide (((x12.toNat:Nat):Int)=(13:Int))) then(Z151_j13 a0 s1_6 x12 ((Z151_l5 a0 n5)) (decide (((x12.toNat:Nat):Int)=(13:Int)))) else(Z151_j13 a0 s1_6 x12 ((Z151_l5 a0 n5)) (decide (((x12.toNat:Nat):Int)=(44:Int)))))))) else(Z151_j2   s1_6)
def Z151 (a0:Bs) (a1:Int):Option Int:=Z151_l5 a0 F0 a1
theorem Z151_walk {a0:Bs}{a1 r:Int}(hE:Z151 a0 a1=some r) (H:Heap) :ACalls Tryz.prog 202 [.d (.str a0),.d (.int .i64 a1)] H fun v h'=>v=.a (.d (.int .i64 r))/\h'=H:=by
 unfold Z151 at hE;refine ACalls.oW 36 [.tmp 4] Tryz.call202 Tryz.func202 ?_;refine seqR (S As (nil ?_));refine seqJH KeepsT.nil (fun(z:Int)=>[(1,.a (.d (.int .i64 z)))]) (fun z=>H) (fun z=>Z151_j2 z=some r) ?_ ?_
 ·intro K2 hK2;refine block ?_;refine loopH (TA 0 KeepsT.nil) (fun(z:Nat×Int)=>[(1,.a (.d (.int .i64 z.2)))]) (fun z=>H) (fun z=>z.1) (fun z=>Z151_l5 a0 z.1 z.2=some r) (F0,a1) hE Weak.toA ?_;rintro ⟨n5,s1_6⟩ hE K5 hK5;try dsimp only at hE
  cases n5 with
  | zero=>cases hE
  | succ n5 =>
    rw [Z151_l5] at hE;refine seqK fun K7 hK7=>?_;refine seqR (S Mv (S Mv ?_));refine sLenS (TK rfl) rfl rfl rfl rfl fun hL9=>?_;refine S BI (nil ?_);refine cE hE (fun hc10 hE=>?_) (fun hc10 hE=>?_)
    ·refine sk hK7 ?_;clear hK7 K7;refine block ?_;refine seqR (S Mv (S Mv ?_));obtain⟨x12,gx12,hE⟩:=bO hE;refine s0 (idxS (TK rfl) rfl rfl rfl gx12) rfl ?_;refine nil ?_;refine block ?_;refine seqJH (TA 0 (TA 1 (TA 12 KeepsT.nil))) (fun(z:Bool)=>[(14,.a (.d (.bool z)))]) (fun z=>H) (fun z=>Z151_j13 a0 s1_6 x12 ((Z151_l5 a0 n5)) z=some r) ?_ ?_
     ·intro K13 hK13;refine seqR (S BI (S As (nil ?_)));refine cE hE (fun hc28 hE=>?_) (fun hc28 hE=>?_)
      ·refine AWp.skip ?_;exact hK13 _ (decide (((x12.toNat:Nat):Int)=(32:Int))) Weak.toA hE
      refine seqR (S BI (S As (nil ?_)));refine cE hE (fun hc30 hE=>?_) (fun hc30 hE=>?_)
      ·refine AWp.skip ?_;exact hK13 _ (decide (((x12.toNat:Nat):Int)=(9:Int))) Weak.toA hE
      refine seqR (S BI (S As (nil ?_)));refine cE hE (fun hc32 hE=>?_) (fun hc32 hE=>?_)
      ·refine AWp.skip ?_;exact hK13 _ (decide (((x12.toNat:Nat):Int)=(10:Int))) Weak.toA hE
      refine seqR (S BI (S As (nil ?_)));refine cE hE (fun hc34 hE=>?_) (fun hc34 hE=>?_)
      ·refine AWp.skip ?_;exact hK13 _ (decide (((x12.toNat:Nat):Int)=(13:Int))) Weak.toA hE
      refine region ?_;refine S BI (S As (nil ?_));exact hK13 _ (decide (((x12.toNat:Nat):Int)=(44:Int))) Weak.toA hE
     rintro s14_14 hE;try dsimp only at hE
     unfold Z151_j13 at hE;refine cE hE (fun hc15 hE=>?_) (fun hc15 hE=>?_)
     ·refine region ?_;refine S Mv ?_;obtain⟨x16,gx16,hE⟩:=bO hE;refine s0 (addM rfl rfl gx16) rfl ?_;refine S As (nil ?_);exact hK5 _ (n5,x16) Weak.toA hE (Nat.lt_succ_self _)
     refine seqR (S BI (S As (nil ?_)));refine cE hE (fun hc18 hE=>?_) (fun hc18 hE=>?_)
     ·refine seqR (S Mv (S Mv ?_));obtain⟨x20,gx20,hE⟩:=bO hE;refine s0 (cutM (l:=(some s1_6)) (r:=none) (TK rfl) rfl rfl rfl trivial (by simp) gx20) rfl ?_;obtain⟨x21,gx21,hE⟩:=bO hE;refine Sc rfl rfl (Z140_walk gx21) ?_;refine S As (nil ?_);refine seqR (S Mv (S BI (nil ?_)));refine cE hE (fun hc23 hE=>?_) (fun hc23 hE=>?_)
      ·refine region ?_;refine S Mv (S Mv ?_);obtain⟨x24,gx24,hE⟩:=bO hE;refine s0 (addM rfl rfl gx24) rfl ?_;refine S As (nil ?_);exact hK5 _ (n5,x24) Weak.toA hE (Nat.lt_succ_self _)
      refine region ?_;refine S Mv ?_;refine sLenS (TK rfl) rfl rfl rfl rfl fun hL25=>?_;refine S As (nil ?_);exact hK5 _ (n5,((a0.length:Nat):Int)) Weak.toA hE (Nat.lt_succ_self _)
     refine seqR (S Mv (S As (nil ?_)));exact rt hE
    refine AWp.exit ?_;exact hK2 _ s1_6 Weak.toA hE
 rintro s1_3 hE;try dsimp only at hE
 unfold Z151_j2 at hE;refine seqR (S Mv (S As (nil ?_)));exact rt hE
def Tryz.lay297_ren:Go.Shelf.Ren:=⟨fun|152=>297|137=>306|119=>338|224=>242|225=>241|217=>240|266=>295|n=>n,fun|9=>9|21=>21|3=>3|4=>4|5=>5|0=>0|46=>280|n=>n,fun|n=>n⟩
theorem Tryz.lay297:Go.Proofs.Lays.n152 Tryz.prog Tryz.lay297_ren:={
 mixed:=by kernel_rfl
 f119:=Tryz.func338.trans (congrArg some (by kernel_rfl))
 f137:=Tryz.func306.trans (congrArg some (by kernel_rfl))
 f152:=Tryz.func297.trans (congrArg some (by kernel_rfl))
 f217:=Tryz.func240.trans (congrArg some (by kernel_rfl))
 f224:=Tryz.func242.trans (congrArg some (by kernel_rfl))
 f225:=Tryz.func241.trans (congrArg some (by kernel_rfl))
 f266:=Tryz.func295.trans (congrArg some (by kernel_rfl))
 t0:=Tryz.underlying0
 a0:=Tryz.isAgg0
 z0:=Tryz.sizeOf0
 v0:=Tryz.zeroValue0
 t3:=Tryz.underlying3
 a3:=Tryz.isAgg3
 z3:=Tryz.sizeOf3
 v3:=Tryz.zeroValue3
 t4:=Tryz.underlying4
 a4:=Tryz.isAgg4
 z4:=Tryz.sizeOf4
 v4:=Tryz.zeroValue4
 t5:=Tryz.underlying5
 a5:=Tryz.isAgg5
 z5:=Tryz.sizeOf5
 v5:=Tryz.zeroValue5
 t9:=Tryz.underlying9
 a9:=Tryz.isAgg9
 z9:=Tryz.sizeOf9
 v9:=Tryz.zeroValue9
 t21:=Tryz.underlying21
 a21:=Tryz.isAgg21
 z21:=Tryz.sizeOf21
 v21:=Tryz.zeroValue21
 t46:=Tryz.underlying280
 a46:=Tryz.isAgg280
 z46:=Tryz.sizeOf280
 v46:=Tryz.zeroValue280 }
def Z141 (s:Bs) (r:Int):Option Int:=idxRuneC s r
theorem Z141_walk {a0:Bs}{a1 r:Int}(hE:Z141 a0 a1=some r) (H:Heap):ACalls Tryz.prog 297 [.d (.str a0),.d (.int .i32 a1)] H fun v h'=>v=.a (.d (.int .i64 r))/\h'=H:=idxRune_calls Tryz.lay297 hE rfl
def Z137 (a0:Bs) (a1:Int):Option Bool:=(Z141 a0 a1).bind fun x3=>some (decide ((0:Int)<=x3))
theorem Z137_walk {a0:Bs}{a1:Int}{r:Bool}(hE:Z137 a0 a1=some r) (H:Heap) :ACalls Tryz.prog 245 [.d (.str a0),.d (.int .i32 a1)] H fun v h'=>v=.a (.d (.bool r))/\h'=H:=by
 unfold Z137 at hE;refine ACalls.oW 9 [.tmp 4] Tryz.call245 Tryz.func245 ?_;refine seqR (S As (nil ?_));refine seqR (S Mv (S Mv ?_));obtain⟨x3,gx3,hE⟩:=bO hE;refine Sc rfl rfl (Z141_walk gx3) ?_;refine S BI (S As (nil ?_));exact rt hE
def Z28 (a0:Bs) (a1:Bs):Option Bool:=guardO ((decide (((a1.length:Nat):Int)<=((a0.length:Nat):Int)))) (cutC a0 none (some ((a1.length:Nat):Int))) ([]:Bs) fun x5=>some ((decide (((a1.length:Nat):Int)<=((a0.length:Nat):Int)))&&((x5==a1)))
theorem Z28_walk {a0 a1:Bs}{r:Bool}(hE:Z28 a0 a1=some r) (H:Heap) :ACalls Tryz.prog 301 [.d (.str a0),.d (.str a1)] H fun v h'=>v=.a (.d (.bool r))/\h'=H:=by
 unfold Z28 at hE;refine ACalls.oW 18 [.tmp 4] Tryz.call301 Tryz.func301 ?_;refine seqR (S As (nil ?_));refine seqR (S Mv ?_);refine sLenS (TK rfl) rfl rfl rfl rfl fun hL3=>?_;refine S Mv ?_;refine sLenS (TK rfl) rfl rfl rfl rfl fun hL4=>?_;refine S BI (S Mv (G0 Mv (G0 Mv ?_)));refine gC rfl rfl (fun hC=>ungdA (k:=12) rfl (lenS (TK rfl) rfl rfl rfl)) rfl ?_;obtain⟨x5,gx5,hE⟩:=gO hE;refine gC rfl rfl (fun hC=>ungdA (k:=11) rfl (ungdA (k:=13) rfl (cutM (l:=none) (r:=(some ((a1.length:Nat):Int))) (TK rfl) rfl rfl trivial rfl (by simp) (gx5 hC)))) rfl ?_
 refine G0 Mv ?_;refine G2 14 15 rfl rfl BS ?_;refine S PA (S As (nil ?_));exact rt hE
def Z138 (a0:Bs) (a1:Bs):Option Bool:=(Z28 a0 a1).bind fun x3=>some x3
theorem Z138_walk {a0 a1:Bs}{r:Bool}(hE:Z138 a0 a1=some r) (H:Heap) :ACalls Tryz.prog 246 [.d (.str a0),.d (.str a1)] H fun v h'=>v=.a (.d (.bool r))/\h'=H:=by
 unfold Z138 at hE;refine ACalls.oW 8 [.tmp 4] Tryz.call246 Tryz.func246 ?_;refine seqR (S As (nil ?_));refine seqR (S Mv (S Mv ?_));obtain⟨x3,gx3,hE⟩:=bO hE;refine Sc rfl rfl (Z28_walk gx3) ?_;refine S As (nil ?_);exact rt hE
def Z152_j2  (s1_3:Int):Option Int:=some s1_3
def Z152_l5 (a0:Bs) (a2:(Int->Option Bool)) :Nat->Int->Option Int
 | 0,_=>none
 | n5+1,s1_6=>guardO ((decide (s1_6<((a0.length:Nat):Int)))) (idxC a0 s1_6) (0:UInt8) fun x10=>guardO ((decide (s1_6<((a0.length:Nat):Int)))) (a2 (IntKind.wrap .i32 ((x10.toNat:Nat):Int))) false fun x11=>bif ((decide (s1_6<((a0.length:Nat):Int)))&&x11) then((addC s1_6 (1:Int)).bind fun x13=>(Z152_l5 a0 a2 n5) x13) else(Z152_j2   s1_6)
def Z152 (a0:Bs) (a1:Int) (a2:(Int->Option Bool)):Option Int:=Z152_l5 a0 a2 F0 a1
theorem Z152_walk {a0:Bs}{a1:Int}{a2:Int->Option Bool}{cl2:List D}{k2:Nat}{r:Int}(hE:Z152 a0 a1 a2=some r) (H:Heap) (hf2:∀x0 r,a2 x0=some r->∀H,ACalls Tryz.prog k2 ([.d (.int .i32 x0)]++cl2.map A.d) H fun v h'=>v=.a (.d (.bool r))/\h'=H):ACalls Tryz.prog 247 [.d (.str a0),.d (.int .i64 a1),.d (.func k2 cl2)] H fun v h'=>v=.a (.d (.int .i64 r))/\h'=H:=by
 unfold Z152 at hE;refine ACalls.oW 22 [.tmp 6] Tryz.call247 Tryz.func247 ?_;refine seqR (S As (nil ?_));refine seqJH KeepsT.nil (fun(z:Int)=>[(1,.a (.d (.int .i64 z)))]) (fun z=>H) (fun z=>Z152_j2 z=some r) ?_ ?_
 ·intro K2 hK2;refine block ?_;refine loopH (TA 0 (TA 2 KeepsT.nil)) (fun(z:Nat×Int)=>[(1,.a (.d (.int .i64 z.2)))]) (fun z=>H) (fun z=>z.1) (fun z=>Z152_l5 a0 a2 z.1 z.2=some r) (F0,a1) hE Weak.toA ?_;rintro ⟨n5,s1_6⟩ hE K5 hK5;try dsimp only at hE
  cases n5 with
  | zero=>cases hE
  | succ n5 =>
    rw [Z152_l5] at hE;refine seqK fun K7 hK7=>?_;refine seqR (S Mv (S Mv ?_));refine sLenS (TK rfl) rfl rfl rfl rfl fun hL9=>?_;refine S BI (S Mv (G0 Mv (G0 Mv (G0 Mv ?_))));obtain⟨x10,gx10,hE⟩:=gO hE;refine gC rfl rfl (fun hC=>ungdA (k:=13) rfl (ungdA (k:=14) rfl (idxS (TK rfl) rfl rfl rfl (gx10 hC)))) rfl ?_;refine gC rfl rfl (fun hC=>ungdA (k:=15) rfl (convI (TK rfl) (TK rfl) rfl rfl)) rfl ?_;obtain⟨x11,gx11,hE⟩:=gO hE
    refine gC rfl rfl (fun hC=>ungdA (k:=12) rfl (ungdA (k:=16) rfl (callP rfl rfl (hf2 _ _ (gx11 hC))))) rfl ?_;refine S PA (nil ?_);refine cE hE (fun hc12 hE=>?_) (fun hc12 hE=>?_)
    ·refine sk hK7 ?_;clear hK7 K7;refine block ?_;refine region ?_;refine S Mv ?_;obtain⟨x13,gx13,hE⟩:=bO hE;refine s0 (addM rfl rfl gx13) rfl ?_;refine S As (nil ?_);exact hK5 _ (n5,x13) Weak.toA hE (Nat.lt_succ_self _)
    refine AWp.exit ?_;exact hK2 _ s1_6 Weak.toA hE
 rintro s1_3 hE;try dsimp only at hE
 unfold Z152_j2 at hE;refine seqR (S Mv (S As (nil ?_)));exact rt hE
def Z148 (a0:Int):Option Bool:=some (((((decide ((97:Int)<=a0))&&(decide (a0<=(122:Int))))||((decide ((65:Int)<=a0))&&(decide (a0<=(90:Int)))))||((decide ((48:Int)<=a0))&&(decide (a0<=(57:Int)))))||(decide (a0=(95:Int))))
theorem Z148_walk {a0:Int}{r:Bool}(hE:Z148 a0=some r) (H:Heap) :ACalls Tryz.prog 248 [.d (.int .i32 a0)] H fun v h'=>v=.a (.d (.bool r))/\h'=H:=by
 unfold Z148 at hE;refine ACalls.oW 29 [.tmp 2] Tryz.call248 Tryz.func248 ?_;refine seqR (S As (nil ?_));refine seqR (S Mv (S BI (S Mv (G0 Mv ?_))));refine G1 6 rfl BI ?_;refine S PA (S Mv (G0 Mv ?_));refine G1 10 rfl BI ?_;refine G1 11 rfl Mv ?_;refine G0 Mv ?_;refine G1 13 rfl BI ?_;refine gC rfl rfl (fun hC=>ungdA (k:=12) rfl (pickAndA rfl rfl rfl)) rfl ?_;refine S PO (S Mv (G0 Mv ?_));refine G1 18 rfl BI ?_
 refine G1 19 rfl Mv ?_;refine G0 Mv ?_;refine G1 21 rfl BI ?_;refine gC rfl rfl (fun hC=>ungdA (k:=20) rfl (pickAndA rfl rfl rfl)) rfl ?_;refine S PO (S Mv (G0 Mv ?_));refine G1 26 rfl BI ?_;refine S PO (S As (nil ?_));exact rt hE
def Z144 (a0:Bs):Option (Int×Int):=none
theorem Z144_walk {a0:Bs}{r:Int×Int}(hE:Z144 a0=some r) (H:Heap) :ACalls Tryz.prog 249 [.d (.str a0)] H fun v h'=>v=.tup [.d (.int .i64 r.1),.d (.int .i64 r.2)]/\h'=H:=by cases hE
def Z149 (a0:Bs) (a1:Int):Option Int:=none
theorem Z149_walk {a0:Bs}{a1 r:Int}(hE:Z149 a0 a1=some r) (H:Heap) :ACalls Tryz.prog 250 [.d (.str a0),.d (.int .i64 a1)] H fun v h'=>v=.a (.d (.int .i64 r))/\h'=H:=by cases hE
def Z146 (a0:Bs):Option (Bs×Int):=none
theorem Z146_walk {a0:Bs}{r:Bs×Int}(hE:Z146 a0=some r) (H:Heap) :ACalls Tryz.prog 251 [.d (.str a0)] H fun v h'=>v=.tup [.d (.str r.1),.d (.int .i64 r.2)]/\h'=H:=by cases hE
end Go.Proofs
