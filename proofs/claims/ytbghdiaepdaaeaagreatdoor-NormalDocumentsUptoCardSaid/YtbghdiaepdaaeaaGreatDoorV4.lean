import Derived.Test.YtbghdiaepdaaeaaGreatDoorV3
set_option maxRecDepth 100000
set_option maxHeartbeats 2000000
set_option linter.unusedVariables false
set_option linter.unusedSimpArgs false
namespace Go.Proofs
open Go Go.Ab
open AOps Cert AWp Keeps KeepsT
variable {lou:Lou}
section
variable [IsLoud lou]
def Z29_j32  (s3_33:(Sl Bs)):Option Bs:=(Z111 s3_33 ([44,32]:Bs)).bind fun x35=>(catC ([91]:Bs) x35).bind fun x36=>(catC x36 ([93]:Bs)).bind fun x37=>some x37
def Z29_l40 (a0:Z11) (k_rec_133:Z11->Option Bs):Nat->(Sl Bs)->Nat->Option Bs
 | 0,_,_=>none
 | n40+1,s3_41,s40_42=>bif (decide (((s40_42:Nat):Int)<((a0.FItems.l.length:Nat):Int))) then((a0.FItems.l[s40_42]?).bind fun x48=>(k_rec_133 x48).bind fun x49=>(appC 16 s3_41 (⟨false,[x49]⟩:Sl Bs)).bind fun x50=>(Z29_l40 a0 k_rec_133 n40) x50 (s40_42+1)) else(Z29_j32   s3_41)
def Z29_j53  (s3_54:(Sl Bs)):Option Bs:=(Z111 s3_54 ([44,32]:Bs)).bind fun x56=>(catC ([123]:Bs) x56).bind fun x57=>(catC x57 ([125]:Bs)).bind fun x58=>some x58
def Z29_l62 (a0:Z11) (k_rec_133:Z11->Option Bs):Nat->(Sl Bs)->Int->Option Bs
 | 0,_,_=>none
 | n62+1,s3_63,s63_64=>bif (decide (s63_64<(if ((a0.FItems.l.length:Nat):Int)<((a0.FKeys.l.length:Nat):Int) then((a0.FItems.l.length:Nat):Int) else((a0.FKeys.l.length:Nat):Int)))) then((idxC a0.FKeys.l s63_64).bind fun x70=>(catC x70 ([58,32]:Bs)).bind fun x71=>(idxC a0.FItems.l s63_64).bind fun x72=>(k_rec_133 x72).bind fun x73=>(catC x71 x73).bind fun x74=>(appC 16 s3_63 (⟨false,[x74]⟩:Sl Bs)).bind fun x75=>(addC s63_64 (1:Int)).bind fun x76=>(Z29_l62 a0 k_rec_133 n62) x75 x76) else(Z29_j53   s3_63)
def Z29_n:Nat->Z11->Option Bs
 | 0,_=>none
 | n+1,a0=>bif (decide (a0.FKind=(0:Int))) then(some ([110,117,108,108]:Bs)) else(bif (decide (a0.FKind=(1:Int))) then(bif (decide (a0.FInt=(0:Int))) then(some ([102,97,108,115,101]:Bs)) else(some ([116,114,117,101]:Bs))) else(bif (decide (a0.FKind=(2:Int))) then((Z113 a0.FInt).bind fun x18=>some x18) else(bif (decide (a0.FKind=(3:Int))) then((Z115 a0.FText).bind fun x22=>some x22) else(bif (decide (a0.FKind=(4:Int))) then(some a0.FText) else(bif (decide (a0.FKind=(7:Int))) then((catC ([36]:Bs) a0.FText).bind fun x29=>some x29) else(bif (decide (a0.FKind=(5:Int))) then(Z29_l40 a0 (Z29_n n) (a0.FItems.l.length+1) (Sl.nil:Sl Bs) 0) else(bif (decide (a0.FKind=(6:Int))) then(Z29_l62 a0 (Z29_n n) F0 (Sl.nil:Sl Bs) (0:Int)) else(some ([]:Bs)))))))))
theorem Z29_step (n:Nat) (ih_133:∀{a0:Z11}{oT:Ab.Obj}{gT:Nat}{r:Bs},Z29_n n a0=some r->∀(H:Heap) (hgT:H gT=some oT) (hoT:IsTab Tryz.prog oT),AC Tryz.prog 133 [.agg (Z11.c a0)] H fun v h'=>v=.a (.d (.str r))/\h'=H):∀{a0:Z11}{oT:Ab.Obj}{gT:Nat}{r:Bs},Z29_n (n+1) a0=some r->∀(H:Heap) (hgT:H gT=some oT) (hoT:IsTab Tryz.prog oT),AC Tryz.prog 133 [.agg (Z11.c a0)] H fun v h'=>v=.a (.d (.str r))/\h'=H:=by
 intro a0 oT gT r hE H hgT hoT;rw [Z29_n] at hE;refine AC.oW 87 [.tmp 2] Tryz.call133 Tryz.func133 ?_;refine AWp.tok 1 fun tk1 htk1=>?_;have ne_tk1_gT:tk1≠gT:=fun e_=>by subst e_; simp_all
 refine seqR (S BX (S As (nil ?_)));refine seqR (S As (nil ?_));refine AWp.nilTok 3 1 tk1 rfl hpG ?_;refine seqK fun K3 hK3=>?_;refine seqR (S Fv (S Ld (nil ?_)));refine block ?_;refine seqR (S BI (S As (nil ?_)));refine cE hE (fun hc6 hE=>?_) (fun hc6 hE=>?_)
 ·refine seqR (S As (nil ?_));refine AWp.ret ?_;repeat (first|refine xBlock_ret ?_|refine xThen_ret ?_)
  obtain rfl:=oJ hE;refine retQ.retF H rfl ⟨rfl,rfl⟩ ?_
  first|exact Heap.sub_set htk1|(simp only [Heap.set_set]; exact Heap.sub_set htk1)
 refine seqR (S BI (S As (nil ?_)));refine cE hE (fun hc9 hE=>?_) (fun hc9 hE=>?_)
 ·refine seqK fun K10 hK10=>?_;refine seqR (S Fv (S Ld (S BI (nil ?_))));refine cE hE (fun hc12 hE=>?_) (fun hc12 hE=>?_)
  ·refine seqR (S As (nil ?_));refine AWp.ret ?_;repeat (first|refine xBlock_ret ?_|refine xThen_ret ?_)
   obtain rfl:=oJ hE;refine retQ.retF H rfl ⟨rfl,rfl⟩ ?_
   first|exact Heap.sub_set htk1|(simp only [Heap.set_set]; exact Heap.sub_set htk1)
  refine sk hK10 ?_;clear hK10 K10;refine seqR (S As (nil ?_));refine AWp.ret ?_;repeat (first|refine xBlock_ret ?_|refine xThen_ret ?_)
  obtain rfl:=oJ hE;refine retQ.retF H rfl ⟨rfl,rfl⟩ ?_
  first|exact Heap.sub_set htk1|(simp only [Heap.set_set]; exact Heap.sub_set htk1)
 refine seqR (S BI (S As (nil ?_)));refine cE hE (fun hc16 hE=>?_) (fun hc16 hE=>?_)
 ·refine seqR (S Fv (S Ld ?_));obtain⟨x18,gx18,hE⟩:=bO hE;refine s0 (callR rfl rfl (Z113_walk (gT:=gT) (oT:=oT) gx18 _ hpG (by assumption))) rfl ?_;refine S As (nil ?_);refine AWp.ret ?_;repeat (first|refine xBlock_ret ?_|refine xThen_ret ?_)
  obtain rfl:=oJ hE;refine retQ.retF H rfl ⟨rfl,rfl⟩ ?_
  first|exact Heap.sub_set htk1|(simp only [Heap.set_set]; exact Heap.sub_set htk1)
 refine seqR (S BI (S As (nil ?_)));refine cE hE (fun hc20 hE=>?_) (fun hc20 hE=>?_)
 ·refine seqR (S Fv (S Ld ?_));obtain⟨x22,gx22,hE⟩:=bO hE;refine Sc rfl rfl (Z115_walk gx22) ?_;refine S As (nil ?_);refine AWp.ret ?_;repeat (first|refine xBlock_ret ?_|refine xThen_ret ?_)
  obtain rfl:=oJ hE;refine retQ.retF H rfl ⟨rfl,rfl⟩ ?_
  first|exact Heap.sub_set htk1|(simp only [Heap.set_set]; exact Heap.sub_set htk1)
 refine seqR (S BI (S As (nil ?_)));refine cE hE (fun hc24 hE=>?_) (fun hc24 hE=>?_)
 ·refine seqR (S Fv (S Ld (S As (nil ?_))));refine AWp.ret ?_;repeat (first|refine xBlock_ret ?_|refine xThen_ret ?_)
  obtain rfl:=oJ hE;refine retQ.retF H rfl ⟨rfl,rfl⟩ ?_
  first|exact Heap.sub_set htk1|(simp only [Heap.set_set]; exact Heap.sub_set htk1)
 refine seqR (S BI (S As (nil ?_)));refine cE hE (fun hc27 hE=>?_) (fun hc27 hE=>?_)
 ·refine seqR (S Fv (S Ld ?_));obtain⟨x29,gx29,hE⟩:=bO hE;refine s0 (catM rfl rfl gx29) rfl ?_;refine S As (nil ?_);refine AWp.ret ?_;repeat (first|refine xBlock_ret ?_|refine xThen_ret ?_)
  obtain rfl:=oJ hE;refine retQ.retF H rfl ⟨rfl,rfl⟩ ?_
  first|exact Heap.sub_set htk1|(simp only [Heap.set_set]; exact Heap.sub_set htk1)
 refine seqR (S BI (S As (nil ?_)));refine cE hE (fun hc31 hE=>?_) (fun hc31 hE=>?_)
 ·refine seqJH kN (fun(z:(Sl Bs))=>[(3,.a (.d (Sl.d 1 strE (some tk1) z)))]) (fun z=>(H.set tk1 (some (.tok 1 z.l.length)))) (fun z=>Z29_j32 z=some r) ?_ ?_
  ·intro K32 hK32;refine seqR (S Fv ?_);refine s0 (loadV (TK rfl) rfl rfl (congrArg (fun x=>some (A.d x)) (Z11.FItemsD_eq _))) rfl ?_;refine sLen (f:=Z11.c) (s:=a0.FItems) (TK rfl) rfl rfl rfl rfl fun hL39=>?_;refine S Mv (nil ?_);refine block ?_;refine loopH (TA 38 (TA 39 kN)) (fun(z:Nat×(Sl Bs)×Nat)=>[(3,.a (.d (Sl.d 1 strE (some tk1) z.2.1))),(40,.a (.d (.int .i64 ((z.2.2:Nat):Int))))]) (fun z=>(H.set tk1 (some (.tok 1 z.2.1.l.length)))) (fun z=>z.1) (fun z=>Z29_l40 a0 (Z29_n n) z.1 z.2.1 z.2.2=some r) ((a0.FItems.l.length+1),(Sl.nil:Sl Bs),0) hE wA ?_
   rintro ⟨n40,s3_41,s40_42⟩ hE K40 hK40;try dsimp only at hE
   cases n40 with
   | zero=>cases hE
   | succ n40 =>
     rw [Z29_l40] at hE;refine seqR (S BI (nil ?_));refine seqK fun K44 hK44=>?_;refine cE hE (fun hc45 hE=>?_) (fun hc45 hE=>?_)
     ·try dsimp only at hc45
      have hf45:=oD hc45;refine sk hK44 ?_;clear hK44 K44;refine seqK fun K46 hK46=>?_;refine block ?_;refine seqR ?_;obtain⟨x48,gx48,hE⟩:=bO hE;refine S (ix Z11.c s40_42 gx48) (S Ld ?_);refine Sl ?_;refine Sf ?_;refine nil ?_;refine freezeA 5 _ rfl (KA 3 (KA 38 (KA 39 (KA 40 Keeps.nil)))) ?_;refine region ?_;refine S Mv (S Ld ?_);obtain⟨x49,gx49,hE⟩:=bO hE;refine s0 (callR rfl rfl (ih_133 (gT:=gT) (oT:=oT) gx49 _ hpG (by assumption))) rfl ?_
      refine S BV ?_;obtain⟨x50,gx50,hE⟩:=bO hE;refine SH (am strE (TK rfl) rfl (TK rfl) (TK rfl) gx50) ?_;refine hq (H.set tk1 (some (.tok 1 x50.l.length))) ?_;refine S As (nil ?_);refine hK46 _ ?_;clear hK46 K46;refine region ?_;refine SI ?_;refine S Mv (nil ?_);exact hK40 _ (n40,x50,(s40_42+1)) wA hE (nS _)
     refine AWp.exit ?_;exact hK32 _ s3_41 wA hE
  rintro s3_33 hE;try dsimp only at hE
  unfold Z29_j32 at hE;refine seqR (S Mv ?_);obtain⟨x35,gx35,hE⟩:=bO hE;refine Sc rfl rfl (Z111_walk gx35) ?_;obtain⟨x36,gx36,hE⟩:=bO hE;refine s0 (catM rfl rfl gx36) rfl ?_;obtain⟨x37,gx37,hE⟩:=bO hE;refine s0 (catM rfl rfl gx37) rfl ?_;refine S As (nil ?_);refine AWp.ret ?_;repeat (first|refine xBlock_ret ?_|refine xThen_ret ?_)
  obtain rfl:=oJ hE;refine retQ.retF H rfl ⟨rfl,rfl⟩ ?_
  first|exact Heap.sub_set htk1|(simp only [Heap.set_set]; exact Heap.sub_set htk1)
 refine seqR (S BI (S As (nil ?_)));refine cE hE (fun hc52 hE=>?_) (fun hc52 hE=>?_)
 ·refine seqJH kN (fun(z:(Sl Bs))=>[(3,.a (.d (Sl.d 1 strE (some tk1) z)))]) (fun z=>(H.set tk1 (some (.tok 1 z.l.length)))) (fun z=>Z29_j53 z=some r) ?_ ?_
  ·intro K53 hK53;refine seqR (S Fv (S Ld ?_));refine sLen (f:=strE) (s:=a0.FKeys) (TK rfl) rfl rfl rfl rfl fun hL60=>?_;refine S Fv ?_;refine s0 (loadV (TK rfl) rfl rfl (congrArg (fun x=>some (A.d x)) (Z11.FItemsD_eq _))) rfl ?_;refine sLen (f:=Z11.c) (s:=a0.FItems) (TK rfl) rfl rfl rfl rfl fun hL61=>?_;refine s0 (minM rfl rfl) rfl ?_;refine S Mv (nil ?_);refine block ?_;refine loopH (TA 1 (TA 62 kN)) (fun(z:Nat×(Sl Bs)×Int)=>[(3,.a (.d (Sl.d 1 strE (some tk1) z.2.1))),(63,.a (.d (.int .i64 z.2.2)))]) (fun z=>(H.set tk1 (some (.tok 1 z.2.1.l.length)))) (fun z=>z.1) (fun z=>Z29_l62 a0 (Z29_n n) z.1 z.2.1 z.2.2=some r) (F0,(Sl.nil:Sl Bs),(0:Int)) hE wA ?_
   rintro ⟨n62,s3_63,s63_64⟩ hE K62 hK62;try dsimp only at hE
   cases n62 with
   | zero=>cases hE
   | succ n62 =>
     rw [Z29_l62] at hE;refine seqR (S BI (nil ?_));refine seqK fun K66 hK66=>?_;refine cE hE (fun hc67 hE=>?_) (fun hc67 hE=>?_)
     ·refine sk hK66 ?_;clear hK66 K66;refine seqK fun K68 hK68=>?_;refine block ?_;refine seqR (S Mv (S As (nil ?_)));refine AWp.draw rfl ?_;refine Sd Mv (Sd Fv (Sd Ld (Sd Mv ?_)));obtain⟨x70,gx70,hE⟩:=bO hE;refine DOps.s0 (idxM (f:=strE) (TK rfl) rfl (TK rfl) rfl rfl rfl gx70) rfl ?_;refine Sd Ld ?_;obtain⟨x71,gx71,hE⟩:=bO hE;refine DOps.s0 (catM rfl rfl gx71) rfl ?_;refine Sd Fv ?_;refine DOps.s0 (loadV (TK rfl) rfl rfl (congrArg (fun x=>some (A.d x)) (Z11.FItemsD_eq _))) rfl ?_
      refine Sd Mv ?_;obtain⟨x72,gx72,hE⟩:=bO hE;refine DOps.s0 (idxM (f:=Z11.c) (TK rfl) rfl (TK rfl) rfl rfl rfl gx72) rfl ?_;refine Sd Ld ?_;obtain⟨x73,gx73,hE⟩:=bO hE;refine DOps.s0 (callR rfl rfl (ih_133 (gT:=gT) (oT:=oT) gx73 _ hpG (by assumption))) rfl ?_;obtain⟨x74,gx74,hE⟩:=bO hE;refine DOps.s0 (catM rfl rfl gx74) rfl ?_;refine Sd BV ?_;obtain⟨x75,gx75,hE⟩:=bO hE;refine DOps.sH (appM (f:=strE) (TK rfl) rfl (TK rfl) (TK rfl) ⟨_,rfl⟩ rfl rfl (by decide) rfl rfl rfl rfl hpG rfl gx75) rfl ?_
      refine DOps.Dh (H.set tk1 (some (.tok 1 x75.l.length))) ?_;refine Sd As ?_;refine DOps.nil (by decide +kernel) ?_;refine hK68 _ ?_;clear hK68 K68;refine region ?_;obtain⟨x76,gx76,hE⟩:=bO hE;refine s0 (addM rfl rfl gx76) rfl ?_;refine S Mv (nil ?_);exact hK62 _ (n62,x75,x76) wA hE (nS _)
     refine AWp.exit ?_;exact hK53 _ s3_63 wA hE
  rintro s3_54 hE;try dsimp only at hE
  unfold Z29_j53 at hE;refine seqR (S Mv ?_);obtain⟨x56,gx56,hE⟩:=bO hE;refine Sc rfl rfl (Z111_walk gx56) ?_;obtain⟨x57,gx57,hE⟩:=bO hE;refine s0 (catM rfl rfl gx57) rfl ?_;obtain⟨x58,gx58,hE⟩:=bO hE;refine s0 (catM rfl rfl gx58) rfl ?_;refine S As (nil ?_);refine AWp.ret ?_;repeat (first|refine xBlock_ret ?_|refine xThen_ret ?_)
  obtain rfl:=oJ hE;refine retQ.retF H rfl ⟨rfl,rfl⟩ ?_
  first|exact Heap.sub_set htk1|(simp only [Heap.set_set]; exact Heap.sub_set htk1)
 refine sk hK3 ?_;clear hK3 K3;refine seqR (S As (nil ?_));refine AWp.ret ?_;repeat (first|refine xBlock_ret ?_|refine xThen_ret ?_)
 obtain rfl:=oJ hE;refine retQ.retF H rfl ⟨rfl,rfl⟩ ?_
 first|exact Heap.sub_set htk1|(simp only [Heap.set_set]; exact Heap.sub_set htk1)
theorem Z29_all:∀(n:Nat),(∀{a0:Z11}{oT:Ab.Obj}{gT:Nat}{r:Bs},Z29_n n a0=some r->∀(H:Heap) (hgT:H gT=some oT) (hoT:IsTab Tryz.prog oT),AC Tryz.prog 133 [.agg (Z11.c a0)] H fun v h'=>v=.a (.d (.str r))/\h'=H)
 | 0=>fun hE=>by first|cases hE|(rw [Z29_n] at hE; cases hE)
 | n+1=>Z29_step n (Z29_all n)
def Z29 (a0:Z11):Option Bs:=Z29_n F0 a0
theorem Z29_walk {a0:Z11}{oT:Ab.Obj}{gT:Nat}{r:Bs}(hE:Z29 a0=some r) (H:Heap) (hgT:H gT=some oT) (hoT:IsTab Tryz.prog oT):AC Tryz.prog 133 [.agg (Z11.c a0)] H fun v h'=>v=.a (.d (.str r))/\h'=H:=(Z29_all F0) hE H hgT hoT
end
section
variable [IsLoud lou]
def Z19_j3  (s3_4:(Sl Bs)):Option Bs:=(Z111 s3_4 ([44,32]:Bs)).bind fun x6=>some x6
def Z19_l9 (a0:(Sl TArg)) :Nat->(Sl Bs)->Nat->Option Bs
 | 0,_,_=>none
 | n9+1,s3_10,s8_11=>bif (decide (((s8_11:Nat):Int)<((a0.l.length:Nat):Int))) then((a0.l[s8_11]?).bind fun x17=>(catC x17.FName ([58,32]:Bs)).bind fun x18=>(Z29 x17.FValue).bind fun x19=>(catC x18 x19).bind fun x20=>(appC 16 s3_10 (⟨false,[x20]⟩:Sl Bs)).bind fun x21=>(Z19_l9 a0 n9) x21 (s8_11+1)) else(Z19_j3   s3_10)
def Z19 (a0:(Sl TArg)):Option Bs:=Z19_l9 a0 (a0.l.length+1) (Sl.nil:Sl Bs) 0
theorem Z19_walk {a0:Sl TArg}{w0:Option Nat}{oT:Ab.Obj}{gT:Nat}{r:Bs}(hE:Z19 a0=some r) (H:Heap) (hgT:H gT=some oT) (hoT:IsTab Tryz.prog oT):AC Tryz.prog 78 [.d (Sl.d 6 TArg.c w0 a0)] H fun v h'=>v=.a (.d (.str r))/\h'=H:=by
 unfold Z19 at hE;refine AC.oW 25 [.tmp 2] Tryz.call78 Tryz.func78 ?_;refine AWp.tok 1 fun tk1 htk1=>?_;have ne_tk1_gT:tk1≠gT:=fun e_=>by subst e_; simp_all
 refine seqR (S As (nil ?_));refine seqR (S As (nil ?_));refine AWp.nilTok 3 1 tk1 rfl hpG ?_;refine seqJH kN (fun(z:(Sl Bs))=>[(3,.a (.d (Sl.d 1 strE (some tk1) z)))]) (fun z=>(H.set tk1 (some (.tok 1 z.l.length)))) (fun z=>Z19_j3 z=some r) ?_ ?_
 ·intro K3 hK3;refine seqR (S Mv ?_);refine sLen (f:=TArg.c) (s:=a0) (TK rfl) rfl rfl rfl rfl fun hL8=>?_;refine S Mv (nil ?_);refine block ?_;refine loopH (TA 6 (TA 7 kN)) (fun(z:Nat×(Sl Bs)×Nat)=>[(3,.a (.d (Sl.d 1 strE (some tk1) z.2.1))),(8,.a (.d (.int .i64 ((z.2.2:Nat):Int))))]) (fun z=>(H.set tk1 (some (.tok 1 z.2.1.l.length)))) (fun z=>z.1) (fun z=>Z19_l9 a0 z.1 z.2.1 z.2.2=some r) ((a0.l.length+1),(Sl.nil:Sl Bs),0) hE wA ?_
  rintro ⟨n9,s3_10,s8_11⟩ hE K9 hK9;try dsimp only at hE
  cases n9 with
  | zero=>cases hE
  | succ n9 =>
    rw [Z19_l9] at hE;refine seqR (S BI (nil ?_));refine seqK fun K13 hK13=>?_;refine cE hE (fun hc14 hE=>?_) (fun hc14 hE=>?_)
    ·try dsimp only at hc14
     have hf14:=oD hc14;refine sk hK13 ?_;clear hK13 K13;refine seqK fun K15 hK15=>?_;refine block ?_;refine seqR ?_;obtain⟨x17,gx17,hE⟩:=bO hE;refine S (ix TArg.c s8_11 gx17) (S Ld ?_);refine Sl ?_;refine Sf ?_;refine nil ?_;refine freezeA 5 _ rfl (KA 3 (KA 6 (KA 7 (KA 8 Keeps.nil)))) ?_;refine AWp.draw rfl ?_;refine Sd Mv (Sd Fv (Sd Ld ?_));obtain⟨x18,gx18,hE⟩:=bO hE;refine DOps.s0 (catM rfl rfl gx18) rfl ?_
     refine Sd Fv (Sd Ld ?_);obtain⟨x19,gx19,hE⟩:=bO hE;refine DOps.s0 (callR rfl rfl (Z29_walk (gT:=gT) (oT:=oT) gx19 _ hpG (by assumption))) rfl ?_;obtain⟨x20,gx20,hE⟩:=bO hE;refine DOps.s0 (catM rfl rfl gx20) rfl ?_;refine Sd BV ?_;obtain⟨x21,gx21,hE⟩:=bO hE;refine DOps.sH (appM (f:=strE) (TK rfl) rfl (TK rfl) (TK rfl) ⟨_,rfl⟩ rfl rfl (by decide) rfl rfl rfl rfl hpG rfl gx21) rfl ?_;refine DOps.Dh (H.set tk1 (some (.tok 1 x21.l.length))) ?_
     refine Sd As ?_;refine DOps.nil (by decide +kernel) ?_;refine hK15 _ ?_;clear hK15 K15;refine region ?_;refine SI ?_;refine S Mv (nil ?_);exact hK9 _ (n9,x21,(s8_11+1)) wA hE (nS _)
    refine AWp.exit ?_;exact hK3 _ s3_10 wA hE
 rintro s3_4 hE;try dsimp only at hE
 unfold Z19_j3 at hE;refine seqR (S Mv ?_);obtain⟨x6,gx6,hE⟩:=bO hE;refine Sc rfl rfl (Z111_walk gx6) ?_;refine S As (nil ?_);refine AWp.ret ?_;repeat (first|refine xBlock_ret ?_|refine xThen_ret ?_)
 obtain rfl:=oJ hE;refine retQ.retF H rfl ⟨rfl,rfl⟩ ?_
 first|exact Heap.sub_set htk1|(simp only [Heap.set_set]; exact Heap.sub_set htk1)
end
section
variable [IsLoud lou]
def Z59_j7  (y8_id3_3:Strings_Builder):Option Bs:=(Z107 y8_id3_3 ([32,125]:Bs)).bind fun x10=>(Z105 x10.2.2).bind fun x12=>some x12
def Z59_j21 (s9_16:Nat) (k_next_15:Nat->Strings_Builder->Option Bs) (y22_id3_3:Strings_Builder):Option Bs:=k_next_15 (s9_16+1) y22_id3_3
def Z59_j36 (s9_16:Nat) (x24:Z8) (k_next_15:Nat->Strings_Builder->Option Bs) (k_rec_37:(Sl Z8)->Option Bs) (y37_id3_3:Strings_Builder):Option Bs:=bif (decide ((0:Int)<((x24.FPicks.l.length:Nat):Int))) then((k_rec_37 x24.FPicks).bind fun x41=>(catC ([32]:Bs) x41).bind fun x42=>(Z107 y37_id3_3 x42).bind fun x43=>Z59_j21 s9_16 k_next_15 x43.2.2) else(Z59_j21 s9_16 k_next_15 y37_id3_3)
def Z59_j34 (s9_16:Nat) (x24:Z8) (k_next_15:Nat->Strings_Builder->Option Bs) (k_rec_37:(Sl Z8)->Option Bs) (y35_id3_3:Strings_Builder):Option Bs:=bif (!decide (x24.FInitial=(-1:Int))) then((Z113 x24.FInitial).bind fun x46=>(catC ([32,64,115,116,114,101,97,109,40]:Bs) x46).bind fun x47=>(catC x47 ([41]:Bs)).bind fun x48=>(Z107 y35_id3_3 x48).bind fun x49=>Z59_j36 s9_16 x24 k_next_15 k_rec_37 x49.2.2) else(Z59_j36 s9_16 x24 k_next_15 k_rec_37 y35_id3_3)
def Z59_j32 (s9_16:Nat) (x24:Z8) (k_next_15:Nat->Strings_Builder->Option Bs) (k_rec_37:(Sl Z8)->Option Bs) (y33_id3_3:Strings_Builder):Option Bs:=bif (!(x24.FLabel==([]:Bs))) then((Z115 x24.FLabel).bind fun x52=>(catC ([32,64,100,101,102,101,114,40]:Bs) x52).bind fun x53=>(catC x53 ([41]:Bs)).bind fun x54=>(Z107 y33_id3_3 x54).bind fun x55=>Z59_j34 s9_16 x24 k_next_15 k_rec_37 x55.2.2) else(Z59_j34 s9_16 x24 k_next_15 k_rec_37 y33_id3_3)
def Z59_l15 (a0:(Sl Z8)) (k_rec_37:(Sl Z8)->Option Bs):Nat->Nat->Strings_Builder->Option Bs
 | 0,_,_=>none
 | n15+1,s9_16,y17_id3_3=>bif (decide (((s9_16:Nat):Int)<((a0.l.length:Nat):Int))) then((a0.l[s9_16]?).bind fun x24=>(catC ([32]:Bs) x24.FOn).bind fun x26=>(catC x26 ([46]:Bs)).bind fun x27=>(catC x27 x24.FKey).bind fun x28=>(catC x28 ([58,32]:Bs)).bind fun x29=>(catC x29 x24.FName).bind fun x30=>(Z107 y17_id3_3 x30).bind fun x31=>bif (decide ((0:Int)<((x24.FArgs.l.length:Nat):Int))) then((Z19 x24.FArgs).bind fun x59=>(catC ([40]:Bs) x59).bind fun x60=>(catC x60 ([41]:Bs)).bind fun x61=>(Z107 x31.2.2 x61).bind fun x62=>Z59_j32 s9_16 x24 ((Z59_l15 a0 k_rec_37 n15)) k_rec_37 x62.2.2) else(Z59_j32 s9_16 x24 ((Z59_l15 a0 k_rec_37 n15)) k_rec_37 x31.2.2)) else(Z59_j7   y17_id3_3)
def Z59_n:Nat->(Sl Z8)->Option Bs
 | 0,_=>none
 | n+1,a0=>(Z107 Strings_Builder.zero ([123]:Bs)).bind fun x6=>Z59_l15 a0 (Z59_n n) (a0.l.length+1) 0 x6.2.2
theorem Z59_step (n:Nat) (ih_37:∀{a0:Sl Z8}{w0:Option Nat}{oT:Ab.Obj}{gT:Nat}{r:Bs},Z59_n n a0=some r->∀(H:Heap) (hgT:H gT=some oT) (hoT:IsTab Tryz.prog oT),AC Tryz.prog 37 [.d (Sl.d 9 Z8.c w0 a0)] H fun v h'=>v=.a (.d (.str r))/\h'=H):∀{a0:Sl Z8}{w0:Option Nat}{oT:Ab.Obj}{gT:Nat}{r:Bs},Z59_n (n+1) a0=some r->∀(H:Heap) (hgT:H gT=some oT) (hoT:IsTab Tryz.prog oT),AC Tryz.prog 37 [.d (Sl.d 9 Z8.c w0 a0)] H fun v h'=>v=.a (.d (.str r))/\h'=H:=by
 intro a0 w0 oT gT r hE H hgT hoT;rw [Z59_n] at hE;refine AC.oW 65 [.tmp 2] Tryz.call37 Tryz.func37 ?_;refine seqR (S As (nil ?_));refine seqR ?_;refine AOps.tokE 1 5 fun tk3_4 htk3_4=>?_;have ne_tk3_4_gT:tk3_4≠gT:=fun e_=>by subst e_; simp_all
 refine sE (StepE.allocT (TK rfl) rfl) rfl (fun _ _ _ ⟨id3_3,hid3_3,e1,e2,e3⟩=>?_); subst e1 e2 e3;obtain⟨ne_id3_3_tk3_4,hid3_3⟩:=Heap.set_fresh hid3_3;have ne_id3_3_gT:id3_3≠gT:=fun e_=>by subst e_; simp_all
 refine AOps.recellT id3_3 _ hpG (fun j w cs hh hx=>tok_cell 1 1 1 hh (t:=tk3_4) hpG hx rfl) ?_;refine hq ((H.set tk3_4 (some (.tok 1 0 (some 5)))).set id3_3 (some (.tcells 130 (Strings_Builder.cg id3_3 (some tk3_4) Strings_Builder.zero)))) ?_;refine nil ?_;refine seqR ?_;obtain⟨x6,gx6,hE⟩:=bO hE;refine sH (callH rfl rfl (Z107_walk gx6 _ hpG hpG)) rfl ?_;refine hq ((H.set tk3_4 (some (.tok 1 x6.2.2.Fbuf.l.length (some 5)))).set id3_3 (some (.tcells 130 (Strings_Builder.cg id3_3 (some tk3_4) x6.2.2)))) ?_
 refine nil ?_;refine seqJH (TA 3 kN) (fun(z:Strings_Builder)=>[]) (fun z=>((H.set tk3_4 (some (.tok 1 z.Fbuf.l.length (some 5)))).set id3_3 (some (.tcells 130 (Strings_Builder.cg id3_3 (some tk3_4) z))))) (fun z=>Z59_j7 z=some r) ?_ ?_
 ·intro K7 hK7;refine seqR (S Mv ?_);refine sLen (f:=Z8.c) (s:=a0) (TK rfl) rfl rfl rfl rfl fun hL14=>?_;refine S Mv (nil ?_);refine block ?_;refine loopH (TA 3 (TA 7 (TA 8 kN))) (fun(z:Nat×Nat×Strings_Builder)=>[(9,.a (.d (.int .i64 ((z.2.1:Nat):Int))))]) (fun z=>((H.set tk3_4 (some (.tok 1 z.2.2.Fbuf.l.length (some 5)))).set id3_3 (some (.tcells 130 (Strings_Builder.cg id3_3 (some tk3_4) z.2.2))))) (fun z=>z.1) (fun z=>Z59_l15 a0 (Z59_n n) z.1 z.2.1 z.2.2=some r) ((a0.l.length+1),0,x6.2.2) hE wA ?_
  rintro ⟨n15,s9_16,y17_id3_3⟩ hE K15 hK15;try dsimp only at hE
  cases n15 with
  | zero=>cases hE
  | succ n15 =>
    rw [Z59_l15] at hE;refine seqR (S BI (nil ?_));refine seqK fun K19 hK19=>?_;refine cE hE (fun hc20 hE=>?_) (fun hc20 hE=>?_)
    ·try dsimp only at hc20
     have hf20:=oD hc20;refine sk hK19 ?_;clear hK19 K19;refine seqJH (TA 3 (TA 7 (TA 8 (TA 9 kN)))) (fun(z:Strings_Builder)=>[]) (fun z=>((H.set tk3_4 (some (.tok 1 z.Fbuf.l.length (some 5)))).set id3_3 (some (.tcells 130 (Strings_Builder.cg id3_3 (some tk3_4) z))))) (fun z=>Z59_j21 s9_16 ((Z59_l15 a0 (Z59_n n) n15)) z=some r) ?_ ?_
     ·intro K21 hK21;refine block ?_;refine seqR ?_;obtain⟨x24,gx24,hE⟩:=bO hE;refine S (ix Z8.c s9_16 gx24) (S Ld ?_);refine Sl ?_;refine Sf ?_;refine nil ?_;refine freezeA 5 _ rfl (KA 3 (KA 7 (KA 8 (KA 9 Keeps.nil)))) ?_;refine seqR (S Fv (S Ld ?_));obtain⟨x26,gx26,hE⟩:=bO hE;refine s0 (catM rfl rfl gx26) rfl ?_;obtain⟨x27,gx27,hE⟩:=bO hE;refine s0 (catM rfl rfl gx27) rfl ?_;refine S Fv (S Ld ?_)
      obtain⟨x28,gx28,hE⟩:=bO hE;refine s0 (catM rfl rfl gx28) rfl ?_;obtain⟨x29,gx29,hE⟩:=bO hE;refine s0 (catM rfl rfl gx29) rfl ?_;refine S Fv (S Ld ?_);obtain⟨x30,gx30,hE⟩:=bO hE;refine s0 (catM rfl rfl gx30) rfl ?_;obtain⟨x31,gx31,hE⟩:=bO hE;refine sH (callH rfl rfl (Z107_walk gx31 _ hpG hpG)) rfl ?_;refine hq ((H.set tk3_4 (some (.tok 1 x31.2.2.Fbuf.l.length (some 5)))).set id3_3 (some (.tcells 130 (Strings_Builder.cg id3_3 (some tk3_4) x31.2.2)))) ?_
      refine nil ?_;refine seqJH (TA 3 (TA 5 (TA 7 (TA 8 (TA 9 kN))))) (fun(z:Strings_Builder)=>[]) (fun z=>((H.set tk3_4 (some (.tok 1 z.Fbuf.l.length (some 5)))).set id3_3 (some (.tcells 130 (Strings_Builder.cg id3_3 (some tk3_4) z))))) (fun z=>Z59_j32 s9_16 x24 ((Z59_l15 a0 (Z59_n n) n15)) (Z59_n n) z=some r) ?_ ?_
      ·intro K32 hK32;refine seqR (S Fv (S Ld ?_));refine sLen (f:=TArg.c) (s:=x24.FArgs) (TK rfl) rfl rfl rfl rfl fun hL57=>?_;refine S BI (nil ?_);refine cE hE (fun hc58 hE=>?_) (fun hc58 hE=>?_)
       ·refine region ?_;refine S Fv (S Ld ?_);obtain⟨x59,gx59,hE⟩:=bO hE;refine s0 (callR rfl rfl (Z19_walk (gT:=gT) (oT:=oT) gx59 _ hpG (by assumption))) rfl ?_;obtain⟨x60,gx60,hE⟩:=bO hE;refine s0 (catM rfl rfl gx60) rfl ?_;obtain⟨x61,gx61,hE⟩:=bO hE;refine s0 (catM rfl rfl gx61) rfl ?_;obtain⟨x62,gx62,hE⟩:=bO hE;refine sH (callH rfl rfl (Z107_walk gx62 _ hpG hpG)) rfl ?_;refine hq ((H.set tk3_4 (some (.tok 1 x62.2.2.Fbuf.l.length (some 5)))).set id3_3 (some (.tcells 130 (Strings_Builder.cg id3_3 (some tk3_4) x62.2.2)))) ?_
        refine nil ?_;exact hK32 _ x62.2.2 wA hE
       refine AWp.skip ?_;exact hK32 _ x31.2.2 wA hE
      rintro y33_id3_3 hE;try dsimp only at hE
      unfold Z59_j32 at hE;refine seqJH (TA 3 (TA 5 (TA 7 (TA 8 (TA 9 kN))))) (fun(z:Strings_Builder)=>[]) (fun z=>((H.set tk3_4 (some (.tok 1 z.Fbuf.l.length (some 5)))).set id3_3 (some (.tcells 130 (Strings_Builder.cg id3_3 (some tk3_4) z))))) (fun z=>Z59_j34 s9_16 x24 ((Z59_l15 a0 (Z59_n n) n15)) (Z59_n n) z=some r) ?_ ?_
      ·intro K34 hK34;refine seqR (S Fv (S Ld (S BS (nil ?_))));refine cE hE (fun hc51 hE=>?_) (fun hc51 hE=>?_)
       ·refine region ?_;refine S Fv (S Ld ?_);obtain⟨x52,gx52,hE⟩:=bO hE;refine Sc rfl rfl (Z115_walk gx52) ?_;obtain⟨x53,gx53,hE⟩:=bO hE;refine s0 (catM rfl rfl gx53) rfl ?_;obtain⟨x54,gx54,hE⟩:=bO hE;refine s0 (catM rfl rfl gx54) rfl ?_;obtain⟨x55,gx55,hE⟩:=bO hE;refine sH (callH rfl rfl (Z107_walk gx55 _ hpG hpG)) rfl ?_;refine hq ((H.set tk3_4 (some (.tok 1 x55.2.2.Fbuf.l.length (some 5)))).set id3_3 (some (.tcells 130 (Strings_Builder.cg id3_3 (some tk3_4) x55.2.2)))) ?_
        refine nil ?_;exact hK34 _ x55.2.2 wA hE
       refine AWp.skip ?_;exact hK34 _ y33_id3_3 wA hE
      rintro y35_id3_3 hE;try dsimp only at hE
      unfold Z59_j34 at hE;refine seqJH (TA 3 (TA 5 (TA 7 (TA 8 (TA 9 kN))))) (fun(z:Strings_Builder)=>[]) (fun z=>((H.set tk3_4 (some (.tok 1 z.Fbuf.l.length (some 5)))).set id3_3 (some (.tcells 130 (Strings_Builder.cg id3_3 (some tk3_4) z))))) (fun z=>Z59_j36 s9_16 x24 ((Z59_l15 a0 (Z59_n n) n15)) (Z59_n n) z=some r) ?_ ?_
      ·intro K36 hK36;refine seqR (S Fv (S Ld (S BI (nil ?_))));refine cE hE (fun hc45 hE=>?_) (fun hc45 hE=>?_)
       ·refine region ?_;refine S Fv (S Ld ?_);obtain⟨x46,gx46,hE⟩:=bO hE;refine s0 (callR rfl rfl (Z113_walk (gT:=gT) (oT:=oT) gx46 _ hpG (by assumption))) rfl ?_;obtain⟨x47,gx47,hE⟩:=bO hE;refine s0 (catM rfl rfl gx47) rfl ?_;obtain⟨x48,gx48,hE⟩:=bO hE;refine s0 (catM rfl rfl gx48) rfl ?_;obtain⟨x49,gx49,hE⟩:=bO hE;refine sH (callH rfl rfl (Z107_walk gx49 _ hpG hpG)) rfl ?_;refine hq ((H.set tk3_4 (some (.tok 1 x49.2.2.Fbuf.l.length (some 5)))).set id3_3 (some (.tcells 130 (Strings_Builder.cg id3_3 (some tk3_4) x49.2.2)))) ?_
        refine nil ?_;exact hK36 _ x49.2.2 wA hE
       refine AWp.skip ?_;exact hK36 _ y35_id3_3 wA hE
      rintro y37_id3_3 hE;try dsimp only at hE
      unfold Z59_j36 at hE;refine seqR (S Fv ?_);refine s0 (loadV (TK rfl) rfl rfl (congrArg (fun x=>some (A.d x)) (Z8.FPicksD_eq _))) rfl ?_;refine sLen (f:=Z8.c) (s:=x24.FPicks) (TK rfl) rfl rfl rfl rfl fun hL39=>?_;refine S BI (nil ?_);refine cE hE (fun hc40 hE=>?_) (fun hc40 hE=>?_)
      ·refine region ?_;refine S Fv ?_;refine s0 (loadV (TK rfl) rfl rfl (congrArg (fun x=>some (A.d x)) (Z8.FPicksD_eq _))) rfl ?_;obtain⟨x41,gx41,hE⟩:=bO hE;refine s0 (callR rfl rfl (ih_37 (gT:=gT) (oT:=oT) gx41 _ hpG (by assumption))) rfl ?_;obtain⟨x42,gx42,hE⟩:=bO hE;refine s0 (catM rfl rfl gx42) rfl ?_;obtain⟨x43,gx43,hE⟩:=bO hE;refine sH (callH rfl rfl (Z107_walk gx43 _ hpG hpG)) rfl ?_;refine hq ((H.set tk3_4 (some (.tok 1 x43.2.2.Fbuf.l.length (some 5)))).set id3_3 (some (.tcells 130 (Strings_Builder.cg id3_3 (some tk3_4) x43.2.2)))) ?_
       refine nil ?_;exact hK21 _ x43.2.2 wA hE
      refine AWp.skip ?_;exact hK21 _ y37_id3_3 wA hE
     rintro y22_id3_3 hE;try dsimp only at hE
     unfold Z59_j21 at hE;refine region ?_;refine SI ?_;refine S Mv (nil ?_);exact hK15 _ (n15,(s9_16+1),y22_id3_3) wA hE (nS _)
    refine AWp.exit ?_;exact hK7 _ y17_id3_3 wA hE
 rintro y8_id3_3 hE;try dsimp only at hE
 unfold Z59_j7 at hE;refine seqR ?_;obtain⟨x10,gx10,hE⟩:=bO hE;refine sH (callH rfl rfl (Z107_walk gx10 _ hpG hpG)) rfl ?_;refine hq ((H.set tk3_4 (some (.tok 1 x10.2.2.Fbuf.l.length (some 5)))).set id3_3 (some (.tcells 130 (Strings_Builder.cg id3_3 (some tk3_4) x10.2.2)))) ?_;refine nil ?_;refine seqR ?_;obtain⟨x12,gx12,hE⟩:=bO hE;refine sH (callH rfl rfl (Z105_walk gx12 _ hpG hpG)) rfl ?_;refine hq H ?_
 refine S As (nil ?_);exact rt hE
theorem Z59_all:∀(n:Nat),(∀{a0:Sl Z8}{w0:Option Nat}{oT:Ab.Obj}{gT:Nat}{r:Bs},Z59_n n a0=some r->∀(H:Heap) (hgT:H gT=some oT) (hoT:IsTab Tryz.prog oT),AC Tryz.prog 37 [.d (Sl.d 9 Z8.c w0 a0)] H fun v h'=>v=.a (.d (.str r))/\h'=H)
 | 0=>fun hE=>by first|cases hE|(rw [Z59_n] at hE; cases hE)
 | n+1=>Z59_step n (Z59_all n)
def Z59 (a0:(Sl Z8)):Option Bs:=Z59_n F0 a0
theorem Z59_walk {a0:Sl Z8}{w0:Option Nat}{oT:Ab.Obj}{gT:Nat}{r:Bs}(hE:Z59 a0=some r) (H:Heap) (hgT:H gT=some oT) (hoT:IsTab Tryz.prog oT):AC Tryz.prog 37 [.d (Sl.d 9 Z8.c w0 a0)] H fun v h'=>v=.a (.d (.str r))/\h'=H:=(Z59_all F0) hE H hgT hoT
end
section
variable [IsLoud lou]
def Z49_j4 (a0:Z9)  (s3_5:Bs):Option Bs:=(catC s3_5 ([32]:Bs)).bind fun x7=>(Z59 a0.FPicks).bind fun x8=>(catC x7 x8).bind fun x9=>some x9
def Z49 (a0:Z9):Option Bs:=(Z113 a0.FKind).bind fun x3=>(Z83 a0.FKind).bind fun x11=>bif (!(x11==([]:Bs))) then((Z112 x11).bind fun x14=>Z49_j4 a0  x14) else(Z49_j4 a0  x3)
theorem Z49_walk {a0:Z9}{oT:Ab.Obj}{gT:Nat}{r:Bs}(hE:Z49 a0=some r) (H:Heap) (hgT:H gT=some oT) (hoT:IsTab Tryz.prog oT):AC Tryz.prog 12 [.agg (Z9.c a0)] H fun v h'=>v=.a (.d (.str r))/\h'=H:=by
 unfold Z49 at hE;refine AC.oW 21 [.tmp 2] Tryz.call12 Tryz.func12 ?_;refine seqR (S BX (S As (nil ?_)));refine seqR (S Fv (S Ld ?_));obtain⟨x3,gx3,hE⟩:=bO hE;refine s0 (callR rfl rfl (Z113_walk (gT:=gT) (oT:=oT) gx3 _ hpG (by assumption))) rfl ?_;refine S As (nil ?_);refine seqJH (TA 1 kN) (fun(z:Bs)=>[(3,.a (.d (.str z)))]) (fun z=>H) (fun z=>Z49_j4 a0 z=some r) ?_ ?_
 ·intro K4 hK4;refine seqR (S Fv (S Ld ?_));obtain⟨x11,gx11,hE⟩:=bO hE;refine Sc rfl rfl (Z83_walk gx11) ?_;refine S As (nil ?_);refine seqR (S Mv (S BS (nil ?_)));refine cE hE (fun hc13 hE=>?_) (fun hc13 hE=>?_)
  ·refine region ?_;refine S Mv ?_;obtain⟨x14,gx14,hE⟩:=bO hE;refine Sc rfl rfl (Z112_walk gx14) ?_;refine S As (nil ?_);exact hK4 _ x14 wA hE
  refine AWp.skip ?_;exact hK4 _ x3 wA hE
 rintro s3_5 hE;try dsimp only at hE
 unfold Z49_j4 at hE;refine seqR (S Mv ?_);obtain⟨x7,gx7,hE⟩:=bO hE;refine s0 (catM rfl rfl gx7) rfl ?_;refine S Fv (S Ld ?_);obtain⟨x8,gx8,hE⟩:=bO hE;refine s0 (callR rfl rfl (Z59_walk (gT:=gT) (oT:=oT) gx8 _ hpG (by assumption))) rfl ?_;obtain⟨x9,gx9,hE⟩:=bO hE;refine s0 (catM rfl rfl gx9) rfl ?_;refine S As (nil ?_);exact rt hE
end
end Go.Proofs

namespace Go.Proofs
open Go Go.Ab
open AOps Cert AWp Keeps KeepsT
variable {lou:Lou}
def Z95_j8  :Option Bool:=some true
def Z95_l12 (a0:(Sl Z8)) (a1:(Sl Z8)) (a2:(Z8->Z8->Option Bool)) :Nat->Nat->Option Bool
 | 0,_=>none
 | n12+1,s17_13=>bif (decide (((s17_13:Nat):Int)<((a0.l.length:Nat):Int))) then((a0.l[s17_13]?).bind fun x19=>(a1.l[s17_13]?).bind fun x21=>(a2 x19 x21).bind fun x23=>bif (!x23) then(some false) else((Z95_l12 a0 a1 a2 n12) (s17_13+1))) else(Z95_j8   )
def Z95 (a0:(Sl Z8)) (a1:(Sl Z8)) (a2:(Z8->Z8->Option Bool)):Option Bool:=bif (!decide (((a0.l.length:Nat):Int)=((a1.l.length:Nat):Int))) then(some false) else(Z95_l12 a0 a1 a2 (a0.l.length+1) 0)
theorem Z95_walk {a0 a1:Sl Z8}{a2:Z8->Z8->Option Bool}{w0 w1:Option Nat}{cl2:List D}{k2:Nat}{r:Bool}(hE:Z95 a0 a1 a2=some r) (H:Heap) (hf2:∀x0 x1 r,a2 x0 x1=some r->∀H,AC Tryz.prog k2 ([.agg (Z8.c x0),.agg (Z8.c x1)]++cl2.map A.d) H fun v h'=>v=.a (.d (.bool r))/\h'=H):AC Tryz.prog 40 [.d (Sl.d 9 Z8.c w0 a0),.d (Sl.d 9 Z8.c w1 a1),.d (.func k2 cl2)] H fun v h'=>v=.a (.d (.bool r))/\h'=H:=by
 unfold Z95 at hE;refine AC.oW 32 [.tmp 6] Tryz.call40 Tryz.func40 ?_;refine seqR (S As (nil ?_));refine seqK fun K2 hK2=>?_;refine seqR (S Mv ?_);refine sLen (f:=Z8.c) (s:=a0) (TK rfl) rfl rfl rfl rfl fun hL4=>?_;refine S Mv ?_;refine sLen (f:=Z8.c) (s:=a1) (TK rfl) rfl rfl rfl rfl fun hL5=>?_;refine S BI (nil ?_);refine cE hE (fun hc6 hE=>?_) (fun hc6 hE=>?_)
 ·refine seqR (S As (nil ?_));exact rt hE
 refine sk hK2 ?_;clear hK2 K2;refine seqJH kN (fun(z:Unit)=>[]) (fun z=>H) (fun z=>Z95_j8 =some r) ?_ ?_
 ·intro K8 hK8;refine seqR (S Mv ?_);refine sLen (f:=Z8.c) (s:=a0) (TK rfl) rfl rfl rfl rfl fun hL11=>?_;refine S Mv (nil ?_);refine block ?_;refine loopH (TA 1 (TA 2 (TA 15 (TA 16 kN)))) (fun(z:Nat×Nat)=>[(17,.a (.d (.int .i64 ((z.2:Nat):Int))))]) (fun z=>H) (fun z=>z.1) (fun z=>Z95_l12 a0 a1 a2 z.1 z.2=some r) ((a0.l.length+1),0) hE wA ?_;rintro ⟨n12,s17_13⟩ hE K12 hK12;try dsimp only at hE
  cases n12 with
  | zero=>cases hE
  | succ n12 =>
    rw [Z95_l12] at hE;refine seqR (S BI (nil ?_));refine seqK fun K15 hK15=>?_;refine cE hE (fun hc16 hE=>?_) (fun hc16 hE=>?_)
    ·try dsimp only at hc16
     have hf16:=oD hc16;refine sk hK15 ?_;clear hK15 K15;refine seqK fun K17 hK17=>?_;refine block ?_;refine seqR (S Mv ?_);obtain⟨x19,gx19,hE⟩:=bO hE;refine S (ix Z8.c s17_13 gx19) (S Ld ?_);refine Sl ?_;refine S As ?_;refine Sf ?_;refine nil ?_;refine freezeA 8 _ rfl (KA 1 (KA 2 (KA 7 (KA 15 (KA 16 (KA 17 Keeps.nil)))))) ?_;refine seqR (S Mv (S Mv ?_));obtain⟨x21,gx21,hE⟩:=bO hE;refine S (ix Z8.c s17_13 gx21) (S Ld ?_)
     refine Sl ?_;refine Sf ?_;refine nil ?_;refine freezeA 9 _ rfl (KA 1 (KA 2 (KA 8 (KA 15 (KA 16 (KA 17 Keeps.nil)))))) ?_;refine seqR (S Mv (S Ld (S Ld ?_)));obtain⟨x23,gx23,hE⟩:=bO hE;refine s0 (callP rfl rfl (hf2 _ _ _ gx23)) rfl ?_;refine S NB (nil ?_);refine cE hE (fun hc24 hE=>?_) (fun hc24 hE=>?_)
     ·refine seqR (S As (nil ?_));exact rt hE
     refine sk hK17 ?_;clear hK17 K17;refine region ?_;refine SI ?_;refine S Mv (nil ?_);exact hK12 _ (n12,(s17_13+1)) wA hE (nS _)
    refine AWp.exit ?_;exact hK8 _ () wA hE
 rintro _ hE;try dsimp only at hE
 unfold Z95_j8 at hE;refine seqR (S As (nil ?_));exact rt hE
def Z94_j8  :Option Bool:=some true
def Z94_l12 (a0:(Sl TArg)) (a1:(Sl TArg)) (a2:(TArg->TArg->Option Bool)) :Nat->Nat->Option Bool
 | 0,_=>none
 | n12+1,s17_13=>bif (decide (((s17_13:Nat):Int)<((a0.l.length:Nat):Int))) then((a0.l[s17_13]?).bind fun x19=>(a1.l[s17_13]?).bind fun x21=>(a2 x19 x21).bind fun x23=>bif (!x23) then(some false) else((Z94_l12 a0 a1 a2 n12) (s17_13+1))) else(Z94_j8   )
def Z94 (a0:(Sl TArg)) (a1:(Sl TArg)) (a2:(TArg->TArg->Option Bool)):Option Bool:=bif (!decide (((a0.l.length:Nat):Int)=((a1.l.length:Nat):Int))) then(some false) else(Z94_l12 a0 a1 a2 (a0.l.length+1) 0)
theorem Z94_walk {a0 a1:Sl TArg}{a2:TArg->TArg->Option Bool}{w0 w1:Option Nat}{cl2:List D}{k2:Nat}{r:Bool}(hE:Z94 a0 a1 a2=some r) (H:Heap) (hf2:∀x0 x1 r,a2 x0 x1=some r->∀H,AC Tryz.prog k2 ([.agg (TArg.c x0),.agg (TArg.c x1)]++cl2.map A.d) H fun v h'=>v=.a (.d (.bool r))/\h'=H):AC Tryz.prog 43 [.d (Sl.d 6 TArg.c w0 a0),.d (Sl.d 6 TArg.c w1 a1),.d (.func k2 cl2)] H fun v h'=>v=.a (.d (.bool r))/\h'=H:=by
 unfold Z94 at hE;refine AC.oW 32 [.tmp 6] Tryz.call43 Tryz.func43 ?_;refine seqR (S As (nil ?_));refine seqK fun K2 hK2=>?_;refine seqR (S Mv ?_);refine sLen (f:=TArg.c) (s:=a0) (TK rfl) rfl rfl rfl rfl fun hL4=>?_;refine S Mv ?_;refine sLen (f:=TArg.c) (s:=a1) (TK rfl) rfl rfl rfl rfl fun hL5=>?_;refine S BI (nil ?_);refine cE hE (fun hc6 hE=>?_) (fun hc6 hE=>?_)
 ·refine seqR (S As (nil ?_));exact rt hE
 refine sk hK2 ?_;clear hK2 K2;refine seqJH kN (fun(z:Unit)=>[]) (fun z=>H) (fun z=>Z94_j8 =some r) ?_ ?_
 ·intro K8 hK8;refine seqR (S Mv ?_);refine sLen (f:=TArg.c) (s:=a0) (TK rfl) rfl rfl rfl rfl fun hL11=>?_;refine S Mv (nil ?_);refine block ?_;refine loopH (TA 1 (TA 2 (TA 15 (TA 16 kN)))) (fun(z:Nat×Nat)=>[(17,.a (.d (.int .i64 ((z.2:Nat):Int))))]) (fun z=>H) (fun z=>z.1) (fun z=>Z94_l12 a0 a1 a2 z.1 z.2=some r) ((a0.l.length+1),0) hE wA ?_;rintro ⟨n12,s17_13⟩ hE K12 hK12;try dsimp only at hE
  cases n12 with
  | zero=>cases hE
  | succ n12 =>
    rw [Z94_l12] at hE;refine seqR (S BI (nil ?_));refine seqK fun K15 hK15=>?_;refine cE hE (fun hc16 hE=>?_) (fun hc16 hE=>?_)
    ·try dsimp only at hc16
     have hf16:=oD hc16;refine sk hK15 ?_;clear hK15 K15;refine seqK fun K17 hK17=>?_;refine block ?_;refine seqR (S Mv ?_);obtain⟨x19,gx19,hE⟩:=bO hE;refine S (ix TArg.c s17_13 gx19) (S Ld ?_);refine Sl ?_;refine S As ?_;refine Sf ?_;refine nil ?_;refine freezeA 8 _ rfl (KA 1 (KA 2 (KA 7 (KA 15 (KA 16 (KA 17 Keeps.nil)))))) ?_;refine seqR (S Mv (S Mv ?_));obtain⟨x21,gx21,hE⟩:=bO hE
     refine S (ix TArg.c s17_13 gx21) (S Ld ?_);refine Sl ?_;refine Sf ?_;refine nil ?_;refine freezeA 9 _ rfl (KA 1 (KA 2 (KA 8 (KA 15 (KA 16 (KA 17 Keeps.nil)))))) ?_;refine seqR (S Mv (S Ld (S Ld ?_)));obtain⟨x23,gx23,hE⟩:=bO hE;refine s0 (callP rfl rfl (hf2 _ _ _ gx23)) rfl ?_;refine S NB (nil ?_);refine cE hE (fun hc24 hE=>?_) (fun hc24 hE=>?_)
     ·refine seqR (S As (nil ?_));exact rt hE
     refine sk hK17 ?_;clear hK17 K17;refine region ?_;refine SI ?_;refine S Mv (nil ?_);exact hK12 _ (n12,(s17_13+1)) wA hE (nS _)
    refine AWp.exit ?_;exact hK8 _ () wA hE
 rintro _ hE;try dsimp only at hE
 unfold Z94_j8 at hE;refine seqR (S As (nil ?_));exact rt hE
def Z48 (a0:TArg) (a1:TArg):Option Bool:=guardO (((a0.FName==a1.FName))) (Z130 a0.FValue a1.FValue) false fun x3=>some (((a0.FName==a1.FName))&&x3)
theorem Z48_walk {a0 a1:TArg}{r:Bool}(hE:Z48 a0 a1=some r) (H:Heap) :AC Tryz.prog 44 [.agg (TArg.c a0),.agg (TArg.c a1)] H fun v h'=>v=.a (.d (.bool r))/\h'=H:=by
 unfold Z48 at hE;refine AC.oW 17 [.tmp 4] Tryz.call44 Tryz.func44 ?_;refine seqR (S BX (S BX (S As (nil ?_))));refine seqR (S Fv (S Ld (S Fv (S Ld (S BS (S Mv (G0 Fv ?_)))))));refine G1 11 rfl Ld ?_;refine G0 Fv ?_;refine G1 13 rfl Ld ?_;obtain⟨x3,gx3,hE⟩:=gO hE;refine Gc2 12 14 rfl rfl rfl rfl rfl rfl (fun hC=>Z130_walk (gx3 hC)) ?_;refine S PA (S As (nil ?_));exact rt hE
mutual
def normal_Same_n:Nat->(Sl Z8)->(Sl Z8)->Option Bool
 | 0,_,_=>none
 | n+1,a0,a1=>(Z95 a0 a1 (fun y0 y1=>(Z47_n n) y0 y1)).bind fun x3=>some x3
def Z47_n:Nat->Z8->Z8->Option Bool
 | 0,_,_=>none
 | n+1,a0,a1=>guardO (!(((((!(a0.FKey==a1.FKey))||(!(a0.FOn==a1.FOn)))||(!(a0.FName==a1.FName)))||(!(a0.FLabel==a1.FLabel)))||(!decide (a0.FInitial=a1.FInitial)))) (Z123 a0.FType a1.FType) false fun x4=>bif ((((((!(a0.FKey==a1.FKey))||(!(a0.FOn==a1.FOn)))||(!(a0.FName==a1.FName)))||(!(a0.FLabel==a1.FLabel)))||(!decide (a0.FInitial=a1.FInitial)))||(!x4)) then(some false) else(((normal_Same_n n) a0.FPicks a1.FPicks).bind fun x8=>guardO (x8) (Z94 a0.FArgs a1.FArgs Z48) false fun x9=>some (x8&&x9))
end
theorem normal_Same_step (n:Nat) (ih_14:∀{a0 a1:Sl Z8}{w0 w1:Option Nat}{r:Bool},normal_Same_n n a0 a1=some r->∀(H:Heap),AC Tryz.prog 14 [.d (Sl.d 9 Z8.c w0 a0),.d (Sl.d 9 Z8.c w1 a1)] H fun v h'=>v=.a (.d (.bool r))/\h'=H) (ih_41:∀{a0 a1:Z8}{r:Bool},Z47_n n a0 a1=some r->∀(H:Heap),AC Tryz.prog 41 [.agg (Z8.c a0),.agg (Z8.c a1)] H fun v h'=>v=.a (.d (.bool r))/\h'=H):∀{a0 a1:Sl Z8}{w0 w1:Option Nat}{r:Bool},normal_Same_n (n+1) a0 a1=some r->∀(H:Heap),AC Tryz.prog 14 [.d (Sl.d 9 Z8.c w0 a0),.d (Sl.d 9 Z8.c w1 a1)] H fun v h'=>v=.a (.d (.bool r))/\h'=H:=by
 intro a0 a1 w0 w1  r hE H ;rw [normal_Same_n] at hE;refine AC.oW 8 [.tmp 4] Tryz.call14 Tryz.func14 ?_;refine seqR (S As (nil ?_));refine seqR (S Mv (S Mv ?_));obtain⟨x3,gx3,hE⟩:=bO hE;refine s0 (callP rfl rfl (fun H=>Z95_walk gx3 H (fun _ _ _ hx=>ih_41 hx))) rfl ?_;refine S As (nil ?_);exact rt hE
theorem Z47_step (n:Nat) (ih_14:∀{a0 a1:Sl Z8}{w0 w1:Option Nat}{r:Bool},normal_Same_n n a0 a1=some r->∀(H:Heap),AC Tryz.prog 14 [.d (Sl.d 9 Z8.c w0 a0),.d (Sl.d 9 Z8.c w1 a1)] H fun v h'=>v=.a (.d (.bool r))/\h'=H) (ih_41:∀{a0 a1:Z8}{r:Bool},Z47_n n a0 a1=some r->∀(H:Heap),AC Tryz.prog 41 [.agg (Z8.c a0),.agg (Z8.c a1)] H fun v h'=>v=.a (.d (.bool r))/\h'=H):∀{a0 a1:Z8}{r:Bool},Z47_n (n+1) a0 a1=some r->∀(H:Heap),AC Tryz.prog 41 [.agg (Z8.c a0),.agg (Z8.c a1)] H fun v h'=>v=.a (.d (.bool r))/\h'=H:=by
 intro a0 a1   r hE H ;rw [Z47_n] at hE;refine AC.oW 58 [.tmp 4] Tryz.call41 Tryz.func41 ?_;refine seqR (S BX (S BX (S As (nil ?_))));refine seqK fun K2 hK2=>?_;refine seqR (S Fv (S Ld (S Fv (S Ld (S BS (S Mv (G0 Fv ?_)))))));refine G1 11 rfl Ld ?_;refine G0 Fv ?_;refine G1 13 rfl Ld ?_;refine G2 12 14 rfl rfl BS ?_;refine S PO (S Mv (G0 Fv ?_));refine G1 18 rfl Ld ?_;refine G0 Fv ?_;refine G1 20 rfl Ld ?_
 refine G2 19 21 rfl rfl BS ?_;refine S PO (S Mv (G0 Fv ?_));refine G1 25 rfl Ld ?_;refine G0 Fv ?_;refine G1 27 rfl Ld ?_;refine G2 26 28 rfl rfl BS ?_;refine S PO (S Mv (G0 Fv ?_));refine G1 32 rfl Ld ?_;refine G0 Fv ?_;refine G1 34 rfl Ld ?_;refine G2 33 35 rfl rfl BI ?_;refine S PO (S Mv (G0 Fv ?_));refine G1 39 rfl Ld ?_;refine G0 Fv ?_;refine G1 41 rfl Ld ?_;obtain⟨x4,gx4,hE⟩:=gO hE;refine Gc2 40 42 rfl rfl rfl rfl rfl rfl (fun hC=>Z123_walk (gx4 hC)) ?_
 refine G1 43 rfl NB ?_;refine S PO (nil ?_);refine cE hE (fun hc5 hE=>?_) (fun hc5 hE=>?_)
 ·refine seqR (S As (nil ?_));exact rt hE
 refine sk hK2 ?_;clear hK2 K2;refine seqR (S Fv ?_);refine s0 (loadV (TK rfl) rfl rfl (congrArg (fun x=>some (A.d x)) (Z8.FPicksD_eq _))) rfl ?_;refine S Fv ?_;refine s0 (loadV (TK rfl) rfl rfl (congrArg (fun x=>some (A.d x)) (Z8.FPicksD_eq _))) rfl ?_;obtain⟨x8,gx8,hE⟩:=bO hE;refine Sc rfl rfl (ih_14 gx8) ?_;refine S Mv (G0 Fv ?_);refine G1 52 rfl Ld ?_;refine G0 Fv ?_;refine G1 54 rfl Ld ?_;obtain⟨x9,gx9,hE⟩:=gO hE
 refine gC rfl rfl (fun hC=>ungdA (k:=53) rfl (ungdA (k:=55) rfl (callP rfl rfl (fun H=>Z94_walk (gx9 hC) H (fun _ _ _ hx=>Z48_walk hx))))) rfl ?_;refine S PA (S As (nil ?_));exact rt hE
theorem normal_Same_all:∀(n:Nat),(∀{a0 a1:Sl Z8}{w0 w1:Option Nat}{r:Bool},normal_Same_n n a0 a1=some r->∀(H:Heap),AC Tryz.prog 14 [.d (Sl.d 9 Z8.c w0 a0),.d (Sl.d 9 Z8.c w1 a1)] H fun v h'=>v=.a (.d (.bool r))/\h'=H)/\(∀{a0 a1:Z8}{r:Bool},Z47_n n a0 a1=some r->∀(H:Heap),AC Tryz.prog 41 [.agg (Z8.c a0),.agg (Z8.c a1)] H fun v h'=>v=.a (.d (.bool r))/\h'=H)
 | 0=>⟨fun hE=>by first|cases hE|(rw [normal_Same_n] at hE; cases hE),fun hE=>by first|cases hE|(rw [Z47_n] at hE; cases hE)⟩
 | n+1=>⟨normal_Same_step n (normal_Same_all n).1 (normal_Same_all n).2,Z47_step n (normal_Same_all n).1 (normal_Same_all n).2⟩
def normal_Same (a0:(Sl Z8)) (a1:(Sl Z8)):Option Bool:=normal_Same_n F0 a0 a1
theorem normal_Same_walk {a0 a1:Sl Z8}{w0 w1:Option Nat}{r:Bool}(hE:normal_Same a0 a1=some r) (H:Heap) :AC Tryz.prog 14 [.d (Sl.d 9 Z8.c w0 a0),.d (Sl.d 9 Z8.c w1 a1)] H fun v h'=>v=.a (.d (.bool r))/\h'=H:=(normal_Same_all F0).1 hE H 
section
variable [IsLoud lou]
-- @uses supergraph/normal.Right
def Z43 (a0:Sl Z8):Option Int:=(normal_lv F0 (1:Int) a0.l).bind fun xs=>if xs.length<=4611686018427387904 then some ((xs.length:Nat):Int) else none
theorem Z43_in {j:J}{w:World}{s:Sl Z8}{v:Value}{xs:List Int}(hx:normal_lv F0 (1:Int) s.l=some xs) (hN:xs.length<=4611686018427387904) (hr:HRel j w hNone) (hv:DRel j w (Sl.d 9 Z8.c none s) v) :
  Calls Tryz.prog 15 #[v] w fun e w'=>e=.returned (.int .i64 ((xs.length:Nat):Int))/\RowKit.Below w.heap.size w w':=by
 refine(callsIn_wide (n:=3)).1 (callsIn_of_wp_marks Tryz.func15 rfl trivial ?_ rfl);have hs0:=start_rel (fn:=Tryz.f15) (n:=11) rfl (args:=[.d (Sl.d 9 Z8.c none s)]) (cargs:=[v]) rfl hr (.cons hv .nil);refine AWp.seqW (lou:=Lou.on) hs0 fun K hK=>?_;refine region ?_;refine S As ?_;refine nil ⟨rfl,hK _ fun j1 w1 jl1 a1 hs1 ev1=>?_⟩;clear hK K;refine AWp.seqW (lou:=Lou.on) hs1 fun K hK=>?_;refine region ?_
 refine Sl ?_;refine Sf ?_;refine nil ⟨rfl,hK _ fun j2 w2 jl2 a2 hs2 ev2=>?_⟩;clear hK K;refine wpIn_seq ?_;refine AWp.seqW (lou:=Lou.on) hs2 fun K hK=>?_;refine region ?_;refine S Mv ?_;refine s0 (callP rfl rfl (fun H=>normal_all_walk s 1 H)) rfl ?_;refine nil ⟨rfl,hK _ fun j3 w3 jl3 a3 hs3 ev3=>?_⟩;clear hK K;have hev:=(ev1.trans ev2).trans ev3;have hbl:RowKit.Below w.heap.size w w3:=hev.below fun b=>not_own
 refine wpIn_block ?_;obtain⟨b0,cs,te,hb0,ht3,hh3,hc3,hF3⟩:=hs3.loc (t:=3) (i:=0) rfl rfl;have hcs:cs=[.int .i64 0]:=by
  cases hc3 with
  | cons h ht=>cases ht; cases h; rfl
 subst hcs;have hb0n:w.heap.size<=b0:=hev.fresh (fun b=>not_own) (.inl (List.mem_of_getElem? hb0));have hlt3:b0<w3.heap.size:=lt_of_heap hh3;have hf:∃c1 c2,a3.eval (.tmp 5)=.func (.func 59) #[] #[c1,c2]/\DRel j3 w3 (.view [Sl.d 9 Z8.c none s]) c1/\DRel j3 w3 (.view [.int .i64 1]) c2:=by
  have h1:VRel j3 w3 jl3 (.a (.d (.func 59 [.view [Sl.d 9 Z8.c none s],.view [.int .i64 1]]))) (a3.eval (.tmp 5)):=hs3.tmps 5;generalize a3.eval (.tmp 5)=x at h1;have h2:DRel j3 w3 (.func 59 [.view [Sl.d 9 Z8.c none s],.view [.int .i64 1]]) x:=h1;cases h2 with
  | func _ _ cvs hl hr =>
   match cvs,hl with
   | [c1,c2],_=>exact⟨c1,c2,rfl,hr 0 (by simp) (by simp),hr 1 (by simp) (by simp)⟩
 obtain⟨c1,c2,e5,hd1,hd2⟩:=hf;have hsz:a3.tmps.size=11:=hs3.size;refine wpIn_rangeFunc_ownF rfl (Nat.le_add_left 1 2) e5 trivial (fun _ _=>Tryz.call59 _ _)
  (normal_all_stops (C:=[b0]) hs3.hl.1.fresh hx hd1 hd2 (by simp; exact⟨hlt3,hF3⟩) 2) (fun h k=>h.trans k) (fun W l o o' _ h1 h2 _=>.put W l o o' h1 h2) (RowKit.Below.refl _ _) (fun _=>rfl)
  (fun pre W=>(∃te,W.heap[b0]?=some (.cells #[.int .i64 ((pre.length:Nat):Int)] te (0,0)))/\Upto [b0] w3 W) (fun _ _ _=>False)
  (fun pre A B row hs hg hr=>⟨hs.1.imp fun te h=>(hg.block b0 (lt_of_heap h) (fun e=>by have:=(hr b0 e.symm).1; omega)).trans h,hs.2.grown hg fun r e=>(hr r e).1⟩)
  (fun _ _ _ _ _ h _ _=>h) ⟨⟨te,hh3⟩,.refl _ _⟩ (fun x=>{ tmps:=(a3.tmps.setIfInBounds 6 (.int .i64 x.1)).setIfInBounds 7 x.2,defers:=[] }) ?_ ?_ ?_ ?_
 ·intro l x W K hK;refine wpIn_skip ?_;show K _ W
  simpa using hK
 ·rintro l pre x W ⟨⟨te,hb⟩,hu⟩ hlen;refine wpIn_block (wpIn_region_lit ?_);have t3:({ tmps:=(a3.tmps.setIfInBounds 6 (.int .i64 x.1)).setIfInBounds 7 x.2,defers:=[] }:Act).tmps[3]?=some (.pointer (some ⟨b0,0,none⟩)):=by simp [Array.getElem?_setIfInBounds]; exact ht3
  have hF:∀f,(Fence.wide.inRound l).fn f:=fun _=>trivial;refine roundV hF rfl (by simp) (run_load1 (TK rfl) rfl rfl (eval_of t3) hb (d:=.int .i64 ((pre.length:Nat):Int)) (fun v'=>⟨fun h=>(by cases h; rfl),fun h=>(by subst h; exact .int _ _)⟩)) ?_;refine roundV hF rfl (by simp) (run_bin (m:=((pre.length:Nat):Int)) (n:=1) (r:=.int .i64 (((pre.length+1:Nat)):Int)) (v:=.int .i64 (((pre.length+1:Nat)):Int)) (k:=.i64) (eval_of (by rw [put_at _ (by simp [put_size,hsz])]; rfl)) rfl (by simp only [intV,Option.some.injEq,D.int.injEq,true_and]; simp only [IntKind.wrap,IntKind.bits,IntKind.signed]; simp; omega) (fun v' h=>by cases h; rfl)) ?_
  obtain⟨W',hr1,hu1⟩:=run_storeB (P:=Tryz.prog) (t:=3) (a:=((({ tmps:=(a3.tmps.setIfInBounds 6 (.int .i64 x.1)).setIfInBounds 7 x.2,defers:=[] }:Act).put (some 8) (.int .i64 ((pre.length:Nat):Int))).put (some 9) (.int .i64 (((pre.length+1:Nat)):Int)))) (x:=.tmp 3) (y:=.tmp 9) (v:=.int .i64 (((pre.length+1:Nat)):Int)) (TK rfl) rfl (eval_of (by rw [put_at _ (by simp [put_size,hsz]),if_neg (by decide),put_at _ (by simp [put_size,hsz]),if_neg (by decide)]; exact t3)) (eval_of (by rw [put_at _ (by simp [put_size,hsz])]; rfl)) hb (.int _ _)
  refine roundS hF rfl (by simp) hr1 ?_;refine wpListIn_nil ⟨hu1.keepsOthers hb rfl,hu1.keep (by simp),⟨te, ?_⟩,hu.upd hu1 (by simp)⟩;rw [hu1.here]; simp
 ·rintro D ys W hD hys ⟨⟨te,hb⟩,hu⟩ hK;show Code.wpIn _ _ _ _ _ _ _;refine wpIn_seq (wpIn_region_lit ?_);have hF:∀f,Fence.wide.fn f:=fun _=>trivial;have hd0:a3.defers=[]:=hs3.defers;have hly:ys.length=xs.length:=by rw [<- hys,List.length_map]
  rw [hly] at hb;refine roundV hF rfl (by simp) (run_load1 (TK rfl) rfl rfl (eval_of ht3) hb (d:=.int .i64 ((xs.length:Nat):Int)) (fun v'=>⟨fun h=>(by cases h; rfl),fun h=>(by subst h; exact .int _ _)⟩)) ?_;refine roundV hF rfl (by simp) (run_assign (v:=.int .i64 ((xs.length:Nat):Int)) (eval_of (by rw [put_at _ (by simp [hsz])]; rfl))) ?_;refine wpListIn_nil ?_;show Code.wpIn _ _ _ _ _ _ _;refine wpIn_ret ?_
  show LeavesInM _ _ _ _ _ _ _ _ _;rw [put_defers,put_defers];show LeavesInM _ _ _ _ _ _ ({ target:=.collected D,args:=#[] }::a3.defers) _ _;rw [hd0];refine⟨by simp,.inl ⟨_,_,rfl,run_takeDeferred hK, ?_⟩⟩;refine⟨_,results_tmp rfl _ _ _, ?_, ?_⟩
  ·have h9:((Act.put (Act.put { a3 with defers:={ target:=.collected D,args:=#[] }::a3.defers } (some 10) (.int .i64 ((xs.length:Nat):Int))) (some 2) (.int .i64 ((xs.length:Nat):Int))).tmps)[2]?=some (.int .i64 ((xs.length:Nat):Int)):=by rw [put_at _ (by simp [put_size,hsz])]; rfl
   have h8:=eval_of h9;exact congrArg Ending.returned h8
  have hB:=hu.below hbl (by simp; exact hb0n);refine hB.grown (grownBy_putObj' W D (.deferred none)) hB.size (fun k e=>by cases e; have:=hbl.size; omega)
 rintro D c pre W _ _ h _;exact h.elim
set_option maxRecDepth 100000 in
theorem Z43_walk {a0:Sl Z8}{w0:Option Nat}{r:Int}(hE:Z43 a0=some r) (H:Heap):AC Tryz.prog 15 [.d (Sl.d 9 Z8.c w0 a0)] H fun v h'=>v=.a (.d (.int .i64 r))/\h'=H:=by
 unfold Z43 at hE;obtain⟨xs,hx,hE⟩:=Option.bind_eq_some_iff.1 hE
 split at hE
 case isFalse=>cases hE
 rename_i hN
 obtain rfl:=oJ hE;refine⟨fun _ _=>Tryz.call15 _ _,fun j w c hr ha=>?_⟩;cases ha with
 | cons a1 ha =>
 cases ha;have h1:DRel j w (.slice 9 w0 a0.nl (a0.l.map Z8.c)) _:=a1;refine(Z43_in hx hN (hnone_rel hr.fresh).1 h1.untok).mono ?_;rintro e w' ⟨rfl,hb⟩;have hl:HL j w [] [] H:=⟨hr,⟨.nil,by simp,by simp⟩⟩;obtain⟨h5,h6⟩:=hl.below (lou:=lou) hb;exact⟨_,_,j,H,rfl,⟨rfl,rfl⟩,DRel.int _ _,h5.1,h6⟩
end
def Z72_j8  :Option Bool:=some true
def Z72_l11 (a0:(Sl TVar)) (a1:(Sl TVar)) :Nat->Nat->Option Bool
 | 0,_=>none
 | n11+1,s5_12=>bif (decide (((s5_12:Nat):Int)<((a0.l.length:Nat):Int))) then((a0.l[s5_12]?).bind fun x19=>(a1.l[s5_12]?).bind fun x20=>guardO (!(!(x19.FName==x20.FName))) (a0.l[s5_12]?) TVar.zero fun x21=>guardO (!(!(x19.FName==x20.FName))) (a1.l[s5_12]?) TVar.zero fun x22=>guardO (!((!(x19.FName==x20.FName))||(!(x21.FHas==x22.FHas)))) (a0.l[s5_12]?) TVar.zero fun x23=>guardO (!((!(x19.FName==x20.FName))||(!(x21.FHas==x22.FHas)))) (a1.l[s5_12]?) TVar.zero fun x24=>guardO (!((!(x19.FName==x20.FName))||(!(x21.FHas==x22.FHas)))) (Z66 x23.FType x24.FType) false fun x25=>guardO (!(((!(x19.FName==x20.FName))||(!(x21.FHas==x22.FHas)))||(!x25))) (a0.l[s5_12]?) TVar.zero fun x26=>guardO (!(((!(x19.FName==x20.FName))||(!(x21.FHas==x22.FHas)))||(!x25))) (a1.l[s5_12]?) TVar.zero fun x27=>guardO (!(((!(x19.FName==x20.FName))||(!(x21.FHas==x22.FHas)))||(!x25))) (Z61 x26.FDefault x27.FDefault) false fun x28=>bif ((((!(x19.FName==x20.FName))||(!(x21.FHas==x22.FHas)))||(!x25))||(!x28)) then(some false) else((Z72_l11 a0 a1 n11) (s5_12+1))) else(Z72_j8   )
def Z72 (a0:(Sl TVar)) (a1:(Sl TVar)):Option Bool:=bif (!decide (((a0.l.length:Nat):Int)=((a1.l.length:Nat):Int))) then(some false) else(Z72_l11 a0 a1 (a0.l.length+1) 0)
theorem Z72_walk {a0 a1:Sl TVar}{w0 w1:Option Nat}{r:Bool}(hE:Z72 a0 a1=some r) (H:Heap) :AC Tryz.prog 46 [.d (Sl.d 9 TVar.c w0 a0),.d (Sl.d 9 TVar.c w1 a1)] H fun v h'=>v=.a (.d (.bool r))/\h'=H:=by
 unfold Z72 at hE;refine AC.oW 69 [.tmp 4] Tryz.call46 Tryz.func46 ?_;refine seqR (S As (nil ?_));refine seqK fun K2 hK2=>?_;refine seqR (S Mv ?_);refine sLen (f:=TVar.c) (s:=a0) (TK rfl) rfl rfl rfl rfl fun hL4=>?_;refine S Mv ?_;refine sLen (f:=TVar.c) (s:=a1) (TK rfl) rfl rfl rfl rfl fun hL5=>?_;refine S BI (nil ?_);refine cE hE (fun hc6 hE=>?_) (fun hc6 hE=>?_)
 ·refine seqR (S As (nil ?_));exact rt hE
 refine sk hK2 ?_;clear hK2 K2;refine seqJH kN (fun(z:Unit)=>[]) (fun z=>H) (fun z=>Z72_j8 =some r) ?_ ?_
 ·intro K8 hK8;refine seqR (S As (nil ?_));refine block ?_;refine loopH (TA 0 (TA 1 kN)) (fun(z:Nat×Nat)=>[(5,.a (.d (.int .i64 ((z.2:Nat):Int))))]) (fun z=>H) (fun z=>z.1) (fun z=>Z72_l11 a0 a1 z.1 z.2=some r) ((a0.l.length+1),0) hE wA ?_;rintro ⟨n11,s5_12⟩ hE K11 hK11;try dsimp only at hE
  cases n11 with
  | zero=>cases hE
  | succ n11 =>
    rw [Z72_l11] at hE;refine seqK fun K13 hK13=>?_;refine seqR (S Mv (S Mv ?_));refine sLen (f:=TVar.c) (s:=a0) (TK rfl) rfl rfl rfl rfl fun hL15=>?_;refine S BI (nil ?_);refine cE hE (fun hc16 hE=>?_) (fun hc16 hE=>?_)
    ·try dsimp only at hc16
     have hf16:=oD hc16;refine sk hK13 ?_;clear hK13 K13;refine seqK fun K17 hK17=>?_;refine block ?_;refine AWp.seqD (Sd Mv (Sd Mv ?_));obtain⟨x19,gx19,hE⟩:=bO hE;refine Sd (ix TVar.c s5_12 gx19) (Sd Fv (Sd Ld (Sd Mv (Sd Mv ?_))));obtain⟨x20,gx20,hE⟩:=bO hE;refine Sd (ix TVar.c s5_12 gx20) (Sd Fv (Sd Ld (Sd BS (Sd Mv (G0d Mv (G0d Mv ?_))))));obtain⟨x21,gx21,hE⟩:=gO hE;refine DOps.gC rfl rfl (fun hC=>ungdA (k:=29) rfl (ungdA (k:=30) rfl (idxMn (f:=TVar.c) (n:=s5_12) (TK rfl) rfl (TK rfl) rfl rfl rfl (gx21 hC)))) rfl ?_
     refine G1d 31 rfl Fv ?_;refine G1d 32 rfl Ld ?_;refine G0d Mv (G0d Mv ?_);obtain⟨x22,gx22,hE⟩:=gO hE;refine DOps.gC rfl rfl (fun hC=>ungdA (k:=34) rfl (ungdA (k:=35) rfl (idxMn (f:=TVar.c) (n:=s5_12) (TK rfl) rfl (TK rfl) rfl rfl rfl (gx22 hC)))) rfl ?_;refine G1d 36 rfl Fv ?_;refine G1d 37 rfl Ld ?_;refine DOps.gC rfl rfl (fun hC=>ungdA (k:=33) rfl (ungdA (k:=38) rfl (neB (TK rfl) rfl rfl rfl))) rfl ?_
     refine Sd PO (Sd Mv (G0d Mv (G0d Mv ?_)));obtain⟨x23,gx23,hE⟩:=gO hE;refine DOps.gC rfl rfl (fun hC=>ungdA (k:=42) rfl (ungdA (k:=43) rfl (idxMn (f:=TVar.c) (n:=s5_12) (TK rfl) rfl (TK rfl) rfl rfl rfl (gx23 hC)))) rfl ?_;refine G1d 44 rfl Fv ?_;refine G1d 45 rfl Ld ?_;refine G0d Mv (G0d Mv ?_);obtain⟨x24,gx24,hE⟩:=gO hE;refine DOps.gC rfl rfl (fun hC=>ungdA (k:=47) rfl (ungdA (k:=48) rfl (idxMn (f:=TVar.c) (n:=s5_12) (TK rfl) rfl (TK rfl) rfl rfl rfl (gx24 hC)))) rfl ?_
     refine G1d 49 rfl Fv ?_;refine G1d 50 rfl Ld ?_;obtain⟨x25,gx25,hE⟩:=gO hE;refine Gc2d 46 51 rfl rfl rfl rfl rfl rfl (fun hC=>Z66_walk (gx25 hC)) ?_;refine G1d 52 rfl NB ?_;refine Sd PO (Sd Mv (G0d Mv (G0d Mv ?_)));obtain⟨x26,gx26,hE⟩:=gO hE;refine DOps.gC rfl rfl (fun hC=>ungdA (k:=56) rfl (ungdA (k:=57) rfl (idxMn (f:=TVar.c) (n:=s5_12) (TK rfl) rfl (TK rfl) rfl rfl rfl (gx26 hC)))) rfl ?_;refine G1d 58 rfl Fv ?_
     refine G1d 59 rfl Ld ?_;refine G0d Mv (G0d Mv ?_);obtain⟨x27,gx27,hE⟩:=gO hE;refine DOps.gC rfl rfl (fun hC=>ungdA (k:=61) rfl (ungdA (k:=62) rfl (idxMn (f:=TVar.c) (n:=s5_12) (TK rfl) rfl (TK rfl) rfl rfl rfl (gx27 hC)))) rfl ?_;refine G1d 63 rfl Fv ?_;refine G1d 64 rfl Ld ?_;obtain⟨x28,gx28,hE⟩:=gO hE;refine Gc2d 60 65 rfl rfl rfl rfl rfl rfl (fun hC=>Z61_walk (gx28 hC)) ?_;refine G1d 66 rfl NB ?_
     refine Sd PO ?_;refine DOps.nil (by decide +kernel) ?_;refine cE hE (fun hc29 hE=>?_) (fun hc29 hE=>?_)
     ·refine seqR (S As (nil ?_));exact rt hE
     refine sk hK17 ?_;clear hK17 K17;refine region ?_;refine S Mv ?_;refine SI ?_;refine S As (nil ?_);exact hK11 _ (n11,(s5_12+1)) wA hE (nS _)
    refine AWp.exit ?_;exact hK8 _ () wA hE
 rintro _ hE;try dsimp only at hE
 unfold Z72_j8 at hE;refine seqR (S As (nil ?_));exact rt hE
def Z69_j8  :Option Bool:=some true
def Z69_l11 (a0:(Sl TArg)) (a1:(Sl TArg)) :Nat->Nat->Option Bool
 | 0,_=>none
 | n11+1,s5_12=>bif (decide (((s5_12:Nat):Int)<((a0.l.length:Nat):Int))) then((a0.l[s5_12]?).bind fun x19=>(a1.l[s5_12]?).bind fun x20=>guardO (!(!(x19.FName==x20.FName))) (a0.l[s5_12]?) TArg.zero fun x21=>guardO (!(!(x19.FName==x20.FName))) (a1.l[s5_12]?) TArg.zero fun x22=>guardO (!(!(x19.FName==x20.FName))) (Z61 x21.FValue x22.FValue) false fun x23=>bif ((!(x19.FName==x20.FName))||(!x23)) then(some false) else((Z69_l11 a0 a1 n11) (s5_12+1))) else(Z69_j8   )
def Z69 (a0:(Sl TArg)) (a1:(Sl TArg)):Option Bool:=bif (!decide (((a0.l.length:Nat):Int)=((a1.l.length:Nat):Int))) then(some false) else(Z69_l11 a0 a1 (a0.l.length+1) 0)
theorem Z69_walk {a0 a1:Sl TArg}{w0 w1:Option Nat}{r:Bool}(hE:Z69 a0 a1=some r) (H:Heap) :AC Tryz.prog 85 [.d (Sl.d 6 TArg.c w0 a0),.d (Sl.d 6 TArg.c w1 a1)] H fun v h'=>v=.a (.d (.bool r))/\h'=H:=by
 unfold Z69 at hE;refine AC.oW 42 [.tmp 4] Tryz.call85 Tryz.func85 ?_;refine seqR (S As (nil ?_));refine seqK fun K2 hK2=>?_;refine seqR (S Mv ?_);refine sLen (f:=TArg.c) (s:=a0) (TK rfl) rfl rfl rfl rfl fun hL4=>?_;refine S Mv ?_;refine sLen (f:=TArg.c) (s:=a1) (TK rfl) rfl rfl rfl rfl fun hL5=>?_;refine S BI (nil ?_);refine cE hE (fun hc6 hE=>?_) (fun hc6 hE=>?_)
 ·refine seqR (S As (nil ?_));exact rt hE
 refine sk hK2 ?_;clear hK2 K2;refine seqJH kN (fun(z:Unit)=>[]) (fun z=>H) (fun z=>Z69_j8 =some r) ?_ ?_
 ·intro K8 hK8;refine seqR (S As (nil ?_));refine block ?_;refine loopH (TA 0 (TA 1 kN)) (fun(z:Nat×Nat)=>[(5,.a (.d (.int .i64 ((z.2:Nat):Int))))]) (fun z=>H) (fun z=>z.1) (fun z=>Z69_l11 a0 a1 z.1 z.2=some r) ((a0.l.length+1),0) hE wA ?_;rintro ⟨n11,s5_12⟩ hE K11 hK11;try dsimp only at hE
  cases n11 with
  | zero=>cases hE
  | succ n11 =>
    rw [Z69_l11] at hE;refine seqK fun K13 hK13=>?_;refine seqR (S Mv (S Mv ?_));refine sLen (f:=TArg.c) (s:=a0) (TK rfl) rfl rfl rfl rfl fun hL15=>?_;refine S BI (nil ?_);refine cE hE (fun hc16 hE=>?_) (fun hc16 hE=>?_)
    ·try dsimp only at hc16
     have hf16:=oD hc16;refine sk hK13 ?_;clear hK13 K13;refine seqK fun K17 hK17=>?_;refine block ?_;refine AWp.seqD (Sd Mv (Sd Mv ?_));obtain⟨x19,gx19,hE⟩:=bO hE;refine Sd (ix TArg.c s5_12 gx19) (Sd Fv (Sd Ld (Sd Mv (Sd Mv ?_))));obtain⟨x20,gx20,hE⟩:=bO hE;refine Sd (ix TArg.c s5_12 gx20) (Sd Fv (Sd Ld (Sd BS (Sd Mv (G0d Mv (G0d Mv ?_))))));obtain⟨x21,gx21,hE⟩:=gO hE;refine DOps.gC rfl rfl (fun hC=>ungdA (k:=29) rfl (ungdA (k:=30) rfl (idxMn (f:=TArg.c) (n:=s5_12) (TK rfl) rfl (TK rfl) rfl rfl rfl (gx21 hC)))) rfl ?_
     refine G1d 31 rfl Fv ?_;refine G1d 32 rfl Ld ?_;refine G0d Mv (G0d Mv ?_);obtain⟨x22,gx22,hE⟩:=gO hE;refine DOps.gC rfl rfl (fun hC=>ungdA (k:=34) rfl (ungdA (k:=35) rfl (idxMn (f:=TArg.c) (n:=s5_12) (TK rfl) rfl (TK rfl) rfl rfl rfl (gx22 hC)))) rfl ?_;refine G1d 36 rfl Fv ?_;refine G1d 37 rfl Ld ?_;obtain⟨x23,gx23,hE⟩:=gO hE;refine Gc2d 33 38 rfl rfl rfl rfl rfl rfl (fun hC=>Z61_walk (gx23 hC)) ?_
     refine G1d 39 rfl NB ?_;refine Sd PO ?_;refine DOps.nil (by decide +kernel) ?_;refine cE hE (fun hc24 hE=>?_) (fun hc24 hE=>?_)
     ·refine seqR (S As (nil ?_));exact rt hE
     refine sk hK17 ?_;clear hK17 K17;refine region ?_;refine S Mv ?_;refine SI ?_;refine S As (nil ?_);exact hK11 _ (n11,(s5_12+1)) wA hE (nS _)
    refine AWp.exit ?_;exact hK8 _ () wA hE
 rintro _ hE;try dsimp only at hE
 unfold Z69_j8 at hE;refine seqR (S As (nil ?_));exact rt hE
end Go.Proofs

namespace Go.Proofs
open Go Go.Ab
open AOps Cert AWp Keeps KeepsT
variable {lou:Lou}
def Z70_j8  :Option Bool:=some true
def Z70_l11 (a0:(Sl TDir)) (a1:(Sl TDir)) :Nat->Nat->Option Bool
 | 0,_=>none
 | n11+1,s5_12=>bif (decide (((s5_12:Nat):Int)<((a0.l.length:Nat):Int))) then((a0.l[s5_12]?).bind fun x19=>(a1.l[s5_12]?).bind fun x20=>guardO (!(!(x19.FName==x20.FName))) (a0.l[s5_12]?) TDir.zero fun x21=>guardO (!(!(x19.FName==x20.FName))) (a1.l[s5_12]?) TDir.zero fun x22=>guardO (!(!(x19.FName==x20.FName))) (Z69 x21.FArgs x22.FArgs) false fun x23=>bif ((!(x19.FName==x20.FName))||(!x23)) then(some false) else((Z70_l11 a0 a1 n11) (s5_12+1))) else(Z70_j8   )
def Z70 (a0:(Sl TDir)) (a1:(Sl TDir)):Option Bool:=bif (!decide (((a0.l.length:Nat):Int)=((a1.l.length:Nat):Int))) then(some false) else(Z70_l11 a0 a1 (a0.l.length+1) 0)
theorem Z70_walk {a0 a1:Sl TDir}{w0 w1:Option Nat}{r:Bool}(hE:Z70 a0 a1=some r) (H:Heap) :AC Tryz.prog 86 [.d (Sl.d 2 TDir.c w0 a0),.d (Sl.d 2 TDir.c w1 a1)] H fun v h'=>v=.a (.d (.bool r))/\h'=H:=by
 unfold Z70 at hE;refine AC.oW 42 [.tmp 4] Tryz.call86 Tryz.func86 ?_;refine seqR (S As (nil ?_));refine seqK fun K2 hK2=>?_;refine seqR (S Mv ?_);refine sLen (f:=TDir.c) (s:=a0) (TK rfl) rfl rfl rfl rfl fun hL4=>?_;refine S Mv ?_;refine sLen (f:=TDir.c) (s:=a1) (TK rfl) rfl rfl rfl rfl fun hL5=>?_;refine S BI (nil ?_);refine cE hE (fun hc6 hE=>?_) (fun hc6 hE=>?_)
 ·refine seqR (S As (nil ?_));exact rt hE
 refine sk hK2 ?_;clear hK2 K2;refine seqJH kN (fun(z:Unit)=>[]) (fun z=>H) (fun z=>Z70_j8 =some r) ?_ ?_
 ·intro K8 hK8;refine seqR (S As (nil ?_));refine block ?_;refine loopH (TA 0 (TA 1 kN)) (fun(z:Nat×Nat)=>[(5,.a (.d (.int .i64 ((z.2:Nat):Int))))]) (fun z=>H) (fun z=>z.1) (fun z=>Z70_l11 a0 a1 z.1 z.2=some r) ((a0.l.length+1),0) hE wA ?_;rintro ⟨n11,s5_12⟩ hE K11 hK11;try dsimp only at hE
  cases n11 with
  | zero=>cases hE
  | succ n11 =>
    rw [Z70_l11] at hE;refine seqK fun K13 hK13=>?_;refine seqR (S Mv (S Mv ?_));refine sLen (f:=TDir.c) (s:=a0) (TK rfl) rfl rfl rfl rfl fun hL15=>?_;refine S BI (nil ?_);refine cE hE (fun hc16 hE=>?_) (fun hc16 hE=>?_)
    ·try dsimp only at hc16
     have hf16:=oD hc16;refine sk hK13 ?_;clear hK13 K13;refine seqK fun K17 hK17=>?_;refine block ?_;refine AWp.seqD (Sd Mv (Sd Mv ?_));obtain⟨x19,gx19,hE⟩:=bO hE;refine Sd (ix TDir.c s5_12 gx19) (Sd Fv (Sd Ld (Sd Mv (Sd Mv ?_))));obtain⟨x20,gx20,hE⟩:=bO hE;refine Sd (ix TDir.c s5_12 gx20) (Sd Fv (Sd Ld (Sd BS (Sd Mv (G0d Mv (G0d Mv ?_))))));obtain⟨x21,gx21,hE⟩:=gO hE;refine DOps.gC rfl rfl (fun hC=>ungdA (k:=29) rfl (ungdA (k:=30) rfl (idxMn (f:=TDir.c) (n:=s5_12) (TK rfl) rfl (TK rfl) rfl rfl rfl (gx21 hC)))) rfl ?_
     refine G1d 31 rfl Fv ?_;refine G1d 32 rfl Ld ?_;refine G0d Mv (G0d Mv ?_);obtain⟨x22,gx22,hE⟩:=gO hE;refine DOps.gC rfl rfl (fun hC=>ungdA (k:=34) rfl (ungdA (k:=35) rfl (idxMn (f:=TDir.c) (n:=s5_12) (TK rfl) rfl (TK rfl) rfl rfl rfl (gx22 hC)))) rfl ?_;refine G1d 36 rfl Fv ?_;refine G1d 37 rfl Ld ?_;obtain⟨x23,gx23,hE⟩:=gO hE;refine Gc2d 33 38 rfl rfl rfl rfl rfl rfl (fun hC=>Z69_walk (gx23 hC)) ?_
     refine G1d 39 rfl NB ?_;refine Sd PO ?_;refine DOps.nil (by decide +kernel) ?_;refine cE hE (fun hc24 hE=>?_) (fun hc24 hE=>?_)
     ·refine seqR (S As (nil ?_));exact rt hE
     refine sk hK17 ?_;clear hK17 K17;refine region ?_;refine S Mv ?_;refine SI ?_;refine S As (nil ?_);exact hK11 _ (n11,(s5_12+1)) wA hE (nS _)
    refine AWp.exit ?_;exact hK8 _ () wA hE
 rintro _ hE;try dsimp only at hE
 unfold Z70_j8 at hE;refine seqR (S As (nil ?_));exact rt hE
def Z71_j8  :Option Bool:=some true
def Z71_l11 (a0:(Sl TSel)) (a1:(Sl TSel)) (k_rec_47:(Sl TSel)->(Sl TSel)->Option Bool):Nat->Nat->Option Bool
 | 0,_=>none
 | n11+1,s5_12=>bif (decide (((s5_12:Nat):Int)<((a0.l.length:Nat):Int))) then((a0.l[s5_12]?).bind fun x19=>(a1.l[s5_12]?).bind fun x20=>guardO (!((((!decide (x19.FKind=x20.FKind))||(!(x19.FAlias==x20.FAlias)))||(!(x19.FName==x20.FName)))||(!(x19.FOn==x20.FOn)))) (Z69 x19.FArgs x20.FArgs) false fun x22=>guardO (!(((((!decide (x19.FKind=x20.FKind))||(!(x19.FAlias==x20.FAlias)))||(!(x19.FName==x20.FName)))||(!(x19.FOn==x20.FOn)))||(!x22))) (Z70 x19.FDirs x20.FDirs) false fun x23=>guardO (!((((((!decide (x19.FKind=x20.FKind))||(!(x19.FAlias==x20.FAlias)))||(!(x19.FName==x20.FName)))||(!(x19.FOn==x20.FOn)))||(!x22))||(!x23))) (k_rec_47 x19.FSels x20.FSels) false fun x24=>bif (((((((!decide (x19.FKind=x20.FKind))||(!(x19.FAlias==x20.FAlias)))||(!(x19.FName==x20.FName)))||(!(x19.FOn==x20.FOn)))||(!x22))||(!x23))||(!x24)) then(some false) else((Z71_l11 a0 a1 k_rec_47 n11) (s5_12+1))) else(Z71_j8   )
def Z71_n:Nat->(Sl TSel)->(Sl TSel)->Option Bool
 | 0,_,_=>none
 | n+1,a0,a1=>bif (!decide (((a0.l.length:Nat):Int)=((a1.l.length:Nat):Int))) then(some false) else(Z71_l11 a0 a1 (Z71_n n) (a0.l.length+1) 0)
theorem Z71_step (n:Nat) (ih_47:∀{a0 a1:Sl TSel}{w0 w1:Option Nat}{r:Bool},Z71_n n a0 a1=some r->∀(H:Heap),AC Tryz.prog 47 [.d (Sl.d 7 TSel.c w0 a0),.d (Sl.d 7 TSel.c w1 a1)] H fun v h'=>v=.a (.d (.bool r))/\h'=H):∀{a0 a1:Sl TSel}{w0 w1:Option Nat}{r:Bool},Z71_n (n+1) a0 a1=some r->∀(H:Heap),AC Tryz.prog 47 [.d (Sl.d 7 TSel.c w0 a0),.d (Sl.d 7 TSel.c w1 a1)] H fun v h'=>v=.a (.d (.bool r))/\h'=H:=by
 intro a0 a1 w0 w1  r hE H ;rw [Z71_n] at hE;refine AC.oW 77 [.tmp 4] Tryz.call47 Tryz.func47 ?_;refine seqR (S As (nil ?_));refine seqK fun K2 hK2=>?_;refine seqR (S Mv ?_);refine sLen (f:=TSel.c) (s:=a0) (TK rfl) rfl rfl rfl rfl fun hL4=>?_;refine S Mv ?_;refine sLen (f:=TSel.c) (s:=a1) (TK rfl) rfl rfl rfl rfl fun hL5=>?_;refine S BI (nil ?_);refine cE hE (fun hc6 hE=>?_) (fun hc6 hE=>?_)
 ·refine seqR (S As (nil ?_));exact rt hE
 refine sk hK2 ?_;clear hK2 K2;refine seqJH kN (fun(z:Unit)=>[]) (fun z=>H) (fun z=>Z71_j8 =some r) ?_ ?_
 ·intro K8 hK8;refine seqR (S As (nil ?_));refine block ?_;refine loopH (TA 0 (TA 1 kN)) (fun(z:Nat×Nat)=>[(5,.a (.d (.int .i64 ((z.2:Nat):Int))))]) (fun z=>H) (fun z=>z.1) (fun z=>Z71_l11 a0 a1 (Z71_n n) z.1 z.2=some r) ((a0.l.length+1),0) hE wA ?_;rintro ⟨n11,s5_12⟩ hE K11 hK11;try dsimp only at hE
  cases n11 with
  | zero=>cases hE
  | succ n11 =>
    rw [Z71_l11] at hE;refine seqK fun K13 hK13=>?_;refine seqR (S Mv (S Mv ?_));refine sLen (f:=TSel.c) (s:=a0) (TK rfl) rfl rfl rfl rfl fun hL15=>?_;refine S BI (nil ?_);refine cE hE (fun hc16 hE=>?_) (fun hc16 hE=>?_)
    ·try dsimp only at hc16
     have hf16:=oD hc16;refine sk hK13 ?_;clear hK13 K13;refine seqK fun K17 hK17=>?_;refine block ?_;refine AWp.seqD (Sd Mv (Sd Mv ?_));obtain⟨x19,gx19,hE⟩:=bO hE;refine Sd (ix TSel.c s5_12 gx19) (Sd Ld (Sd Mv (Sd Mv ?_)));obtain⟨x20,gx20,hE⟩:=bO hE;refine Sd (ix TSel.c s5_12 gx20) (Sd Ld ?_);refine DOps.sB (TK rfl) rfl rfl ?_ (by repeat (first|exact Snoc.nil|apply Snoc.cons));refine DOps.sB (TK rfl) rfl rfl ?_ (by repeat (first|exact Snoc.nil|apply Snoc.cons))
     refine DOps.sLn (storeLFA (TK rfl) rfl rfl rfl rfl rfl) ?_;refine DOps.sLn (storeLFA (TK rfl) rfl rfl rfl rfl rfl) ?_;refine DOps.nil (by decide +kernel) ?_;refine freezeA 7 _ rfl (KA 0 (KA 1 (KA 5 (KA 6 Keeps.nil)))) ?_;refine freezeA 6 _ rfl (KA 0 (KA 1 (KA 5 (KA 7 Keeps.nil)))) ?_;refine seqR (S Fv (S Ld (S Fv (S Ld (S BI (S Mv (G0 Fv ?_)))))));refine G1 33 rfl Ld ?_;refine G0 Fv ?_;refine G1 35 rfl Ld ?_
     refine G2 34 36 rfl rfl BS ?_;refine S PO (S Mv (G0 Fv ?_));refine G1 40 rfl Ld ?_;refine G0 Fv ?_;refine G1 42 rfl Ld ?_;refine G2 41 43 rfl rfl BS ?_;refine S PO (S Mv (G0 Fv ?_));refine G1 47 rfl Ld ?_;refine G0 Fv ?_;refine G1 49 rfl Ld ?_;refine G2 48 50 rfl rfl BS ?_;refine S PO (S Mv (G0 Fv ?_));refine G1 54 rfl Ld ?_;refine G0 Fv ?_;refine G1 56 rfl Ld ?_;obtain⟨x22,gx22,hE⟩:=gO hE;refine Gc2 55 57 rfl rfl rfl rfl rfl rfl (fun hC=>Z69_walk (gx22 hC)) ?_
     refine G1 58 rfl NB ?_;refine S PO (S Mv (G0 Fv ?_));refine G1 62 rfl Ld ?_;refine G0 Fv ?_;refine G1 64 rfl Ld ?_;obtain⟨x23,gx23,hE⟩:=gO hE;refine Gc2 63 65 rfl rfl rfl rfl rfl rfl (fun hC=>Z70_walk (gx23 hC)) ?_;refine G1 66 rfl NB ?_;refine S PO (S Mv (G0 Fv ?_));refine gC rfl rfl (fun hC=>ungdA (k:=70) rfl (loadV (TK rfl) rfl rfl (congrArg (fun x=>some (A.d x)) (TSel.FSelsD_eq _)))) rfl ?_
     refine G0 Fv ?_;refine gC rfl rfl (fun hC=>ungdA (k:=72) rfl (loadV (TK rfl) rfl rfl (congrArg (fun x=>some (A.d x)) (TSel.FSelsD_eq _)))) rfl ?_;obtain⟨x24,gx24,hE⟩:=gO hE;refine Gc2 71 73 rfl rfl rfl rfl rfl rfl (fun hC=>ih_47 (gx24 hC)) ?_;refine G1 74 rfl NB ?_;refine S PO (nil ?_);refine cE hE (fun hc25 hE=>?_) (fun hc25 hE=>?_)
     ·refine seqR (S As (nil ?_));exact rt hE
     refine sk hK17 ?_;clear hK17 K17;refine region ?_;refine S Mv ?_;refine SI ?_;refine S As (nil ?_);exact hK11 _ (n11,(s5_12+1)) wA hE (nS _)
    refine AWp.exit ?_;exact hK8 _ () wA hE
 rintro _ hE;try dsimp only at hE
 unfold Z71_j8 at hE;refine seqR (S As (nil ?_));exact rt hE
theorem Z71_all:∀(n:Nat),(∀{a0 a1:Sl TSel}{w0 w1:Option Nat}{r:Bool},Z71_n n a0 a1=some r->∀(H:Heap),AC Tryz.prog 47 [.d (Sl.d 7 TSel.c w0 a0),.d (Sl.d 7 TSel.c w1 a1)] H fun v h'=>v=.a (.d (.bool r))/\h'=H)
 | 0=>fun hE=>by first|cases hE|(rw [Z71_n] at hE; cases hE)
 | n+1=>Z71_step n (Z71_all n)
def Z71 (a0:(Sl TSel)) (a1:(Sl TSel)):Option Bool:=Z71_n F0 a0 a1
theorem Z71_walk {a0 a1:Sl TSel}{w0 w1:Option Nat}{r:Bool}(hE:Z71 a0 a1=some r) (H:Heap) :AC Tryz.prog 47 [.d (Sl.d 7 TSel.c w0 a0),.d (Sl.d 7 TSel.c w1 a1)] H fun v h'=>v=.a (.d (.bool r))/\h'=H:=(Z71_all F0) hE H 
def Z68_j9  :Option Bool:=some true
def Z68_l12 (a0:Z10) (a1:Z10) :Nat->Nat->Option Bool
 | 0,_=>none
 | n12+1,s8_13=>bif (decide (((s8_13:Nat):Int)<((a0.FFrags.l.length:Nat):Int))) then((a0.FFrags.l[s8_13]?).bind fun x20=>(a1.FFrags.l[s8_13]?).bind fun x21=>guardO (!((!(x20.FName==x21.FName))||(!(x20.FOn==x21.FOn)))) (Z71 x20.FSels x21.FSels) false fun x23=>bif (((!(x20.FName==x21.FName))||(!(x20.FOn==x21.FOn)))||(!x23)) then(some false) else((Z68_l12 a0 a1 n12) (s8_13+1))) else(Z68_j9   )
def Z68_j8 (a0:Z10) (a1:Z10)  :Option Bool:=Z68_l12 a0 a1 (a0.FFrags.l.length+1) 0
def Z68_l27 (a0:Z10) (a1:Z10) :Nat->Nat->Option Bool
 | 0,_=>none
 | n27+1,s5_28=>bif (decide (((s5_28:Nat):Int)<((a0.FOps.l.length:Nat):Int))) then((a0.FOps.l[s5_28]?).bind fun x35=>(a1.FOps.l[s5_28]?).bind fun x36=>guardO (!((!decide (x35.FKind=x36.FKind))||(!(x35.FName==x36.FName)))) (Z72 x35.FVars x36.FVars) false fun x38=>guardO (!(((!decide (x35.FKind=x36.FKind))||(!(x35.FName==x36.FName)))||(!x38))) (Z71 x35.FSels x36.FSels) false fun x39=>bif ((((!decide (x35.FKind=x36.FKind))||(!(x35.FName==x36.FName)))||(!x38))||(!x39)) then(some false) else((Z68_l27 a0 a1 n27) (s5_28+1))) else(Z68_j8 a0 a1  )
def Z68 (a0:Z10) (a1:Z10):Option Bool:=bif ((!decide (((a0.FOps.l.length:Nat):Int)=((a1.FOps.l.length:Nat):Int)))||(!decide (((a0.FFrags.l.length:Nat):Int)=((a1.FFrags.l.length:Nat):Int)))) then(some false) else(Z68_l27 a0 a1 (a0.FOps.l.length+1) 0)
theorem Z68_walk {a0 a1:Z10}{r:Bool}(hE:Z68 a0 a1=some r) (H:Heap) :AC Tryz.prog 17 [.agg (Z10.c a0),.agg (Z10.c a1)] H fun v h'=>v=.a (.d (.bool r))/\h'=H:=by
 unfold Z68 at hE;refine AC.oW 109 [.tmp 4] Tryz.call17 Tryz.func17 ?_;refine seqR (S BX (S BX (S As (nil ?_))));refine seqK fun K2 hK2=>?_;refine seqR (S Fv (S Ld ?_));refine sLen (f:=TOp.c) (s:=a0.FOps) (TK rfl) rfl rfl rfl rfl fun hL4=>?_;refine S Fv (S Ld ?_);refine sLen (f:=TOp.c) (s:=a1.FOps) (TK rfl) rfl rfl rfl rfl fun hL5=>?_;refine S BI (S Mv (G0 Fv ?_));refine G1 19 rfl Ld ?_;refine gC rfl rfl (fun hC=>ungdA (k:=20) rfl (lenM' (f:=Z5.c) (s:=a0.FFrags) (TK rfl) rfl rfl rfl)) rfl ?_
 refine G0 Fv ?_;refine G1 22 rfl Ld ?_;refine gC rfl rfl (fun hC=>ungdA (k:=23) rfl (lenM' (f:=Z5.c) (s:=a1.FFrags) (TK rfl) rfl rfl rfl)) rfl ?_;refine G2 21 24 rfl rfl BI ?_;refine S PO (nil ?_);refine cE hE (fun hc6 hE=>?_) (fun hc6 hE=>?_)
 ·refine seqR (S As (nil ?_));exact rt hE
 refine sk hK2 ?_;clear hK2 K2;refine seqJH (TA 2 (TA 3 kN)) (fun(z:Unit)=>[]) (fun z=>H) (fun z=>Z68_j8 a0 a1 =some r) ?_ ?_
 ·intro K8 hK8;refine seqR (S As (nil ?_));refine block ?_;refine loopH (TA 2 (TA 3 kN)) (fun(z:Nat×Nat)=>[(5,.a (.d (.int .i64 ((z.2:Nat):Int))))]) (fun z=>H) (fun z=>z.1) (fun z=>Z68_l27 a0 a1 z.1 z.2=some r) ((a0.FOps.l.length+1),0) hE wA ?_;rintro ⟨n27,s5_28⟩ hE K27 hK27;try dsimp only at hE
  cases n27 with
  | zero=>cases hE
  | succ n27 =>
    rw [Z68_l27] at hE;refine seqK fun K29 hK29=>?_;refine seqR (S Mv (S Fv (S Ld ?_)));refine sLen (f:=TOp.c) (s:=a0.FOps) (TK rfl) rfl rfl rfl rfl fun hL31=>?_;refine S BI (nil ?_);refine cE hE (fun hc32 hE=>?_) (fun hc32 hE=>?_)
    ·try dsimp only at hc32
     have hf32:=oD hc32;refine sk hK29 ?_;clear hK29 K29;refine seqK fun K33 hK33=>?_;refine block ?_;refine AWp.seqD (Sd Fv (Sd Ld (Sd Mv ?_)));obtain⟨x35,gx35,hE⟩:=bO hE;refine Sd (ix TOp.c s5_28 gx35) (Sd Ld (Sd Fv (Sd Ld (Sd Mv ?_))));obtain⟨x36,gx36,hE⟩:=bO hE;refine Sd (ix TOp.c s5_28 gx36) (Sd Ld ?_);refine DOps.sB (TK rfl) rfl rfl ?_ (by repeat (first|exact Snoc.nil|apply Snoc.cons))
     refine DOps.sB (TK rfl) rfl rfl ?_ (by repeat (first|exact Snoc.nil|apply Snoc.cons));refine DOps.sLn (storeLFA (TK rfl) rfl rfl rfl rfl rfl) ?_;refine DOps.sLn (storeLFA (TK rfl) rfl rfl rfl rfl rfl) ?_;refine DOps.nil (by decide +kernel) ?_;refine freezeA 7 _ rfl (KA 2 (KA 3 (KA 5 (KA 6 Keeps.nil)))) ?_;refine freezeA 6 _ rfl (KA 2 (KA 3 (KA 5 (KA 7 Keeps.nil)))) ?_;refine seqR (S Fv (S Ld (S Fv (S Ld (S BI (S Mv (G0 Fv ?_)))))))
     refine G1 50 rfl Ld ?_;refine G0 Fv ?_;refine G1 52 rfl Ld ?_;refine G2 51 53 rfl rfl BS ?_;refine S PO (S Mv (G0 Fv ?_));refine G1 57 rfl Ld ?_;refine G0 Fv ?_;refine G1 59 rfl Ld ?_;obtain⟨x38,gx38,hE⟩:=gO hE;refine Gc2 58 60 rfl rfl rfl rfl rfl rfl (fun hC=>Z72_walk (gx38 hC)) ?_;refine G1 61 rfl NB ?_;refine S PO (S Mv (G0 Fv ?_));refine G1 65 rfl Ld ?_;refine G0 Fv ?_;refine G1 67 rfl Ld ?_
     obtain⟨x39,gx39,hE⟩:=gO hE;refine Gc2 66 68 rfl rfl rfl rfl rfl rfl (fun hC=>Z71_walk (gx39 hC)) ?_;refine G1 69 rfl NB ?_;refine S PO (nil ?_);refine cE hE (fun hc40 hE=>?_) (fun hc40 hE=>?_)
     ·refine seqR (S As (nil ?_));exact rt hE
     refine sk hK33 ?_;clear hK33 K33;refine region ?_;refine S Mv ?_;refine SI ?_;refine S As (nil ?_);exact hK27 _ (n27,(s5_28+1)) wA hE (nS _)
    refine AWp.exit ?_;exact hK8 _ () wA hE
 rintro _ hE;try dsimp only at hE
 unfold Z68_j8 at hE;refine seqJH kN (fun(z:Unit)=>[]) (fun z=>H) (fun z=>Z68_j9 =some r) ?_ ?_
 ·intro K9 hK9;refine seqR (S As (nil ?_));refine block ?_;refine loopH (TA 2 (TA 3 kN)) (fun(z:Nat×Nat)=>[(8,.a (.d (.int .i64 ((z.2:Nat):Int))))]) (fun z=>H) (fun z=>z.1) (fun z=>Z68_l12 a0 a1 z.1 z.2=some r) ((a0.FFrags.l.length+1),0) hE wA ?_;rintro ⟨n12,s8_13⟩ hE K12 hK12;try dsimp only at hE
  cases n12 with
  | zero=>cases hE
  | succ n12 =>
    rw [Z68_l12] at hE;refine seqK fun K14 hK14=>?_;refine seqR (S Mv (S Fv (S Ld ?_)));refine sLen (f:=Z5.c) (s:=a0.FFrags) (TK rfl) rfl rfl rfl rfl fun hL16=>?_;refine S BI (nil ?_);refine cE hE (fun hc17 hE=>?_) (fun hc17 hE=>?_)
    ·try dsimp only at hc17
     have hf17:=oD hc17;refine sk hK14 ?_;clear hK14 K14;refine seqK fun K18 hK18=>?_;refine block ?_;refine AWp.seqD (Sd Fv (Sd Ld (Sd Mv ?_)));obtain⟨x20,gx20,hE⟩:=bO hE;refine Sd (ix Z5.c s8_13 gx20) (Sd Ld (Sd Fv (Sd Ld (Sd Mv ?_))));obtain⟨x21,gx21,hE⟩:=bO hE;refine Sd (ix Z5.c s8_13 gx21) (Sd Ld ?_);refine DOps.sB (TK rfl) rfl rfl ?_ (by repeat (first|exact Snoc.nil|apply Snoc.cons))
     refine DOps.sB (TK rfl) rfl rfl ?_ (by repeat (first|exact Snoc.nil|apply Snoc.cons));refine DOps.sLn (storeLFA (TK rfl) rfl rfl rfl rfl rfl) ?_;refine DOps.sLn (storeLFA (TK rfl) rfl rfl rfl rfl rfl) ?_;refine DOps.nil (by decide +kernel) ?_;refine freezeA 10 _ rfl (KA 2 (KA 3 (KA 8 (KA 9 Keeps.nil)))) ?_;refine freezeA 9 _ rfl (KA 2 (KA 3 (KA 8 (KA 10 Keeps.nil)))) ?_;refine seqR (S Fv (S Ld (S Fv (S Ld (S BS (S Mv (G0 Fv ?_)))))))
     refine G1 95 rfl Ld ?_;refine G0 Fv ?_;refine G1 97 rfl Ld ?_;refine G2 96 98 rfl rfl BS ?_;refine S PO (S Mv (G0 Fv ?_));refine G1 102 rfl Ld ?_;refine G0 Fv ?_;refine G1 104 rfl Ld ?_;obtain⟨x23,gx23,hE⟩:=gO hE;refine Gc2 103 105 rfl rfl rfl rfl rfl rfl (fun hC=>Z71_walk (gx23 hC)) ?_;refine G1 106 rfl NB ?_;refine S PO (nil ?_);refine cE hE (fun hc24 hE=>?_) (fun hc24 hE=>?_)
     ·refine seqR (S As (nil ?_));exact rt hE
     refine sk hK18 ?_;clear hK18 K18;refine region ?_;refine S Mv ?_;refine SI ?_;refine S As (nil ?_);exact hK12 _ (n12,(s8_13+1)) wA hE (nS _)
    refine AWp.exit ?_;exact hK9 _ () wA hE
 rintro _ hE;try dsimp only at hE
 unfold Z68_j9 at hE;refine seqR (S As (nil ?_));exact rt hE
def Z128 (a0:Int):Option Z11:=some (Z11.mk (2:Int) a0 ([]:Bs) true ([]) (Sl.nil:Sl Bs))
theorem Z128_walk {a0:Int}{r:Z11}(hE:Z128 a0=some r) (H:Heap) :AC Tryz.prog 142 [.d (.int .i64 a0)] H fun v h'=>v=.a (.agg (Z11.c r))/\h'=H:=by
 unfold Z128 at hE;refine AC.oW 5 [.cell 2 58] Tryz.call142 Tryz.func142 ?_;refine seqR ?_;refine Sl ?_;refine nil ?_;refine seqR (S Mv (S BU ?_));refine Sf ?_;refine nil ?_;exact rt hE
end Go.Proofs

namespace Go.Proofs
open Go Go.Ab
open AOps Cert AWp Keeps KeepsT
variable {lou:Lou}
def normal_sels_j3  (s5_4:(Sl TSel)):Option (Sl TSel):=some s5_4
def normal_sels_j28 (s5_8:(Sl TSel)) (k_next_7:(Sl TSel)->Int->Option (Sl TSel)) (s6_29:Int) (y30_l0:TSel):Option (Sl TSel):=(appC 128 s5_8 (⟨false,[y30_l0]⟩:Sl TSel)).bind fun x31=>k_next_7 x31 s6_29
def normal_sels_l32 (a0:(Sl Z8)) (s5_8:(Sl TSel)) (x15:Z8) (k_next_7:(Sl TSel)->Int->Option (Sl TSel)) (k_rec_87:Z8->Option TSel):Nat->Int->TSel->Option (Sl TSel)
 | 0,_,_=>none
 | n32+1,s6_33,y34_l0=>guardO ((decide (s6_33<((a0.l.length:Nat):Int)))) (idxC a0.l s6_33) Z8.zero fun x37=>guardO (((decide (s6_33<((a0.l.length:Nat):Int)))&&((x37.FOn==x15.FOn)))) (idxC a0.l s6_33) Z8.zero fun x38=>bif (((decide (s6_33<((a0.l.length:Nat):Int)))&&((x37.FOn==x15.FOn)))&&((x38.FLabel==x15.FLabel))) then((idxC a0.l s6_33).bind fun x41=>(k_rec_87 x41).bind fun x42=>(appC 128 y34_l0.FSels (⟨false,[x42]⟩:Sl TSel)).bind fun x43=>(addC s6_33 (1:Int)).bind fun x44=>(normal_sels_l32 a0 s5_8 x15 k_next_7 k_rec_87 n32) x44 (TSel.mk y34_l0.FKind y34_l0.FAlias y34_l0.FName y34_l0.FOn y34_l0.FArgs y34_l0.FDirs x43.nl x43.l)) else(normal_sels_j28 s5_8 k_next_7 s6_33 y34_l0)
def normal_sels_j26 (a0:(Sl Z8)) (s5_8:(Sl TSel)) (s6_9:Int) (x15:Z8) (k_next_7:(Sl TSel)->Int->Option (Sl TSel)) (k_rec_87:Z8->Option TSel) (y27_l0:TSel):Option (Sl TSel):=normal_sels_l32 a0 s5_8 x15 k_next_7 k_rec_87 F0 s6_9 y27_l0
def normal_sels_l7 (a0:(Sl Z8)) (a1:Bs) (k_rec_87:Z8->Option TSel):Nat->(Sl TSel)->Int->Option (Sl TSel)
 | 0,_,_=>none
 | n7+1,s5_8,s6_9=>bif (decide (s6_9<((a0.l.length:Nat):Int))) then((idxC a0.l s6_9).bind fun x15=>bif (((x15.FOn==a1))&&((x15.FLabel==([]:Bs)))) then((k_rec_87 x15).bind fun x20=>(appC 128 s5_8 (⟨false,[x20]⟩:Sl TSel)).bind fun x21=>(addC s6_9 (1:Int)).bind fun x23=>(normal_sels_l7 a0 a1 k_rec_87 n7) x21 x23) else(bif (!(x15.FLabel==([]:Bs))) then((Z132 x15.FLabel).bind fun x47=>normal_sels_j26 a0 s5_8 s6_9 x15 ((normal_sels_l7 a0 a1 k_rec_87 n7)) k_rec_87 (TSel.mk ((TSel.mk (3:Int) ([]:Bs) ([]:Bs) x15.FOn (Sl.nil:Sl TArg) (Sl.nil:Sl TDir) true ([])).FKind) ((TSel.mk (3:Int) ([]:Bs) ([]:Bs) x15.FOn (Sl.nil:Sl TArg) (Sl.nil:Sl TDir) true ([])).FAlias) ((TSel.mk (3:Int) ([]:Bs) ([]:Bs) x15.FOn (Sl.nil:Sl TArg) (Sl.nil:Sl TDir) true ([])).FName) ((TSel.mk (3:Int) ([]:Bs) ([]:Bs) x15.FOn (Sl.nil:Sl TArg) (Sl.nil:Sl TDir) true ([])).FOn) ((TSel.mk (3:Int) ([]:Bs) ([]:Bs) x15.FOn (Sl.nil:Sl TArg) (Sl.nil:Sl TDir) true ([])).FArgs) (⟨false,[(TDir.mk ([100,101,102,101,114]:Bs) (⟨false,[(TArg.mk ([108,97,98,101,108]:Bs) x47)]⟩:Sl TArg))]⟩:Sl TDir) ((TSel.mk (3:Int) ([]:Bs) ([]:Bs) x15.FOn (Sl.nil:Sl TArg) (Sl.nil:Sl TDir) true ([])).FSels).nl ((TSel.mk (3:Int) ([]:Bs) ([]:Bs) x15.FOn (Sl.nil:Sl TArg) (Sl.nil:Sl TDir) true ([])).FSels).l)) else(normal_sels_j26 a0 s5_8 s6_9 x15 ((normal_sels_l7 a0 a1 k_rec_87 n7)) k_rec_87 (TSel.mk (3:Int) ([]:Bs) ([]:Bs) x15.FOn (Sl.nil:Sl TArg) (Sl.nil:Sl TDir) true ([]))))) else(normal_sels_j3   s5_8)
def Z51_j9  (y10_l1:TSel):Option TSel:=some y10_l1
def Z51_j7 (a0:Z8)  (y8_l1:TSel):Option TSel:=bif (!decide (a0.FInitial=(-1:Int))) then((Z132 ([115]:Bs)).bind fun x14=>(Z128 a0.FInitial).bind fun x15=>Z51_j9   (TSel.mk y8_l1.FKind y8_l1.FAlias y8_l1.FName y8_l1.FOn y8_l1.FArgs (⟨false,[(TDir.mk ([115,116,114,101,97,109]:Bs) (⟨false,[(TArg.mk ([108,97,98,101,108]:Bs) x14),(TArg.mk ([105,110,105,116,105,97,108,67,111,117,110,116]:Bs) x15)]⟩:Sl TArg))]⟩:Sl TDir) y8_l1.FSels.nl y8_l1.FSels.l)) else(Z51_j9   y8_l1)
def Z51_l18 (a0:Z8) :Nat->Nat->TSel->Option TSel
 | 0,_,_=>none
 | n18+1,s26_19,y20_l1=>bif (decide (((s26_19:Nat):Int)<((a0.FArgs.l.length:Nat):Int))) then((a0.FArgs.l[s26_19]?).bind fun x26=>(value_Copy x26.FValue).bind fun x27=>(appC 96 y20_l1.FArgs (⟨false,[(TArg.mk x26.FName x27)]⟩:Sl TArg)).bind fun x28=>(Z51_l18 a0 n18) (s26_19+1) (TSel.mk y20_l1.FKind y20_l1.FAlias y20_l1.FName y20_l1.FOn x28 y20_l1.FDirs y20_l1.FSels.nl y20_l1.FSels.l)) else(Z51_j7 a0  y20_l1)
def Z51_j5 (a0:Z8)  (y6_l1:TSel):Option TSel:=Z51_l18 a0 (a0.FArgs.l.length+1) 0 y6_l1
mutual
def normal_sels_n:Nat->(Sl Z8)->Bs->Option (Sl TSel)
 | 0,_,_=>none
 | n+1,a0,a1=>normal_sels_l7 a0 a1 (Z51_n n) F0 (Sl.nil:Sl TSel) (0:Int)
def Z51_n:Nat->Z8->Option TSel
 | 0,_=>none
 | n+1,a0=>((normal_sels_n n) a0.FPicks a0.FType.FName).bind fun x3=>bif (!(a0.FKey==a0.FName)) then(Z51_j5 a0  (TSel.mk ((TSel.mk (1:Int) ([]:Bs) a0.FName ([]:Bs) (Sl.nil:Sl TArg) (Sl.nil:Sl TDir) x3.nl x3.l).FKind) a0.FKey ((TSel.mk (1:Int) ([]:Bs) a0.FName ([]:Bs) (Sl.nil:Sl TArg) (Sl.nil:Sl TDir) x3.nl x3.l).FName) ((TSel.mk (1:Int) ([]:Bs) a0.FName ([]:Bs) (Sl.nil:Sl TArg) (Sl.nil:Sl TDir) x3.nl x3.l).FOn) ((TSel.mk (1:Int) ([]:Bs) a0.FName ([]:Bs) (Sl.nil:Sl TArg) (Sl.nil:Sl TDir) x3.nl x3.l).FArgs) ((TSel.mk (1:Int) ([]:Bs) a0.FName ([]:Bs) (Sl.nil:Sl TArg) (Sl.nil:Sl TDir) x3.nl x3.l).FDirs) ((TSel.mk (1:Int) ([]:Bs) a0.FName ([]:Bs) (Sl.nil:Sl TArg) (Sl.nil:Sl TDir) x3.nl x3.l).FSels).nl ((TSel.mk (1:Int) ([]:Bs) a0.FName ([]:Bs) (Sl.nil:Sl TArg) (Sl.nil:Sl TDir) x3.nl x3.l).FSels).l)) else(Z51_j5 a0  (TSel.mk (1:Int) ([]:Bs) a0.FName ([]:Bs) (Sl.nil:Sl TArg) (Sl.nil:Sl TDir) x3.nl x3.l))
end
theorem normal_sels_step (n:Nat) (ih_48:∀{a0:Sl Z8}{a1:Bs}{w0:Option Nat}{r:Sl TSel},normal_sels_n n a0 a1=some r->∀(H:Heap),AC Tryz.prog 48 [.d (Sl.d 9 Z8.c w0 a0),.d (.str a1)] H fun v h'=>v=.a (.d (Sl.d 7 TSel.c none r))/\h'=H) (ih_87:∀{a0:Z8}{r:TSel},Z51_n n a0=some r->∀(H:Heap),AC Tryz.prog 87 [.agg (Z8.c a0)] H fun v h'=>v=.a (.agg (TSel.c r))/\h'=H):∀{a0:Sl Z8}{a1:Bs}{w0:Option Nat}{r:Sl TSel},normal_sels_n (n+1) a0 a1=some r->∀(H:Heap),AC Tryz.prog 48 [.d (Sl.d 9 Z8.c w0 a0),.d (.str a1)] H fun v h'=>v=.a (.d (Sl.d 7 TSel.c none r))/\h'=H:=by
 intro a0 a1 w0  r hE H ;rw [normal_sels_n] at hE;refine AC.oW 88 [.tmp 4] Tryz.call48 Tryz.func48 ?_;refine AWp.tok 7 fun tk1 htk1=>?_;refine seqR ?_;refine s0 (assignNil (k':=7) rfl) rfl ?_;refine nil ?_;refine seqR (S As (nil ?_));refine AWp.nilTok 5 7 tk1 rfl hpG ?_;refine seqJH kN (fun(z:(Sl TSel))=>[(5,.a (.d (Sl.d 7 TSel.c (some tk1) z)))]) (fun z=>(H.set tk1 (some (.tok 7 z.l.length)))) (fun z=>normal_sels_j3 z=some r) ?_ ?_
 ·intro K3 hK3;refine seqR (S As (nil ?_));refine block ?_;refine loopH (TA 0 (TA 1 kN)) (fun(z:Nat×(Sl TSel)×Int)=>[(5,.a (.d (Sl.d 7 TSel.c (some tk1) z.2.1))),(6,.a (.d (.int .i64 z.2.2)))]) (fun z=>(H.set tk1 (some (.tok 7 z.2.1.l.length)))) (fun z=>z.1) (fun z=>normal_sels_l7 a0 a1 (Z51_n n) z.1 z.2.1 z.2.2=some r) (F0,(Sl.nil:Sl TSel),(0:Int)) hE wA ?_;rintro ⟨n7,s5_8,s6_9⟩ hE K7 hK7
  try dsimp only at hE
  cases n7 with
  | zero=>cases hE
  | succ n7 =>
    rw [normal_sels_l7] at hE;refine seqK fun K10 hK10=>?_;refine seqR (S Mv (S Mv ?_));refine sLen (f:=Z8.c) (s:=a0) (TK rfl) rfl rfl rfl rfl fun hL12=>?_;refine S BI (nil ?_);refine cE hE (fun hc13 hE=>?_) (fun hc13 hE=>?_)
    ·refine sk hK10 ?_;clear hK10 K10;refine block ?_;refine seqR (S Mv (S Mv ?_));obtain⟨x15,gx15,hE⟩:=bO hE;refine s0 (idxM (f:=Z8.c) (TK rfl) rfl (TK rfl) rfl rfl rfl gx15) rfl ?_;refine S Ld ?_;refine Sl ?_;refine Sf ?_;refine nil ?_;refine freezeA 7 _ rfl (KA 0 (KA 1 (KA 5 (KA 6 Keeps.nil)))) ?_;refine seqK fun K16 hK16=>?_;refine seqR (S Fv (S Ld (S Mv (S BS (S Mv (G0 Fv ?_))))));refine G1 22 rfl Ld ?_
     refine G1 23 rfl BS ?_;refine S PA (nil ?_);refine cE hE (fun hc18 hE=>?_) (fun hc18 hE=>?_)
     ·refine seqR (S Mv (S Ld ?_));obtain⟨x20,gx20,hE⟩:=bO hE;refine Sc rfl rfl (ih_87 gx20) ?_;refine S BV ?_;obtain⟨x21,gx21,hE⟩:=bO hE;refine SH (am TSel.c (TK rfl) rfl (TK rfl) (TK rfl) gx21) ?_;refine hq (H.set tk1 (some (.tok 7 x21.l.length))) ?_;refine S As (nil ?_);refine seqR (S Mv ?_);obtain⟨x23,gx23,hE⟩:=bO hE;refine s0 (addM rfl rfl gx23) rfl ?_;refine S As (nil ?_);refine AWp.exit ?_;exact hK7 _ (n7,x21,x23) wA hE (nS _)
     refine sk hK16 ?_;clear hK16 K16;refine seqR (S Fv (S Ld (S BU ?_)));refine Sl ?_;refine AOps.tok 7 fun tk8_25 htk8_25=>?_;obtain⟨ne_tk8_25_tk1,htk8_25⟩:=Heap.set_fresh htk8_25;refine AOps.relocal 0 _ rfl (fun j w cs hh hx=>tok_cell 6 7 7 hh (t:=tk8_25) hpG hx rfl) ?_;refine Sf ?_;refine AOps.relocal 0 _ rfl (fun j w cs hh hx=>tok_cell 6 7 7 hh (t:=tk8_25) hpG hx rfl) ?_;refine nil ?_;refine seqJ (TA 0 (TA 1 (TA 5 (TA 6 (TA 7 (TA 8 kN)))))) (fun(z:TSel)=>[]) (fun z=>[((intE .i64) z.FKind++strE z.FAlias++strE z.FName++strE z.FOn++(fun s=>[Sl.d 6 TArg.c none s]) z.FArgs++(fun s=>[Sl.d 2 TDir.c none s]) z.FDirs++[Sl.d 7 TSel.c (some tk8_25) z.FSels])]) (fun z=>((H.set tk1 (some (.tok 7 s5_8.l.length))).set tk8_25 (some (.tok 7 z.FSels.l.length)))) (fun z=>normal_sels_j26 a0 s5_8 s6_9 x15 ((normal_sels_l7 a0 a1 (Z51_n n) n7)) (Z51_n n) z=some r) ?_ ?_
     ·intro K26 hK26;refine seqR (S Fv (S Ld (S BS (nil ?_))));refine cE hE (fun hc46 hE=>?_) (fun hc46 hE=>?_)
      ·refine region ?_;refine S Fv (S Ld ?_);obtain⟨x47,gx47,hE⟩:=bO hE;refine Sc rfl rfl (Z132_walk gx47) ?_;refine S BU (S BV (S BU (S BV (S FL ?_))));refine Sf ?_;refine nil ?_;exact hK26 _ (TSel.mk ((TSel.mk (3:Int) ([]:Bs) ([]:Bs) x15.FOn (Sl.nil:Sl TArg) (Sl.nil:Sl TDir) true ([])).FKind) ((TSel.mk (3:Int) ([]:Bs) ([]:Bs) x15.FOn (Sl.nil:Sl TArg) (Sl.nil:Sl TDir) true ([])).FAlias) ((TSel.mk (3:Int) ([]:Bs) ([]:Bs) x15.FOn (Sl.nil:Sl TArg) (Sl.nil:Sl TDir) true ([])).FName) ((TSel.mk (3:Int) ([]:Bs) ([]:Bs) x15.FOn (Sl.nil:Sl TArg) (Sl.nil:Sl TDir) true ([])).FOn) ((TSel.mk (3:Int) ([]:Bs) ([]:Bs) x15.FOn (Sl.nil:Sl TArg) (Sl.nil:Sl TDir) true ([])).FArgs) (⟨false,[(TDir.mk ([100,101,102,101,114]:Bs) (⟨false,[(TArg.mk ([108,97,98,101,108]:Bs) x47)]⟩:Sl TArg))]⟩:Sl TDir) ((TSel.mk (3:Int) ([]:Bs) ([]:Bs) x15.FOn (Sl.nil:Sl TArg) (Sl.nil:Sl TDir) true ([])).FSels).nl ((TSel.mk (3:Int) ([]:Bs) ([]:Bs) x15.FOn (Sl.nil:Sl TArg) (Sl.nil:Sl TDir) true ([])).FSels).l) wA hE
      refine AWp.skip ?_;exact hK26 _ (TSel.mk (3:Int) ([]:Bs) ([]:Bs) x15.FOn (Sl.nil:Sl TArg) (Sl.nil:Sl TDir) true ([])) wA hE
     rintro y27_l0 hE;try dsimp only at hE
     unfold normal_sels_j26 at hE;refine seqJ (TA 0 (TA 1 (TA 5 (TA 8 kN)))) (fun(z:Int×TSel)=>[(6,.a (.d (.int .i64 z.1)))]) (fun z=>[((intE .i64) z.2.FKind++strE z.2.FAlias++strE z.2.FName++strE z.2.FOn++(fun s=>[Sl.d 6 TArg.c none s]) z.2.FArgs++(fun s=>[Sl.d 2 TDir.c none s]) z.2.FDirs++[Sl.d 7 TSel.c (some tk8_25) z.2.FSels])]) (fun z=>((H.set tk1 (some (.tok 7 s5_8.l.length))).set tk8_25 (some (.tok 7 z.2.FSels.l.length)))) (fun z=>normal_sels_j28 s5_8 ((normal_sels_l7 a0 a1 (Z51_n n) n7)) z.1 z.2=some r) ?_ ?_
     ·intro K28 hK28;refine block ?_;refine loopO (TA 0 (TA 1 (TA 5 (TA 7 (TA 8 kN))))) (fun(z:Nat×Int×TSel)=>[(6,.a (.d (.int .i64 z.2.1)))]) (fun z=>[((intE .i64) z.2.2.FKind++strE z.2.2.FAlias++strE z.2.2.FName++strE z.2.2.FOn++(fun s=>[Sl.d 6 TArg.c none s]) z.2.2.FArgs++(fun s=>[Sl.d 2 TDir.c none s]) z.2.2.FDirs++[Sl.d 7 TSel.c (some tk8_25) z.2.2.FSels])]) (fun z=>((H.set tk1 (some (.tok 7 s5_8.l.length))).set tk8_25 (some (.tok 7 z.2.2.FSels.l.length)))) (fun z=>z.1) (fun z=>normal_sels_l32 a0 s5_8 x15 ((normal_sels_l7 a0 a1 (Z51_n n) n7)) (Z51_n n) z.1 z.2.1 z.2.2=some r) (F0,s6_9,y27_l0) hE wA ?_
      rintro ⟨n32,s6_33,y34_l0⟩ hE K32 hK32;try dsimp only at hE
      cases n32 with
      | zero=>cases hE
      | succ n32 =>
        rw [normal_sels_l32] at hE;refine seqK fun K35 hK35=>?_;refine AWp.seqD (Sd Mv (Sd Mv ?_));refine DOps.s0 (lenM' (f:=Z8.c) (s:=a0) (TK rfl) rfl rfl rfl) rfl ?_;refine Sd BI (Sd Mv (G0d Mv (G0d Mv ?_)));obtain⟨x37,gx37,hE⟩:=gO hE;refine DOps.gC rfl rfl (fun hC=>ungdA (k:=52) rfl (ungdA (k:=53) rfl (idxM (f:=Z8.c) (TK rfl) rfl (TK rfl) rfl rfl rfl (gx37 hC)))) rfl ?_;refine G1d 54 rfl Fv ?_;refine G1d 55 rfl Ld ?_
        refine G0d Fv ?_;refine G1d 57 rfl Ld ?_;refine G2d 56 58 rfl rfl BS ?_;refine Sd PA (Sd Mv (G0d Mv (G0d Mv ?_)));obtain⟨x38,gx38,hE⟩:=gO hE;refine DOps.gC rfl rfl (fun hC=>ungdA (k:=62) rfl (ungdA (k:=63) rfl (idxM (f:=Z8.c) (TK rfl) rfl (TK rfl) rfl rfl rfl (gx38 hC)))) rfl ?_;refine G1d 64 rfl Fv ?_;refine G1d 65 rfl Ld ?_;refine G0d Fv ?_;refine G1d 67 rfl Ld ?_;refine G2d 66 68 rfl rfl BS ?_
        refine Sd PA ?_;refine DOps.nil (by decide +kernel) ?_;refine cE hE (fun hc39 hE=>?_) (fun hc39 hE=>?_)
        ·refine sk hK35 ?_;clear hK35 K35;refine block ?_;refine AWp.seqD (Sd FL (Sd LL (Sd Mv (Sd Mv ?_))));obtain⟨x41,gx41,hE⟩:=bO hE;refine DOps.s0 (idxM (f:=Z8.c) (TK rfl) rfl (TK rfl) rfl rfl rfl gx41) rfl ?_;refine Sd Ld ?_;obtain⟨x42,gx42,hE⟩:=bO hE;refine Scd rfl rfl (ih_87 gx42) ?_;refine Sd BV ?_;obtain⟨x43,gx43,hE⟩:=bO hE;refine DOps.sH (appM (f:=TSel.c) (TK rfl) rfl (TK rfl) (TK rfl) ⟨_,rfl⟩ rfl rfl (by decide) rfl rfl rfl rfl hpG rfl gx43) rfl ?_
         refine DOps.Dh ((H.set tk1 (some (.tok 7 s5_8.l.length))).set tk8_25 (some (.tok 7 x43.l.length))) ?_;refine Sd FL ?_;refine DOps.sLn (storeL1 (TK rfl) rfl rfl rfl rfl (by repeat (first|exact SetAt.zero|apply SetAt.succ)) (by repeat (first|exact SetAt.zero|apply SetAt.succ))) ?_;refine DOps.nil (by decide +kernel) ?_;refine region ?_;refine S Mv ?_;obtain⟨x44,gx44,hE⟩:=bO hE;refine s0 (addM rfl rfl gx44) rfl ?_
         refine S As (nil ?_);exact hK32 _ (n32,x44,(TSel.mk y34_l0.FKind y34_l0.FAlias y34_l0.FName y34_l0.FOn y34_l0.FArgs y34_l0.FDirs x43.nl x43.l)) wA hE (nS _)
        refine AWp.exit ?_;exact hK28 _ (s6_33,y34_l0) wA hE
     rintro ⟨s6_29,y30_l0⟩ hE;try dsimp only at hE
     unfold normal_sels_j28 at hE;refine AWp.relocal 0 _ rfl (fun j w cs hh hx=>untok_cell 6 hx rfl) ?_;refine AWp.relocal 0 (TSel.c y30_l0) rfl (fun j w cs hh hx=>by rw [TSel.cu_eq]; exact hx) ?_;refine region ?_;refine S Mv (S LL (S BV ?_));obtain⟨x31,gx31,hE⟩:=bO hE;refine SH (am TSel.c (TK rfl) rfl (TK rfl) (TK rfl) gx31) ?_;refine hq ((H.set tk1 (some (.tok 7 x31.l.length))).set tk8_25 (some (.tok 7 y30_l0.FSels.l.length))) ?_
     refine S As (nil ?_);exact hK7 _ (n7,x31,s6_29) (Weak.toFA (by(intro id_ o_ he_); (have e_tk8_25:id_≠tk8_25:=fun e_=>by rw [e_] at he_; simp [Heap.set,htk8_25,ne_tk8_25_tk1] at he_); (rw [<- he_]); (simp only [Heap.set,if_neg e_tk8_25]); (first|done|rfl))) hE (nS _)
    refine AWp.exit ?_;exact hK3 _ s5_8 wA hE
 rintro s5_4 hE;try dsimp only at hE
 unfold normal_sels_j3 at hE;refine seqR (S Mv (S As (nil ?_)));refine AWp.dropTok 4 rfl ?_;refine AWp.ret ?_;repeat (first|refine xBlock_ret ?_|refine xThen_ret ?_)
 obtain rfl:=oJ hE;refine retQ.retF H rfl ⟨rfl,rfl⟩ ?_
 first|exact Heap.sub_set htk1|(simp only [Heap.set_set]; exact Heap.sub_set htk1)
theorem Z51_step (n:Nat) (ih_48:∀{a0:Sl Z8}{a1:Bs}{w0:Option Nat}{r:Sl TSel},normal_sels_n n a0 a1=some r->∀(H:Heap),AC Tryz.prog 48 [.d (Sl.d 9 Z8.c w0 a0),.d (.str a1)] H fun v h'=>v=.a (.d (Sl.d 7 TSel.c none r))/\h'=H) (ih_87:∀{a0:Z8}{r:TSel},Z51_n n a0=some r->∀(H:Heap),AC Tryz.prog 87 [.agg (Z8.c a0)] H fun v h'=>v=.a (.agg (TSel.c r))/\h'=H):∀{a0:Z8}{r:TSel},Z51_n (n+1) a0=some r->∀(H:Heap),AC Tryz.prog 87 [.agg (Z8.c a0)] H fun v h'=>v=.a (.agg (TSel.c r))/\h'=H:=by
 intro a0   r hE H ;rw [Z51_n] at hE;refine AC.oW 56 [.cell 2 99] Tryz.call87 Tryz.func87 ?_;refine seqR (S BX ?_);refine Sl ?_;refine nil ?_;refine AWp.seqD (Sd Fv (Sd Ld (Sd Fv ?_)));refine DOps.s0 (loadV (TK rfl) rfl rfl (congrArg (fun x=>some (A.d x)) (Z8.FPicksD_eq _))) rfl ?_;refine Sd Fv (Sd Fv (Sd Ld ?_));obtain⟨x3,gx3,hE⟩:=bO hE;refine Scd rfl rfl (ih_48 gx3) ?_;refine Sd BU ?_;refine DOps.sB (TK rfl) rfl rfl ?_ (by repeat (first|exact Snoc.nil|apply Snoc.cons))
 refine DOps.sLn (storeLFA (TK rfl) rfl rfl rfl rfl rfl) ?_;refine DOps.nil (by decide +kernel) ?_;refine AWp.relocal 1 (TSel.c (TSel.mk (1:Int) ([]:Bs) a0.FName ([]:Bs) (Sl.nil:Sl TArg) (Sl.nil:Sl TDir) x3.nl x3.l)) rfl (fun j w cs hh hx=>by rw [TSel.cu_eq]; exact hx) ?_;refine AWp.tok 6 fun tk3_4 htk3_4=>?_;refine AWp.relocal 1 (TSel.cu (TSel.mk (1:Int) ([]:Bs) a0.FName ([]:Bs) (Sl.nil:Sl TArg) (Sl.nil:Sl TDir) x3.nl x3.l)) rfl (fun j w cs hh hx=>by rw [<- TSel.cu_eq]; exact hx) ?_
 refine AWp.relocal 1 _ rfl (fun j w cs hh hx=>tok_cell 4 6 6 hh (t:=tk3_4) hpG hx rfl) ?_;refine seqJ (TA 1 (TA 2 (TA 3 kN))) (fun(z:TSel)=>[]) (fun z=>[TSel.c TSel.zero,((intE .i64) z.FKind++strE z.FAlias++strE z.FName++strE z.FOn++[Sl.d 6 TArg.c (some tk3_4) z.FArgs]++(fun s=>[Sl.d 2 TDir.c none s]) z.FDirs++(fun s=>[Sl.d 7 TSel.c none s]) z.FSels)]) (fun z=>(H.set tk3_4 (some (.tok 6 z.FArgs.l.length)))) (fun z=>Z51_j5 a0 z=some r) ?_ ?_
 ·intro K5 hK5;refine seqR (S Fv (S Ld (S Fv (S Ld (S BS (nil ?_))))));refine cE hE (fun hc30 hE=>?_) (fun hc30 hE=>?_)
  ·refine region ?_;refine S Fv (S Ld (S FL ?_));refine Sf ?_;refine nil ?_;exact hK5 _ (TSel.mk ((TSel.mk (1:Int) ([]:Bs) a0.FName ([]:Bs) (Sl.nil:Sl TArg) (Sl.nil:Sl TDir) x3.nl x3.l).FKind) a0.FKey ((TSel.mk (1:Int) ([]:Bs) a0.FName ([]:Bs) (Sl.nil:Sl TArg) (Sl.nil:Sl TDir) x3.nl x3.l).FName) ((TSel.mk (1:Int) ([]:Bs) a0.FName ([]:Bs) (Sl.nil:Sl TArg) (Sl.nil:Sl TDir) x3.nl x3.l).FOn) ((TSel.mk (1:Int) ([]:Bs) a0.FName ([]:Bs) (Sl.nil:Sl TArg) (Sl.nil:Sl TDir) x3.nl x3.l).FArgs) ((TSel.mk (1:Int) ([]:Bs) a0.FName ([]:Bs) (Sl.nil:Sl TArg) (Sl.nil:Sl TDir) x3.nl x3.l).FDirs) ((TSel.mk (1:Int) ([]:Bs) a0.FName ([]:Bs) (Sl.nil:Sl TArg) (Sl.nil:Sl TDir) x3.nl x3.l).FSels).nl ((TSel.mk (1:Int) ([]:Bs) a0.FName ([]:Bs) (Sl.nil:Sl TArg) (Sl.nil:Sl TDir) x3.nl x3.l).FSels).l) wA hE
  refine AWp.skip ?_;exact hK5 _ (TSel.mk (1:Int) ([]:Bs) a0.FName ([]:Bs) (Sl.nil:Sl TArg) (Sl.nil:Sl TDir) x3.nl x3.l) wA hE
 rintro y6_l1 hE;try dsimp only at hE
 unfold Z51_j5 at hE;refine seqJ (TA 1 (TA 2 (TA 3 kN))) (fun(z:TSel)=>[]) (fun z=>[TSel.c TSel.zero,((intE .i64) z.FKind++strE z.FAlias++strE z.FName++strE z.FOn++[Sl.d 6 TArg.c (some tk3_4) z.FArgs]++(fun s=>[Sl.d 2 TDir.c none s]) z.FDirs++(fun s=>[Sl.d 7 TSel.c none s]) z.FSels)]) (fun z=>(H.set tk3_4 (some (.tok 6 z.FArgs.l.length)))) (fun z=>Z51_j7 a0 z=some r) ?_ ?_
 ·intro K7 hK7;refine seqR (S Fv (S Ld ?_));refine sLen (f:=TArg.c) (s:=a0.FArgs) (TK rfl) rfl rfl rfl rfl fun hL17=>?_;refine S Mv (nil ?_);refine block ?_;refine loopO (TA 1 (TA 2 (TA 3 (TA 24 (TA 25 kN))))) (fun(z:Nat×Nat×TSel)=>[(26,.a (.d (.int .i64 ((z.2.1:Nat):Int))))]) (fun z=>[TSel.c TSel.zero,((intE .i64) z.2.2.FKind++strE z.2.2.FAlias++strE z.2.2.FName++strE z.2.2.FOn++[Sl.d 6 TArg.c (some tk3_4) z.2.2.FArgs]++(fun s=>[Sl.d 2 TDir.c none s]) z.2.2.FDirs++(fun s=>[Sl.d 7 TSel.c none s]) z.2.2.FSels)]) (fun z=>(H.set tk3_4 (some (.tok 6 z.2.2.FArgs.l.length)))) (fun z=>z.1) (fun z=>Z51_l18 a0 z.1 z.2.1 z.2.2=some r) ((a0.FArgs.l.length+1),0,y6_l1) hE wA ?_
  rintro ⟨n18,s26_19,y20_l1⟩ hE K18 hK18;try dsimp only at hE
  cases n18 with
  | zero=>cases hE
  | succ n18 =>
    rw [Z51_l18] at hE;refine seqR (S BI (nil ?_));refine seqK fun K22 hK22=>?_;refine cE hE (fun hc23 hE=>?_) (fun hc23 hE=>?_)
    ·try dsimp only at hc23
     have hf23:=oD hc23;refine sk hK22 ?_;clear hK22 K22;refine seqK fun K24 hK24=>?_;refine block ?_;refine seqR ?_;obtain⟨x26,gx26,hE⟩:=bO hE;refine S (ix TArg.c s26_19 gx26) (S Ld ?_);refine Sl ?_;refine Sf ?_;refine nil ?_;refine freezeA 5 _ rfl (KA 1 (KA 2 (KA 3 (KA 24 (KA 25 (KA 26 Keeps.nil)))))) ?_;refine AWp.draw rfl ?_;refine Sd FL (Sd LL (Sd Fv (Sd Ld (Sd Fv (Sd Ld ?_)))))
     obtain⟨x27,gx27,hE⟩:=bO hE;refine Scd rfl rfl (value_Copy_walk gx27) ?_;refine Sd BU (Sd BV ?_);obtain⟨x28,gx28,hE⟩:=bO hE;refine DOps.sH (appM (f:=TArg.c) (TK rfl) rfl (TK rfl) (TK rfl) ⟨_,rfl⟩ rfl rfl (by decide) rfl rfl rfl rfl hpG rfl gx28) rfl ?_;refine DOps.Dh (H.set tk3_4 (some (.tok 6 x28.l.length))) ?_;refine Sd FL ?_;refine DOps.sLn (storeL1 (TK rfl) rfl rfl rfl rfl (by repeat (first|exact SetAt.zero|apply SetAt.succ)) (by repeat (first|exact SetAt.zero|apply SetAt.succ))) ?_
     refine DOps.nil (by decide +kernel) ?_;refine hK24 _ ?_;clear hK24 K24;refine region ?_;refine SI ?_;refine S Mv (nil ?_);exact hK18 _ (n18,(s26_19+1),(TSel.mk y20_l1.FKind y20_l1.FAlias y20_l1.FName y20_l1.FOn x28 y20_l1.FDirs y20_l1.FSels.nl y20_l1.FSels.l)) wA hE (nS _)
    refine AWp.exit ?_;exact hK7 _ y20_l1 wA hE
 rintro y8_l1 hE;try dsimp only at hE
 unfold Z51_j7 at hE;refine seqJ (TA 2 (TA 3 kN)) (fun(z:TSel)=>[]) (fun z=>[TSel.c TSel.zero,((intE .i64) z.FKind++strE z.FAlias++strE z.FName++strE z.FOn++[Sl.d 6 TArg.c (some tk3_4) z.FArgs]++(fun s=>[Sl.d 2 TDir.c none s]) z.FDirs++(fun s=>[Sl.d 7 TSel.c none s]) z.FSels)]) (fun z=>(H.set tk3_4 (some (.tok 6 z.FArgs.l.length)))) (fun z=>Z51_j9 z=some r) ?_ ?_
 ·intro K9 hK9;refine seqR (S Fv (S Ld (S BI (nil ?_))));refine cE hE (fun hc13 hE=>?_) (fun hc13 hE=>?_)
  ·refine AWp.draw rfl ?_;obtain⟨x14,gx14,hE⟩:=bO hE;refine Scd rfl rfl (Z132_walk gx14) ?_;refine Sd BU (Sd Fv (Sd Ld ?_));obtain⟨x15,gx15,hE⟩:=bO hE;refine Scd rfl rfl (Z128_walk gx15) ?_;refine Sd BU (Sd BV (Sd BU (Sd BV (Sd FL ?_))));refine DOps.sLn (storeL1 (TK rfl) rfl rfl rfl rfl (by repeat (first|exact SetAt.zero|apply SetAt.succ)) (by repeat (first|exact SetAt.zero|apply SetAt.succ))) ?_;refine DOps.nil (by decide +kernel) ?_
   exact hK9 _ (TSel.mk y8_l1.FKind y8_l1.FAlias y8_l1.FName y8_l1.FOn y8_l1.FArgs (⟨false,[(TDir.mk ([115,116,114,101,97,109]:Bs) (⟨false,[(TArg.mk ([108,97,98,101,108]:Bs) x14),(TArg.mk ([105,110,105,116,105,97,108,67,111,117,110,116]:Bs) x15)]⟩:Sl TArg))]⟩:Sl TDir) y8_l1.FSels.nl y8_l1.FSels.l) wA hE
  refine AWp.skip ?_;exact hK9 _ y8_l1 wA hE
 rintro y10_l1 hE;try dsimp only at hE
 unfold Z51_j9 at hE;refine seqK fun K11 hK11=>?_;refine AWp.relocal 1 _ rfl (fun j w cs hh hx=>untok_cell 4 hx rfl) ?_;refine AWp.relocal 1 (TSel.c y10_l1) rfl (fun j w cs hh hx=>by rw [TSel.cu_eq]; exact hx) ?_;refine region ?_;refine S LL ?_;refine Sf ?_;refine nil ?_;refine hK11 _ ?_;clear hK11 K11;refine AWp.ret ?_;repeat (first|refine xBlock_ret ?_|refine xThen_ret ?_)
 obtain rfl:=oJ hE;refine retQ.retF H rfl ⟨rfl,rfl⟩ ?_
 first|exact Heap.sub_set htk3_4|(simp only [Heap.set_set]; exact Heap.sub_set htk3_4)
theorem normal_sels_all:∀(n:Nat),(∀{a0:Sl Z8}{a1:Bs}{w0:Option Nat}{r:Sl TSel},normal_sels_n n a0 a1=some r->∀(H:Heap),AC Tryz.prog 48 [.d (Sl.d 9 Z8.c w0 a0),.d (.str a1)] H fun v h'=>v=.a (.d (Sl.d 7 TSel.c none r))/\h'=H)/\(∀{a0:Z8}{r:TSel},Z51_n n a0=some r->∀(H:Heap),AC Tryz.prog 87 [.agg (Z8.c a0)] H fun v h'=>v=.a (.agg (TSel.c r))/\h'=H)
 | 0=>⟨fun hE=>by first|cases hE|(rw [normal_sels_n] at hE; cases hE),fun hE=>by first|cases hE|(rw [Z51_n] at hE; cases hE)⟩
 | n+1=>⟨normal_sels_step n (normal_sels_all n).1 (normal_sels_all n).2,Z51_step n (normal_sels_all n).1 (normal_sels_all n).2⟩
def normal_sels (a0:(Sl Z8)) (a1:Bs):Option (Sl TSel):=normal_sels_n F0 a0 a1
theorem normal_sels_walk {a0:Sl Z8}{a1:Bs}{w0:Option Nat}{r:Sl TSel}(hE:normal_sels a0 a1=some r) (H:Heap) :AC Tryz.prog 48 [.d (Sl.d 9 Z8.c w0 a0),.d (.str a1)] H fun v h'=>v=.a (.d (Sl.d 7 TSel.c none r))/\h'=H:=(normal_sels_all F0).1 hE H 
def Z124_j3  (y4_l1:Z11):Option Z11:=some y4_l1
def Z124 (a0:Bool):Option Z11:=bif a0 then(Z124_j3   (Z11.mk ((Z11.mk (1:Int) (0:Int) ([]:Bs) true ([]) (Sl.nil:Sl Bs)).FKind) (1:Int) ((Z11.mk (1:Int) (0:Int) ([]:Bs) true ([]) (Sl.nil:Sl Bs)).FText) ((Z11.mk (1:Int) (0:Int) ([]:Bs) true ([]) (Sl.nil:Sl Bs)).FItems).nl ((Z11.mk (1:Int) (0:Int) ([]:Bs) true ([]) (Sl.nil:Sl Bs)).FItems).l ((Z11.mk (1:Int) (0:Int) ([]:Bs) true ([]) (Sl.nil:Sl Bs)).FKeys))) else(Z124_j3   (Z11.mk (1:Int) (0:Int) ([]:Bs) true ([]) (Sl.nil:Sl Bs)))
theorem Z124_walk {a0:Bool}{r:Z11}(hE:Z124 a0=some r) (H:Heap) :AC Tryz.prog 49 [.d (.bool a0)] H fun v h'=>v=.a (.agg (Z11.c r))/\h'=H:=by
 unfold Z124 at hE;refine AC.oW 8 [.cell 2 58] Tryz.call49 Tryz.func49 ?_;refine seqR ?_;refine Sl ?_;refine nil ?_;refine seqR (S BU ?_);refine Sl ?_;refine Sf ?_;refine nil ?_;refine seqJ (TA 2 (TA 3 kN)) (fun(z:Z11)=>[]) (fun z=>[Z11.c Z11.zero,Z11.c z]) (fun z=>H) (fun z=>Z124_j3 z=some r) ?_ ?_
 ·intro K3 hK3;refine seqR (S Mv (nil ?_));refine cE hE (fun hc7 hE=>?_) (fun hc7 hE=>?_)
  ·refine region ?_;refine S FL ?_;refine AOps.relocal 1 (Z11.cu (Z11.mk (1:Int) (0:Int) ([]:Bs) true ([]) (Sl.nil:Sl Bs))) rfl (fun j w cs hh hx=>by rw [<- Z11.cu_eq]; exact hx) ?_;refine Sf ?_;refine AOps.relocal 1 (Z11.c (Z11.mk ((Z11.mk (1:Int) (0:Int) ([]:Bs) true ([]) (Sl.nil:Sl Bs)).FKind) (1:Int) ((Z11.mk (1:Int) (0:Int) ([]:Bs) true ([]) (Sl.nil:Sl Bs)).FText) ((Z11.mk (1:Int) (0:Int) ([]:Bs) true ([]) (Sl.nil:Sl Bs)).FItems).nl ((Z11.mk (1:Int) (0:Int) ([]:Bs) true ([]) (Sl.nil:Sl Bs)).FItems).l ((Z11.mk (1:Int) (0:Int) ([]:Bs) true ([]) (Sl.nil:Sl Bs)).FKeys))) rfl (fun j w cs hh hx=>by rw [Z11.cu_eq]; exact hx) ?_
   refine nil ?_;exact hK3 _ (Z11.mk ((Z11.mk (1:Int) (0:Int) ([]:Bs) true ([]) (Sl.nil:Sl Bs)).FKind) (1:Int) ((Z11.mk (1:Int) (0:Int) ([]:Bs) true ([]) (Sl.nil:Sl Bs)).FText) ((Z11.mk (1:Int) (0:Int) ([]:Bs) true ([]) (Sl.nil:Sl Bs)).FItems).nl ((Z11.mk (1:Int) (0:Int) ([]:Bs) true ([]) (Sl.nil:Sl Bs)).FItems).l ((Z11.mk (1:Int) (0:Int) ([]:Bs) true ([]) (Sl.nil:Sl Bs)).FKeys)) wA hE
  refine AWp.skip ?_;exact hK3 _ (Z11.mk (1:Int) (0:Int) ([]:Bs) true ([]) (Sl.nil:Sl Bs)) wA hE
 rintro y4_l1 hE;try dsimp only at hE
 unfold Z124_j3 at hE;refine seqR (S LL ?_);refine Sf ?_;refine nil ?_;exact rt hE
def Z45_j5  (y6_l1:TOp):Option Z10:=some (Z10.mk (⟨false,[y6_l1]⟩:Sl TOp) (Sl.nil:Sl Z5))
def Z45 (a0:Z9):Option Z10:=(Z83 a0.FKind).bind fun x3=>(normal_sels a0.FPicks x3).bind fun x4=>bif (decide (((a0.FPicks.l.length:Nat):Int)=(0:Int))) then((Z124 true).bind fun x11=>Z45_j5   (TOp.mk ((TOp.mk a0.FKind ([]:Bs) (Sl.nil:Sl TVar) x4).FKind) ((TOp.mk a0.FKind ([]:Bs) (Sl.nil:Sl TVar) x4).FName) ((TOp.mk a0.FKind ([]:Bs) (Sl.nil:Sl TVar) x4).FVars) (⟨false,[(TSel.mk (1:Int) ([]:Bs) ([95,95,116,121,112,101,110,97,109,101]:Bs) ([]:Bs) (Sl.nil:Sl TArg) (⟨false,[(TDir.mk ([115,107,105,112]:Bs) (⟨false,[(TArg.mk ([105,102]:Bs) x11)]⟩:Sl TArg))]⟩:Sl TDir) true ([]))]⟩:Sl TSel))) else(Z45_j5   (TOp.mk a0.FKind ([]:Bs) (Sl.nil:Sl TVar) x4))
theorem Z45_walk {a0:Z9}{r:Z10}(hE:Z45 a0=some r) (H:Heap) :AC Tryz.prog 18 [.agg (Z9.c a0)] H fun v h'=>v=.a (.agg (Z10.c r))/\h'=H:=by
 unfold Z45 at hE;refine AC.oW 28 [.cell 2 40] Tryz.call18 Tryz.func18 ?_;refine seqR (S BX ?_);refine Sl ?_;refine nil ?_;refine AWp.seqD (Sd Fv (Sd Ld (Sd Fv (Sd Ld (Sd Fv (Sd Ld ?_))))));obtain⟨x3,gx3,hE⟩:=bO hE;refine Scd rfl rfl (Z83_walk gx3) ?_;obtain⟨x4,gx4,hE⟩:=bO hE;refine Scd rfl rfl (normal_sels_walk gx4) ?_;refine Sd BU ?_;refine DOps.sB (TK rfl) rfl rfl ?_ (by repeat (first|exact Snoc.nil|apply Snoc.cons))
 refine DOps.sLn (storeLFA (TK rfl) rfl rfl rfl rfl rfl) ?_;refine DOps.nil (by decide +kernel) ?_;refine seqJ (TA 2 (TA 3 kN)) (fun(z:TOp)=>[]) (fun z=>[Z10.c Z10.zero,TOp.c z]) (fun z=>H) (fun z=>Z45_j5 z=some r) ?_ ?_
 ·intro K5 hK5;refine seqR (S Fv (S Ld ?_));refine sLen (f:=Z8.c) (s:=a0.FPicks) (TK rfl) rfl rfl rfl rfl fun hL9=>?_;refine S BI (nil ?_);refine cE hE (fun hc10 hE=>?_) (fun hc10 hE=>?_)
  ·refine region ?_;obtain⟨x11,gx11,hE⟩:=bO hE;refine Sc rfl rfl (Z124_walk gx11) ?_;refine S BU (S BV (S BU (S BV (S BU (S BV (S FL ?_))))));refine Sf ?_;refine nil ?_;exact hK5 _ (TOp.mk ((TOp.mk a0.FKind ([]:Bs) (Sl.nil:Sl TVar) x4).FKind) ((TOp.mk a0.FKind ([]:Bs) (Sl.nil:Sl TVar) x4).FName) ((TOp.mk a0.FKind ([]:Bs) (Sl.nil:Sl TVar) x4).FVars) (⟨false,[(TSel.mk (1:Int) ([]:Bs) ([95,95,116,121,112,101,110,97,109,101]:Bs) ([]:Bs) (Sl.nil:Sl TArg) (⟨false,[(TDir.mk ([115,107,105,112]:Bs) (⟨false,[(TArg.mk ([105,102]:Bs) x11)]⟩:Sl TArg))]⟩:Sl TDir) true ([]))]⟩:Sl TSel)) wA hE
  refine AWp.skip ?_;exact hK5 _ (TOp.mk a0.FKind ([]:Bs) (Sl.nil:Sl TVar) x4) wA hE
 rintro y6_l1 hE;try dsimp only at hE
 unfold Z45_j5 at hE;refine seqR (S LL (S BV (S BU ?_)));refine Sf ?_;refine nil ?_;exact rt hE
def Z39 :Option (TDoc×Z10×Z9):=some ((TDoc.mk (⟨false,[(TDef.mk (1:Int) ([81,117,101,114,121]:Bs) (Sl.nil:Sl Bs) (Sl.nil:Sl TDir) (⟨false,[(Z4.mk ([109,101]:Bs) (Sl.nil:Sl Z6) (TRef.mk ([85,115,101,114]:Bs) (Sl.nil:Sl Int)) (Sl.nil:Sl TDir))]⟩:Sl Z4) (Sl.nil:Sl Z7) (Sl.nil:Sl Z6)),(TDef.mk (1:Int) ([85,115,101,114]:Bs) (Sl.nil:Sl Bs) (Sl.nil:Sl TDir) (⟨false,[(Z4.mk ([110,97,109,101]:Bs) (Sl.nil:Sl Z6) (TRef.mk ([83,116,114,105,110,103]:Bs) (Sl.nil:Sl Int)) (Sl.nil:Sl TDir))]⟩:Sl Z4) (Sl.nil:Sl Z7) (Sl.nil:Sl Z6))]⟩:Sl TDef)),(Z10.mk (⟨false,[(TOp.mk (1:Int) ([]:Bs) (Sl.nil:Sl TVar) (⟨false,[(TSel.mk (1:Int) ([]:Bs) ([109,101]:Bs) ([]:Bs) (Sl.nil:Sl TArg) (Sl.nil:Sl TDir) ((⟨false,[(TSel.mk (1:Int) ([]:Bs) ([110,97,109,101]:Bs) ([]:Bs) (Sl.nil:Sl TArg) (Sl.nil:Sl TDir) true ([]))]⟩:Sl TSel).nl) ((⟨false,[(TSel.mk (1:Int) ([]:Bs) ([110,97,109,101]:Bs) ([]:Bs) (Sl.nil:Sl TArg) (Sl.nil:Sl TDir) true ([]))]⟩:Sl TSel).l))]⟩:Sl TSel))]⟩:Sl TOp) (Sl.nil:Sl Z5)),(Z9.mk (1:Int) (⟨false,[(Z8.mk ([109,101]:Bs) ([81,117,101,114,121]:Bs) ([109,101]:Bs) (Sl.nil:Sl TArg) ((Z4.mk ([109,101]:Bs) (Sl.nil:Sl Z6) (TRef.mk ([85,115,101,114]:Bs) (Sl.nil:Sl Int)) (Sl.nil:Sl TDir)).FType) ([]:Bs) (-1:Int) ((⟨false,[(Z8.mk ([110,97,109,101]:Bs) ([85,115,101,114]:Bs) ([110,97,109,101]:Bs) (Sl.nil:Sl TArg) ((Z4.mk ([110,97,109,101]:Bs) (Sl.nil:Sl Z6) (TRef.mk ([83,116,114,105,110,103]:Bs) (Sl.nil:Sl Int)) (Sl.nil:Sl TDir)).FType) ([]:Bs) (-1:Int) true ([]))]⟩:Sl Z8).nl) ((⟨false,[(Z8.mk ([110,97,109,101]:Bs) ([85,115,101,114]:Bs) ([110,97,109,101]:Bs) (Sl.nil:Sl TArg) ((Z4.mk ([110,97,109,101]:Bs) (Sl.nil:Sl Z6) (TRef.mk ([83,116,114,105,110,103]:Bs) (Sl.nil:Sl Int)) (Sl.nil:Sl TDir)).FType) ([]:Bs) (-1:Int) true ([]))]⟩:Sl Z8).l))]⟩:Sl Z8)))
theorem Z39_walk    {r:TDoc×Z10×Z9}(hE:Z39 =some r) (H:Heap) :AC Tryz.prog 24 [] H fun v h'=>v=.tup [.agg (TDoc.c r.1),.agg (Z10.c r.2.1),.agg (Z9.c r.2.2)]/\h'=H:=by
 unfold Z39 at hE;refine AC.oW 41 [.cell 0 24,.cell 1 40,.cell 2 27] Tryz.call24 Tryz.func24 ?_;refine seqR ?_;refine Sl ?_;refine Sl ?_;refine Sl ?_;refine nil ?_;refine seqR (S BU (S BU ?_));refine Sl ?_;refine Sf ?_;refine nil ?_;refine freezeA 3 _ rfl (KA 0 (KA 1 (KA 2 Keeps.nil))) ?_;refine seqR (S BU (S BU ?_));refine Sl ?_;refine Sf ?_;refine nil ?_;refine freezeA 4 _ rfl (KA 0 (KA 1 (KA 2 (KA 3 Keeps.nil)))) ?_
 refine seqR (S Ld (S BV (S BU (S Ld (S BV (S BU (S BV (S BU ?_))))))));refine Sl ?_;refine Sf ?_;refine nil ?_;refine freezeA 5 _ rfl (KA 0 (KA 1 (KA 2 (KA 3 (KA 4 Keeps.nil))))) ?_;refine seqR (S BU (S BV (S BU (S BV (S BU (S BV (S BU ?_)))))));refine Sl ?_;refine Sf ?_;refine nil ?_;refine freezeA 6 _ rfl (KA 0 (KA 1 (KA 2 (KA 3 (KA 4 (KA 5 Keeps.nil)))))) ?_;refine seqR (S Fv (S Ld (S BU ?_)))
 refine Sl ?_;refine Sf ?_;refine nil ?_;refine freezeA 7 _ rfl (KA 0 (KA 1 (KA 2 (KA 4 (KA 5 (KA 6 Keeps.nil)))))) ?_;refine seqR (S Fv (S Ld (S Ld (S BV (S BU ?_)))));refine Sl ?_;refine Sf ?_;refine AOps.relocal 3 (Z8.c (Z8.mk ([109,101]:Bs) ([81,117,101,114,121]:Bs) ([109,101]:Bs) (Sl.nil:Sl TArg) ((Z4.mk ([109,101]:Bs) (Sl.nil:Sl Z6) (TRef.mk ([85,115,101,114]:Bs) (Sl.nil:Sl Int)) (Sl.nil:Sl TDir)).FType) ([]:Bs) (-1:Int) ((⟨false,[(Z8.mk ([110,97,109,101]:Bs) ([85,115,101,114]:Bs) ([110,97,109,101]:Bs) (Sl.nil:Sl TArg) ((Z4.mk ([110,97,109,101]:Bs) (Sl.nil:Sl Z6) (TRef.mk ([83,116,114,105,110,103]:Bs) (Sl.nil:Sl Int)) (Sl.nil:Sl TDir)).FType) ([]:Bs) (-1:Int) true ([]))]⟩:Sl Z8).nl) ((⟨false,[(Z8.mk ([110,97,109,101]:Bs) ([85,115,101,114]:Bs) ([110,97,109,101]:Bs) (Sl.nil:Sl TArg) ((Z4.mk ([110,97,109,101]:Bs) (Sl.nil:Sl Z6) (TRef.mk ([83,116,114,105,110,103]:Bs) (Sl.nil:Sl Int)) (Sl.nil:Sl TDir)).FType) ([]:Bs) (-1:Int) true ([]))]⟩:Sl Z8).l))) rfl (fun j w cs hh hx=>by rw [Z8.cu_eq]; exact hx) ?_
 refine nil ?_;refine freezeA 8 _ rfl (KA 0 (KA 1 (KA 2 (KA 5 (KA 6 Keeps.nil))))) ?_;refine AWp.seqD (Sd Ld (Sd Ld (Sd Ld (Sd BV (Sd BU ?_)))));refine DOps.sLn (storeLFA (TK rfl) rfl rfl rfl rfl rfl) ?_;refine DOps.sLn (storeLFA (TK rfl) rfl rfl rfl rfl rfl) ?_;refine DOps.sLn (storeLFA (TK rfl) rfl rfl rfl rfl rfl) ?_;refine DOps.nil (by decide +kernel) ?_;exact rt hE
def Z34_j2  (y3_l0:Z11):Option (Z11×Bool):=some ((Z11.mk (0:Int) (0:Int) ([]:Bs) true ([]) (Sl.nil:Sl Bs)),false)
def Z34_l7 (a0:TDir) (a1:Bs) :Nat->Nat->Z11->Option (Z11×Bool)
 | 0,_,_=>none
 | n7+1,s11_8,y9_l0=>bif (decide (((s11_8:Nat):Int)<((a0.FArgs.l.length:Nat):Int))) then((a0.FArgs.l[s11_8]?).bind fun x15=>bif ((x15.FName==a1)) then(some (x15.FValue,true)) else((Z34_l7 a0 a1 n7) (s11_8+1) y9_l0)) else(Z34_j2   y9_l0)
def Z34 (a0:TDir) (a1:Bs):Option (Z11×Bool):=Z34_l7 a0 a1 (a0.FArgs.l.length+1) 0 Z11.zero
theorem Z34_walk {a0:TDir}{a1:Bs}{r:Z11×Bool}(hE:Z34 a0 a1=some r) (H:Heap) :AC Tryz.prog 233 [.agg (TDir.c a0),.d (.str a1)] H fun v h'=>v=.tup [.agg (Z11.c r.1),.d (.bool r.2)]/\h'=H:=by
 unfold Z34 at hE;refine AC.oW 23 [.cell 4 58,.tmp 5] Tryz.call233 Tryz.func233 ?_;refine seqR (S BX ?_);refine Sl ?_;refine S As (nil ?_);refine seqJ (TA 4 kN) (fun(z:Z11)=>[]) (fun z=>[Z11.c z]) (fun z=>H) (fun z=>Z34_j2 z=some r) ?_ ?_
 ·intro K2 hK2;refine seqR (S Fv (S Ld ?_));refine sLen (f:=TArg.c) (s:=a0.FArgs) (TK rfl) rfl rfl rfl rfl fun hL6=>?_;refine S Mv (nil ?_);refine block ?_;refine loopO (TA 1 (TA 4 (TA 9 (TA 10 kN)))) (fun(z:Nat×Nat×Z11)=>[(11,.a (.d (.int .i64 ((z.2.1:Nat):Int))))]) (fun z=>[Z11.c z.2.2]) (fun z=>H) (fun z=>z.1) (fun z=>Z34_l7 a0 a1 z.1 z.2.1 z.2.2=some r) ((a0.FArgs.l.length+1),0,Z11.zero) hE wA ?_
  rintro ⟨n7,s11_8,y9_l0⟩ hE K7 hK7;try dsimp only at hE
  cases n7 with
  | zero=>cases hE
  | succ n7 =>
    rw [Z34_l7] at hE;refine seqR (S BI (nil ?_));refine seqK fun K11 hK11=>?_;refine cE hE (fun hc12 hE=>?_) (fun hc12 hE=>?_)
    ·try dsimp only at hc12
     have hf12:=oD hc12;refine sk hK11 ?_;clear hK11 K11;refine seqK fun K13 hK13=>?_;refine block ?_;refine seqR ?_;obtain⟨x15,gx15,hE⟩:=bO hE;refine S (ix TArg.c s11_8 gx15) (S Ld ?_);refine Sl ?_;refine Sf ?_;refine nil ?_;refine freezeA 7 _ rfl (KA 1 (KA 4 (KA 9 (KA 10 (KA 11 Keeps.nil))))) ?_;refine seqR (S Fv (S Ld (S Mv (S BS (nil ?_)))));refine cE hE (fun hc17 hE=>?_) (fun hc17 hE=>?_)
     ·refine seqR (S Fv (S Ld ?_));refine Sf ?_;refine S As (nil ?_);exact rt hE
     refine sk hK13 ?_;clear hK13 K13;refine region ?_;refine SI ?_;refine S Mv (nil ?_);exact hK7 _ (n7,(s11_8+1),y9_l0) wA hE (nS _)
    refine AWp.exit ?_;exact hK2 _ y9_l0 wA hE
 rintro y3_l0 hE;try dsimp only at hE
 unfold Z34_j2 at hE;refine seqR (S BU ?_);refine Sf ?_;refine S As (nil ?_);exact rt hE
def Z36_j4  (y5_l0:Z11):Option Bool:=some ((decide (y5_l0.FKind=(1:Int)))&&(decide (y5_l0.FInt=(1:Int))))
def Z36 (a0:TDir) (a1:Z11):Option Bool:=(Z34 a0 ([105,102]:Bs)).bind fun x3=>bif (decide (x3.1.FKind=(7:Int))) then((Z127 a1 x3.1.FText).bind fun x9=>Z36_j4   x9.1) else(Z36_j4   x3.1)
theorem Z36_walk {a0:TDir}{a1:Z11}{r:Bool}(hE:Z36 a0 a1=some r) (H:Heap) :AC Tryz.prog 232 [.agg (TDir.c a0),.agg (Z11.c a1)] H fun v h'=>v=.a (.d (.bool r))/\h'=H:=by
 unfold Z36 at hE;refine AC.oW 30 [.tmp 4] Tryz.call232 Tryz.func232 ?_;refine seqR (S BX (S BX (S As (nil ?_))));refine seqR (S Ld ?_);obtain⟨x3,gx3,hE⟩:=bO hE;refine Sc rfl rfl (Z34_walk gx3) ?_;refine S Mv (S EX (S EX ?_));refine Sl ?_;refine Sf ?_;refine S As (nil ?_);refine seqJ (TA 5 kN) (fun(z:Z11)=>[]) (fun z=>[Z11.c z]) (fun z=>H) (fun z=>Z36_j4 z=some r) ?_ ?_
 ·intro K4 hK4;refine seqR (S FL (S LL (S BI (nil ?_))));refine cE hE (fun hc8 hE=>?_) (fun hc8 hE=>?_)
  ·refine region ?_;refine S Ld (S FL (S LL ?_));obtain⟨x9,gx9,hE⟩:=bO hE;refine Sc rfl rfl (Z127_walk gx9) ?_;refine S Mv (S EX (S EX ?_));refine Sf ?_;refine nil ?_;exact hK4 _ x9.1 wA hE
  refine AWp.skip ?_;exact hK4 _ x3.1 wA hE
 rintro y5_l0 hE;try dsimp only at hE
 unfold Z36_j4 at hE;refine seqR (S FL (S LL (S BI (S Mv (G0 FL ?_)))));refine gC rfl rfl (fun hC=>ungdLA (k:=26) rfl (loadL (TK rfl) rfl rfl rfl rfl)) rfl ?_;refine G1 27 rfl BI ?_;refine S PA (S As (nil ?_));exact rt hE
end Go.Proofs
