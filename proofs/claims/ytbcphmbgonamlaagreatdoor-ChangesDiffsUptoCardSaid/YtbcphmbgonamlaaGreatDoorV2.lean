import Derived.Test.YtbcphmbgonamlaaGreatDoorV1
set_option maxRecDepth 100000
set_option maxHeartbeats 2000000
set_option linter.unusedVariables false
set_option linter.unusedSimpArgs false
namespace Go.Proofs
open Go Go.Ab
open AOps Cert AWp Keeps KeepsT
variable {lou:Lou}
def Z73_j3  (s5_4:Int):Option Int:=some s5_4
def Z73_j14 (s6_9:Nat) (k_next_7:Int->Nat->Option Int) (s5_15:Int):Option Int:=k_next_7 s5_15 (s6_9+1)
def Z73_l19 (a0:(Sl TDir)) (a1:Int) (s6_9:Nat) (k_next_7:Int->Nat->Option Int):Nat->Int->Nat->Option Int
 | 0,_,_=>none
 | n19+1,s5_20,s7_21=>(a0.l[s6_9]?).bind fun x24=>bif ((decide (((s7_21:Nat):Int)<((x24.FArgs.l.length:Nat):Int)))&&(decide (s5_20<=a1))) then((addC s5_20 (1:Int)).bind fun x28=>(a0.l[s6_9]?).bind fun x29=>(x29.FArgs.l[s7_21]?).bind fun x30=>(Z54 x30.FValue a1).bind fun x31=>(addC x28 x31).bind fun x32=>(Z73_l19 a0 a1 s6_9 k_next_7 n19) x32 (s7_21+1)) else(Z73_j14 s6_9 k_next_7 s5_20)
def Z73_l7 (a0:(Sl TDir)) (a1:Int) :Nat->Int->Nat->Option Int
 | 0,_,_=>none
 | n7+1,s5_8,s6_9=>bif ((decide (((s6_9:Nat):Int)<((a0.l.length:Nat):Int)))&&(decide (s5_8<=a1))) then((addC s5_8 (1:Int)).bind fun x17=>Z73_l19 a0 a1 s6_9 ((Z73_l7 a0 a1 n7)) (Option.elim (a0.l[s6_9]?) 1 (fun x24=>x24.FArgs.l.length+1)) x17 0) else(Z73_j3   s5_8)
def Z73 (a0:(Sl TDir)) (a1:Int):Option Int:=Z73_l7 a0 a1 (a0.l.length+1) (0:Int) 0
theorem Z73_walk {a0:Sl TDir}{a1:Int}{w0:Option Nat}{r:Int}(hE:Z73 a0 a1=some r) (H:Heap) :ACalls Tryz.prog 57 [.d (Sl.d 2 TDir.c w0 a0),.d (.int .i64 a1)] H fun v h'=>v=.a (.d (.int .i64 r))/\h'=H:=by
 unfold Z73 at hE;refine ACalls.oW 51 [.tmp 4] Tryz.call57 Tryz.func57 ?_;refine seqR (S As (nil ?_));refine seqR (S As (nil ?_));refine seqJH KeepsT.nil (fun(z:Int)=>[(5,.a (.d (.int .i64 z)))]) (fun z=>H) (fun z=>Z73_j3 z=some r) ?_ ?_
 ·intro K3 hK3;refine seqR (S As (nil ?_));refine block ?_;refine loopH (TA 0 (TA 1 KeepsT.nil)) (fun(z:Nat×Int×Nat)=>[(5,.a (.d (.int .i64 z.2.1))),(6,.a (.d (.int .i64 ((z.2.2:Nat):Int))))]) (fun z=>H) (fun z=>z.1) (fun z=>Z73_l7 a0 a1 z.1 z.2.1 z.2.2=some r) ((a0.l.length+1),(0:Int),0) hE Weak.toA ?_;rintro ⟨n7,s5_8,s6_9⟩ hE K7 hK7;try dsimp only at hE
  cases n7 with
  | zero=>cases hE
  | succ n7 =>
    rw [Z73_l7] at hE;refine seqK fun K10 hK10=>?_;refine seqR (S Mv (S Mv ?_));refine sLen (f:=TDir.c) (s:=a0) (TK rfl) rfl rfl rfl rfl fun hL12=>?_;refine S BI (S Mv (G0 Mv (G0 Mv ?_)));refine G2 13 14 rfl rfl BI ?_;refine S PA (nil ?_);refine cE hE (fun hc13 hE=>?_) (fun hc13 hE=>?_)
    ·try dsimp only at hc13
     have hf13:=of_decide_eq_true (and_left hc13);refine sk hK10 ?_;clear hK10 K10;refine seqJH (TA 0 (TA 1 (TA 6 KeepsT.nil))) (fun(z:Int)=>[(5,.a (.d (.int .i64 z)))]) (fun z=>H) (fun z=>Z73_j14 s6_9 ((Z73_l7 a0 a1 n7)) z=some r) ?_ ?_
     ·intro K14 hK14;refine block ?_;refine seqR (S Mv ?_);obtain⟨x17,gx17,hE⟩:=bO hE;refine s0 (addM rfl rfl gx17) rfl ?_;refine S As (nil ?_);refine seqR (S As (nil ?_));refine block ?_;refine loopH (TA 0 (TA 1 (TA 6 KeepsT.nil))) (fun(z:Nat×Int×Nat)=>[(5,.a (.d (.int .i64 z.2.1))),(7,.a (.d (.int .i64 ((z.2.2:Nat):Int))))]) (fun z=>H) (fun z=>z.1) (fun z=>Z73_l19 a0 a1 s6_9 ((Z73_l7 a0 a1 n7)) z.1 z.2.1 z.2.2=some r) ((Option.elim (a0.l[s6_9]?) 1 (fun x24=>x24.FArgs.l.length+1)),x17,0) hE Weak.toA ?_
      rintro ⟨n19,s5_20,s7_21⟩ hE K19 hK19;try dsimp only at hE
      cases n19 with
      | zero=>cases hE
      | succ n19 =>
        rw [Z73_l19] at hE;refine seqK fun K22 hK22=>?_;refine seqR (S Mv (S Mv (S Mv ?_)));obtain⟨x24,gx24,hE⟩:=bO hE;refine S (ix TDir.c s6_9 gx24) (S Fv (S Ld ?_));refine sLen (f:=TArg.c) (s:=x24.FArgs) (TK rfl) rfl rfl rfl rfl fun hL25=>?_;refine S BI (S Mv (G0 Mv (G0 Mv ?_)));refine G2 30 31 rfl rfl BI ?_;refine S PA (nil ?_);refine cE hE (fun hc26 hE=>?_) (fun hc26 hE=>?_)
        ·try dsimp only at hc26
         have hf26:=of_decide_eq_true (and_left hc26);refine sk hK22 ?_;clear hK22 K22;refine seqK fun K27 hK27=>?_;refine block ?_;refine region ?_;refine S Mv ?_;obtain⟨x28,gx28,hE⟩:=bO hE;refine s0 (addM rfl rfl gx28) rfl ?_;refine S Mv (S Mv ?_);obtain⟨x29,gx29,hE⟩:=bO hE;refine S (ix TDir.c s6_9 gx29) (S Fv (S Ld (S Mv ?_)));obtain⟨x30,gx30,hE⟩:=bO hE;refine S (ix TArg.c s7_21 gx30) (S Fv (S Ld (S Mv ?_)))
         obtain⟨x31,gx31,hE⟩:=bO hE;refine Sc rfl rfl (Z54_walk gx31) ?_;obtain⟨x32,gx32,hE⟩:=bO hE;refine s0 (addM rfl rfl gx32) rfl ?_;refine S As (nil ?_);refine hK27 _ ?_;clear hK27 K27;refine region ?_;refine S Mv ?_;refine SI ?_;refine S As (nil ?_);exact hK19 _ (n19,x32,(s7_21+1)) Weak.toA hE (Nat.lt_succ_self _)
        refine AWp.exit ?_;exact hK14 _ s5_20 Weak.toA hE
     rintro s5_15 hE;try dsimp only at hE
     unfold Z73_j14 at hE;refine region ?_;refine S Mv ?_;refine SI ?_;refine S As (nil ?_);exact hK7 _ (n7,s5_15,(s6_9+1)) Weak.toA hE (Nat.lt_succ_self _)
    refine AWp.exit ?_;exact hK3 _ s5_8 Weak.toA hE
 rintro s5_4 hE;try dsimp only at hE
 unfold Z73_j3 at hE;refine seqR (S Mv (S As (nil ?_)));exact rt hE
def Z74_j3  (s5_4:Int):Option Int:=some s5_4
def Z74_l7 (a0:(Sl Z5)) (a1:Int) :Nat->Int->Nat->Option Int
 | 0,_,_=>none
 | n7+1,s5_8,s6_9=>bif ((decide (((s6_9:Nat):Int)<((a0.l.length:Nat):Int)))&&(decide (s5_8<=a1))) then((addC s5_8 (1:Int)).bind fun x15=>(a0.l[s6_9]?).bind fun x16=>(addC x15 ((x16.FType.FWraps.l.length:Nat):Int)).bind fun x17=>(a0.l[s6_9]?).bind fun x18=>(Z54 x18.FDefault a1).bind fun x19=>(addC x17 x19).bind fun x20=>(a0.l[s6_9]?).bind fun x21=>(Z73 x21.FDirs a1).bind fun x22=>(addC x20 x22).bind fun x23=>(Z74_l7 a0 a1 n7) x23 (s6_9+1)) else(Z74_j3   s5_8)
def Z74 (a0:(Sl Z5)) (a1:Int):Option Int:=Z74_l7 a0 a1 (a0.l.length+1) (0:Int) 0
theorem Z74_walk {a0:Sl Z5}{a1:Int}{w0:Option Nat}{r:Int}(hE:Z74 a0 a1=some r) (H:Heap) :ACalls Tryz.prog 58 [.d (Sl.d 10 Z5.c w0 a0),.d (.int .i64 a1)] H fun v h'=>v=.a (.d (.int .i64 r))/\h'=H:=by
 unfold Z74 at hE;refine ACalls.oW 45 [.tmp 4] Tryz.call58 Tryz.func58 ?_;refine seqR (S As (nil ?_));refine seqR (S As (nil ?_));refine seqJH KeepsT.nil (fun(z:Int)=>[(5,.a (.d (.int .i64 z)))]) (fun z=>H) (fun z=>Z74_j3 z=some r) ?_ ?_
 ·intro K3 hK3;refine seqR (S As (nil ?_));refine block ?_;refine loopH (TA 0 (TA 1 KeepsT.nil)) (fun(z:Nat×Int×Nat)=>[(5,.a (.d (.int .i64 z.2.1))),(6,.a (.d (.int .i64 ((z.2.2:Nat):Int))))]) (fun z=>H) (fun z=>z.1) (fun z=>Z74_l7 a0 a1 z.1 z.2.1 z.2.2=some r) ((a0.l.length+1),(0:Int),0) hE Weak.toA ?_;rintro ⟨n7,s5_8,s6_9⟩ hE K7 hK7;try dsimp only at hE
  cases n7 with
  | zero=>cases hE
  | succ n7 =>
    rw [Z74_l7] at hE;refine seqK fun K10 hK10=>?_;refine seqR (S Mv (S Mv ?_));refine sLen (f:=Z5.c) (s:=a0) (TK rfl) rfl rfl rfl rfl fun hL12=>?_;refine S BI (S Mv (G0 Mv (G0 Mv ?_)));refine G2 12 13 rfl rfl BI ?_;refine S PA (nil ?_);refine cE hE (fun hc13 hE=>?_) (fun hc13 hE=>?_)
    ·try dsimp only at hc13
     have hf13:=of_decide_eq_true (and_left hc13);refine sk hK10 ?_;clear hK10 K10;refine seqK fun K14 hK14=>?_;refine block ?_;refine AWp.draw rfl ?_;refine Sd Mv ?_;obtain⟨x15,gx15,hE⟩:=bO hE;refine DOps.s0 (addM rfl rfl gx15) rfl ?_;refine Sd Mv (Sd Mv ?_);obtain⟨x16,gx16,hE⟩:=bO hE;refine Sd (ix Z5.c s6_9 gx16) (Sd Fv (Sd Fv (Sd Ld ?_)));refine DOps.s0 (lenM' (f:=(intE .i64)) (s:=x16.FType.FWraps) (TK rfl) rfl rfl rfl) rfl ?_
     obtain⟨x17,gx17,hE⟩:=bO hE;refine DOps.s0 (addM rfl rfl gx17) rfl ?_;refine Sd Mv (Sd Mv ?_);obtain⟨x18,gx18,hE⟩:=bO hE;refine Sd (ix Z5.c s6_9 gx18) (Sd Fv (Sd Ld (Sd Mv ?_)));obtain⟨x19,gx19,hE⟩:=bO hE;refine Scd rfl rfl (Z54_walk gx19) ?_;obtain⟨x20,gx20,hE⟩:=bO hE;refine DOps.s0 (addM rfl rfl gx20) rfl ?_;refine Sd Mv (Sd Mv ?_);obtain⟨x21,gx21,hE⟩:=bO hE;refine Sd (ix Z5.c s6_9 gx21) (Sd Fv (Sd Ld (Sd Mv ?_)))
     obtain⟨x22,gx22,hE⟩:=bO hE;refine Scd rfl rfl (Z73_walk gx22) ?_;obtain⟨x23,gx23,hE⟩:=bO hE;refine DOps.s0 (addM rfl rfl gx23) rfl ?_;refine Sd As ?_;refine DOps.nil (by decide +kernel) ?_;refine hK14 _ ?_;clear hK14 K14;refine region ?_;refine S Mv ?_;refine SI ?_;refine S As (nil ?_);exact hK7 _ (n7,x23,(s6_9+1)) Weak.toA hE (Nat.lt_succ_self _)
    refine AWp.exit ?_;exact hK3 _ s5_8 Weak.toA hE
 rintro s5_4 hE;try dsimp only at hE
 unfold Z74_j3 at hE;refine seqR (S Mv (S As (nil ?_)));exact rt hE
def Z65_j4  (s5_5:Int):Option Int:=some s5_5
def Z65_j15 (s6_10:Nat) (k_next_8:Int->Nat->Option Int) (s5_16:Int):Option Int:=k_next_8 s5_16 (s6_10+1)
def Z65_l28 (a1:Int) (s6_10:Nat) (x18:TDef) (k_next_8:Int->Nat->Option Int):Nat->Int->Nat->Option Int
 | 0,_,_=>none
 | n28+1,s5_29,s9_30=>bif ((decide (((s9_30:Nat):Int)<((x18.FMembers.l.length:Nat):Int)))&&(decide (s5_29<=a1))) then((addC s5_29 (1:Int)).bind fun x36=>(x18.FMembers.l[s9_30]?).bind fun x37=>(Z73 x37.FDirs a1).bind fun x38=>(addC x36 x38).bind fun x39=>(Z65_l28 a1 s6_10 x18 k_next_8 n28) x39 (s9_30+1)) else(Z65_j15 s6_10 k_next_8 s5_29)
def Z65_j25 (a1:Int) (s6_10:Nat) (x18:TDef) (k_next_8:Int->Nat->Option Int) (s5_26:Int):Option Int:=Z65_l28 a1 s6_10 x18 k_next_8 (x18.FMembers.l.length+1) s5_26 0
def Z65_l41 (a1:Int) (s6_10:Nat) (x18:TDef) (k_next_8:Int->Nat->Option Int):Nat->Int->Nat->Option Int
 | 0,_,_=>none
 | n41+1,s5_42,s8_43=>bif ((decide (((s8_43:Nat):Int)<((x18.FFields.l.length:Nat):Int)))&&(decide (s5_42<=a1))) then((addC s5_42 (1:Int)).bind fun x49=>(x18.FFields.l[s8_43]?).bind fun x50=>(addC x49 ((x50.FType.FWraps.l.length:Nat):Int)).bind fun x51=>(x18.FFields.l[s8_43]?).bind fun x52=>(Z74 x52.FArgs a1).bind fun x53=>(addC x51 x53).bind fun x54=>(x18.FFields.l[s8_43]?).bind fun x55=>(Z73 x55.FDirs a1).bind fun x56=>(addC x54 x56).bind fun x57=>(Z65_l41 a1 s6_10 x18 k_next_8 n41) x57 (s8_43+1)) else(Z65_j25 a1 s6_10 x18 k_next_8 s5_42)
def Z65_l8 (a0:TDoc) (a1:Int) :Nat->Int->Nat->Option Int
 | 0,_,_=>none
 | n8+1,s5_9,s6_10=>bif ((decide (((s6_10:Nat):Int)<((a0.FDefs.l.length:Nat):Int)))&&(decide (s5_9<=a1))) then((a0.FDefs.l[s6_10]?).bind fun x18=>(addC s5_9 ((x18.FImplements.l.length:Nat):Int)).bind fun x20=>(Z73 x18.FDirs a1).bind fun x21=>(addC x20 x21).bind fun x22=>(Z74 x18.FInputs a1).bind fun x23=>(addC x22 x23).bind fun x24=>Z65_l41 a1 s6_10 x18 ((Z65_l8 a0 a1 n8)) (x18.FFields.l.length+1) x24 0) else(Z65_j4   s5_9)
def Z65 (a0:TDoc) (a1:Int):Option Int:=Z65_l8 a0 a1 (a0.FDefs.l.length+1) ((a0.FDefs.l.length:Nat):Int) 0
theorem Z65_walk {a0:TDoc}{a1 r:Int}(hE:Z65 a0 a1=some r) (H:Heap) :ACalls Tryz.prog 22 [.agg (TDoc.c a0),.d (.int .i64 a1)] H fun v h'=>v=.a (.d (.int .i64 r))/\h'=H:=by
 unfold Z65 at hE;refine ACalls.oW 110 [.tmp 4] Tryz.call22 Tryz.func22 ?_;refine seqR (S BX (S As (nil ?_)));refine seqR (S Fv (S Ld ?_));refine sLen (f:=TDef.c) (s:=a0.FDefs) (TK rfl) rfl rfl rfl rfl fun hL3=>?_;refine S As (nil ?_);refine seqJH KeepsT.nil (fun(z:Int)=>[(5,.a (.d (.int .i64 z)))]) (fun z=>H) (fun z=>Z65_j4 z=some r) ?_ ?_
 ·intro K4 hK4;refine seqR (S As (nil ?_));refine block ?_;refine loopH (TA 1 (TA 2 KeepsT.nil)) (fun(z:Nat×Int×Nat)=>[(5,.a (.d (.int .i64 z.2.1))),(6,.a (.d (.int .i64 ((z.2.2:Nat):Int))))]) (fun z=>H) (fun z=>z.1) (fun z=>Z65_l8 a0 a1 z.1 z.2.1 z.2.2=some r) ((a0.FDefs.l.length+1),((a0.FDefs.l.length:Nat):Int),0) hE Weak.toA ?_;rintro ⟨n8,s5_9,s6_10⟩ hE K8 hK8;try dsimp only at hE
  cases n8 with
  | zero=>cases hE
  | succ n8 =>
    rw [Z65_l8] at hE;refine seqK fun K11 hK11=>?_;refine seqR (S Mv (S Fv (S Ld ?_)));refine sLen (f:=TDef.c) (s:=a0.FDefs) (TK rfl) rfl rfl rfl rfl fun hL13=>?_;refine S BI (S Mv (G0 Mv (G0 Mv ?_)));refine G2 19 20 rfl rfl BI ?_;refine S PA (nil ?_);refine cE hE (fun hc14 hE=>?_) (fun hc14 hE=>?_)
    ·try dsimp only at hc14
     have hf14:=of_decide_eq_true (and_left hc14);refine sk hK11 ?_;clear hK11 K11;refine seqJH (TA 1 (TA 2 (TA 6 KeepsT.nil))) (fun(z:Int)=>[(5,.a (.d (.int .i64 z)))]) (fun z=>H) (fun z=>Z65_j15 s6_10 ((Z65_l8 a0 a1 n8)) z=some r) ?_ ?_
     ·intro K15 hK15;refine block ?_;refine seqR (S Fv (S Ld (S Mv ?_)));obtain⟨x18,gx18,hE⟩:=bO hE;refine S (ix TDef.c s6_10 gx18) (S Ld ?_);refine Sl ?_;refine Sf ?_;refine nil ?_;refine freezeA 7 _ rfl (KA 1 (KA 2 (KA 5 (KA 6 Keeps.nil)))) ?_;refine AWp.seqD (Sd Mv (Sd Fv (Sd Ld ?_)));refine DOps.s0 (lenM' (f:=strE) (s:=x18.FImplements) (TK rfl) rfl rfl rfl) rfl ?_;obtain⟨x20,gx20,hE⟩:=bO hE;refine DOps.s0 (addM rfl rfl gx20) rfl ?_
      refine Sd Fv (Sd Ld (Sd Mv ?_));obtain⟨x21,gx21,hE⟩:=bO hE;refine Scd rfl rfl (Z73_walk gx21) ?_;obtain⟨x22,gx22,hE⟩:=bO hE;refine DOps.s0 (addM rfl rfl gx22) rfl ?_;refine Sd Fv (Sd Ld (Sd Mv ?_));obtain⟨x23,gx23,hE⟩:=bO hE;refine Scd rfl rfl (Z74_walk gx23) ?_;obtain⟨x24,gx24,hE⟩:=bO hE;refine DOps.s0 (addM rfl rfl gx24) rfl ?_;refine Sd As ?_;refine DOps.nil (by decide +kernel) ?_;refine seqJH (TA 1 (TA 2 (TA 6 (TA 7 KeepsT.nil)))) (fun(z:Int)=>[(5,.a (.d (.int .i64 z)))]) (fun z=>H) (fun z=>Z65_j25 a1 s6_10 x18 ((Z65_l8 a0 a1 n8)) z=some r) ?_ ?_
      ·intro K25 hK25;refine seqR (S As (nil ?_));refine block ?_;refine loopH (TA 1 (TA 2 (TA 6 (TA 7 KeepsT.nil)))) (fun(z:Nat×Int×Nat)=>[(5,.a (.d (.int .i64 z.2.1))),(8,.a (.d (.int .i64 ((z.2.2:Nat):Int))))]) (fun z=>H) (fun z=>z.1) (fun z=>Z65_l41 a1 s6_10 x18 ((Z65_l8 a0 a1 n8)) z.1 z.2.1 z.2.2=some r) ((x18.FFields.l.length+1),x24,0) hE Weak.toA ?_;rintro ⟨n41,s5_42,s8_43⟩ hE K41 hK41;try dsimp only at hE
       cases n41 with
       | zero=>cases hE
       | succ n41 =>
         rw [Z65_l41] at hE;refine seqK fun K44 hK44=>?_;refine seqR (S Mv (S Fv (S Ld ?_)));refine sLen (f:=Z4.c) (s:=x18.FFields) (TK rfl) rfl rfl rfl rfl fun hL46=>?_;refine S BI (S Mv (G0 Mv (G0 Mv ?_)));refine G2 51 52 rfl rfl BI ?_;refine S PA (nil ?_);refine cE hE (fun hc47 hE=>?_) (fun hc47 hE=>?_)
         ·try dsimp only at hc47
          have hf47:=of_decide_eq_true (and_left hc47);refine sk hK44 ?_;clear hK44 K44;refine seqK fun K48 hK48=>?_;refine block ?_;refine AWp.draw rfl ?_;refine Sd Mv ?_;obtain⟨x49,gx49,hE⟩:=bO hE;refine DOps.s0 (addM rfl rfl gx49) rfl ?_;refine Sd Fv (Sd Ld (Sd Mv ?_));obtain⟨x50,gx50,hE⟩:=bO hE;refine Sd (ix Z4.c s8_43 gx50) (Sd Fv (Sd Fv (Sd Ld ?_)));refine DOps.s0 (lenM' (f:=(intE .i64)) (s:=x50.FType.FWraps) (TK rfl) rfl rfl rfl) rfl ?_
          obtain⟨x51,gx51,hE⟩:=bO hE;refine DOps.s0 (addM rfl rfl gx51) rfl ?_;refine Sd Fv (Sd Ld (Sd Mv ?_));obtain⟨x52,gx52,hE⟩:=bO hE;refine Sd (ix Z4.c s8_43 gx52) (Sd Fv (Sd Ld (Sd Mv ?_)));obtain⟨x53,gx53,hE⟩:=bO hE;refine Scd rfl rfl (Z74_walk gx53) ?_;obtain⟨x54,gx54,hE⟩:=bO hE;refine DOps.s0 (addM rfl rfl gx54) rfl ?_;refine Sd Fv (Sd Ld (Sd Mv ?_));obtain⟨x55,gx55,hE⟩:=bO hE;refine Sd (ix Z4.c s8_43 gx55) (Sd Fv (Sd Ld (Sd Mv ?_)))
          obtain⟨x56,gx56,hE⟩:=bO hE;refine Scd rfl rfl (Z73_walk gx56) ?_;obtain⟨x57,gx57,hE⟩:=bO hE;refine DOps.s0 (addM rfl rfl gx57) rfl ?_;refine Sd As ?_;refine DOps.nil (by decide +kernel) ?_;refine hK48 _ ?_;clear hK48 K48;refine region ?_;refine S Mv ?_;refine SI ?_;refine S As (nil ?_);exact hK41 _ (n41,x57,(s8_43+1)) Weak.toA hE (Nat.lt_succ_self _)
         refine AWp.exit ?_;exact hK25 _ s5_42 Weak.toA hE
      rintro s5_26 hE;try dsimp only at hE
      unfold Z65_j25 at hE;refine seqR (S As (nil ?_));refine block ?_;refine loopH (TA 1 (TA 2 (TA 6 (TA 7 KeepsT.nil)))) (fun(z:Nat×Int×Nat)=>[(5,.a (.d (.int .i64 z.2.1))),(9,.a (.d (.int .i64 ((z.2.2:Nat):Int))))]) (fun z=>H) (fun z=>z.1) (fun z=>Z65_l28 a1 s6_10 x18 ((Z65_l8 a0 a1 n8)) z.1 z.2.1 z.2.2=some r) ((x18.FMembers.l.length+1),s5_26,0) hE Weak.toA ?_;rintro ⟨n28,s5_29,s9_30⟩ hE K28 hK28
      try dsimp only at hE
      cases n28 with
      | zero=>cases hE
      | succ n28 =>
        rw [Z65_l28] at hE;refine seqK fun K31 hK31=>?_;refine seqR (S Mv (S Fv (S Ld ?_)));refine sLen (f:=Z6.c) (s:=x18.FMembers) (TK rfl) rfl rfl rfl rfl fun hL33=>?_;refine S BI (S Mv (G0 Mv (G0 Mv ?_)));refine G2 92 93 rfl rfl BI ?_;refine S PA (nil ?_);refine cE hE (fun hc34 hE=>?_) (fun hc34 hE=>?_)
        ·try dsimp only at hc34
         have hf34:=of_decide_eq_true (and_left hc34);refine sk hK31 ?_;clear hK31 K31;refine seqK fun K35 hK35=>?_;refine block ?_;refine region ?_;refine S Mv ?_;obtain⟨x36,gx36,hE⟩:=bO hE;refine s0 (addM rfl rfl gx36) rfl ?_;refine S Fv (S Ld (S Mv ?_));obtain⟨x37,gx37,hE⟩:=bO hE;refine S (ix Z6.c s9_30 gx37) (S Fv (S Ld (S Mv ?_)));obtain⟨x38,gx38,hE⟩:=bO hE;refine Sc rfl rfl (Z73_walk gx38) ?_
         obtain⟨x39,gx39,hE⟩:=bO hE;refine s0 (addM rfl rfl gx39) rfl ?_;refine S As (nil ?_);refine hK35 _ ?_;clear hK35 K35;refine region ?_;refine S Mv ?_;refine SI ?_;refine S As (nil ?_);exact hK28 _ (n28,x39,(s9_30+1)) Weak.toA hE (Nat.lt_succ_self _)
        refine AWp.exit ?_;exact hK15 _ s5_29 Weak.toA hE
     rintro s5_16 hE;try dsimp only at hE
     unfold Z65_j15 at hE;refine region ?_;refine S Mv ?_;refine SI ?_;refine S As (nil ?_);exact hK8 _ (n8,s5_16,(s6_10+1)) Weak.toA hE (Nat.lt_succ_self _)
    refine AWp.exit ?_;exact hK4 _ s5_9 Weak.toA hE
 rintro s5_5 hE;try dsimp only at hE
 unfold Z65_j4 at hE;refine seqR (S Mv (S As (nil ?_)));exact rt hE
def Z79_j2  (y3_l0:TDef):Option (TDef×Bool):=some ((TDef.mk (0:Int) ([]:Bs) (Sl.nil:Sl Bs) (Sl.nil:Sl TDir) (Sl.nil:Sl Z4) (Sl.nil:Sl Z6) (Sl.nil:Sl Z5)),false)
def Z79_l6 (a0:TDoc) (a1:Bs) :Nat->Nat->TDef->Option (TDef×Bool)
 | 0,_,_=>none
 | n6+1,s6_7,y8_l0=>bif (decide (((s6_7:Nat):Int)<((a0.FDefs.l.length:Nat):Int))) then((a0.FDefs.l[s6_7]?).bind fun x15=>bif ((x15.FName==a1)) then((a0.FDefs.l[s6_7]?).bind fun x18=>some (x18,true)) else((Z79_l6 a0 a1 n6) (s6_7+1) y8_l0)) else(Z79_j2   y8_l0)
def Z79 (a0:TDoc) (a1:Bs):Option (TDef×Bool):=Z79_l6 a0 a1 (a0.FDefs.l.length+1) 0 TDef.zero
theorem Z79_walk {a0:TDoc}{a1:Bs}{r:TDef×Bool}(hE:Z79 a0 a1=some r) (H:Heap) :ACalls Tryz.prog 32 [.agg (TDoc.c a0),.d (.str a1)] H fun v h'=>v=.tup [.agg (TDef.c r.1),.d (.bool r.2)]/\h'=H:=by
 unfold Z79 at hE;refine ACalls.oW 28 [.cell 4 58,.tmp 5] Tryz.call32 Tryz.func32 ?_;refine seqR (S BX ?_);refine Sl ?_;refine S As (nil ?_);refine seqJ (TA 4 KeepsT.nil) (fun(z:TDef)=>[]) (fun z=>[TDef.c z]) (fun z=>H) (fun z=>Z79_j2 z=some r) ?_ ?_
 ·intro K2 hK2;refine seqR (S As (nil ?_));refine block ?_;refine loopO (TA 1 (TA 2 (TA 4 KeepsT.nil))) (fun(z:Nat×Nat×TDef)=>[(6,.a (.d (.int .i64 ((z.2.1:Nat):Int))))]) (fun z=>[TDef.c z.2.2]) (fun z=>H) (fun z=>z.1) (fun z=>Z79_l6 a0 a1 z.1 z.2.1 z.2.2=some r) ((a0.FDefs.l.length+1),0,TDef.zero) hE Weak.toA ?_;rintro ⟨n6,s6_7,y8_l0⟩ hE K6 hK6;try dsimp only at hE
  cases n6 with
  | zero=>cases hE
  | succ n6 =>
    rw [Z79_l6] at hE;refine seqK fun K9 hK9=>?_;refine seqR (S Mv (S Fv (S Ld ?_)));refine sLen (f:=TDef.c) (s:=a0.FDefs) (TK rfl) rfl rfl rfl rfl fun hL11=>?_;refine S BI (nil ?_);refine cE hE (fun hc12 hE=>?_) (fun hc12 hE=>?_)
    ·try dsimp only at hc12
     have hf12:=of_decide_eq_true hc12;refine sk hK9 ?_;clear hK9 K9;refine seqK fun K13 hK13=>?_;refine block ?_;refine seqR (S Fv (S Ld (S Mv ?_)));obtain⟨x15,gx15,hE⟩:=bO hE;refine S (ix TDef.c s6_7 gx15) (S Fv (S Ld (S Mv (S BS (nil ?_)))));refine cE hE (fun hc16 hE=>?_) (fun hc16 hE=>?_)
     ·refine seqR (S Fv (S Ld (S Mv ?_)));obtain⟨x18,gx18,hE⟩:=bO hE;refine S (ix TDef.c s6_7 gx18) (S Ld ?_);refine Sf ?_;refine S As (nil ?_);exact rt hE
     refine sk hK13 ?_;clear hK13 K13;refine region ?_;refine S Mv ?_;refine SI ?_;refine S As (nil ?_);exact hK6 _ (n6,(s6_7+1),y8_l0) Weak.toA hE (Nat.lt_succ_self _)
    refine AWp.exit ?_;exact hK2 _ y8_l0 Weak.toA hE
 rintro y3_l0 hE;try dsimp only at hE
 unfold Z79_j2 at hE;refine seqR (S BU ?_);refine Sf ?_;refine S As (nil ?_);exact rt hE
def Z83 (a0:Bs):Option Bool:=some (((((a0==([73,110,116]:Bs)))||((a0==([83,116,114,105,110,103]:Bs))))||((a0==([66,111,111,108,101,97,110]:Bs))))||((a0==([73,68]:Bs))))
theorem Z83_walk {a0:Bs}{r:Bool}(hE:Z83 a0=some r) (H:Heap) :ACalls Tryz.prog 123 [.d (.str a0)] H fun v h'=>v=.a (.d (.bool r))/\h'=H:=by
 unfold Z83 at hE;refine ACalls.oW 17 [.tmp 2] Tryz.call123 Tryz.func123 ?_;refine seqR (S As (nil ?_));refine seqR (S Mv (S BS (S Mv (G0 Mv ?_))));refine G1 6 rfl BS ?_;refine S PO (S Mv (G0 Mv ?_));refine G1 10 rfl BS ?_;refine S PO (S Mv (G0 Mv ?_));refine G1 14 rfl BS ?_;refine S PO (S As (nil ?_));exact rt hE
def Z37 (a0:Bs):Option Bool:=guardO ((decide ((2:Int)<=((a0.length:Nat):Int)))) (a0[0]?) (0:UInt8) fun x4=>guardO (((decide ((2:Int)<=((a0.length:Nat):Int)))&&(decide (((x4.toNat:Nat):Int)=(95:Int))))) (a0[1]?) (0:UInt8) fun x5=>some (((decide ((2:Int)<=((a0.length:Nat):Int)))&&(decide (((x4.toNat:Nat):Int)=(95:Int))))&&(decide (((x5.toNat:Nat):Int)=(95:Int))))
theorem Z37_walk {a0:Bs}{r:Bool}(hE:Z37 a0=some r) (H:Heap) :ACalls Tryz.prog 220 [.d (.str a0)] H fun v h'=>v=.a (.d (.bool r))/\h'=H:=by
 unfold Z37 at hE;refine ACalls.oW 16 [.tmp 2] Tryz.call220 Tryz.func220 ?_;refine seqR (S As (nil ?_));refine seqR (S Mv ?_);refine sLenS (TK rfl) rfl rfl rfl rfl fun hL3=>?_;refine S BI (S Mv (G0 Mv ?_));obtain⟨x4,gx4,hE⟩:=gO hE;refine gC rfl rfl (fun hC=>ungdA (k:=7) rfl (idxSn (n:=0) (TK rfl) rfl rfl rfl (gx4 hC))) rfl ?_;refine G1 8 rfl BI ?_;refine S PA (S Mv (G0 Mv ?_));obtain⟨x5,gx5,hE⟩:=gO hE
 refine gC rfl rfl (fun hC=>ungdA (k:=12) rfl (idxSn (n:=1) (TK rfl) rfl rfl rfl (gx5 hC))) rfl ?_;refine G1 13 rfl BI ?_;refine S PA (S As (nil ?_));exact rt hE
def Z84 (a0:Bs):Option Bool:=(Z35 a0).bind fun x3=>guardO (x3) (Z37 a0) false fun x4=>some (x3&&(!x4))
theorem Z84_walk {a0:Bs}{r:Bool}(hE:Z84 a0=some r) (H:Heap) :ACalls Tryz.prog 195 [.d (.str a0)] H fun v h'=>v=.a (.d (.bool r))/\h'=H:=by
 unfold Z84 at hE;refine ACalls.oW 10 [.tmp 2] Tryz.call195 Tryz.func195 ?_;refine seqR (S As (nil ?_));refine seqR (S Mv ?_);obtain⟨x3,gx3,hE⟩:=bO hE;refine Sc rfl rfl (Z35_walk gx3) ?_;refine S Mv (G0 Mv ?_);obtain⟨x4,gx4,hE⟩:=gO hE;refine Gc1 6 rfl rfl rfl rfl rfl (fun hC=>Z37_walk (gx4 hC)) ?_;refine G1 7 rfl NB ?_;refine S PA (S As (nil ?_));exact rt hE
end Go.Proofs

namespace Go.Proofs
open Go Go.Ab
open AOps Cert AWp Keeps KeepsT
variable {lou:Lou}
def Z93_j5  (s9_6:(Sl Z3)):Option (Sl Z3):=some s9_6
def Z93_j3 (a2:Bool) (a3:Bs)  (s9_4:(Sl Z3)):Option (Sl Z3):=bif a2 then((appC 24 s9_4 (⟨false,[(Z3.mk (7:Int) a3)]⟩:Sl Z3)).bind fun x10=>Z93_j5   x10) else(Z93_j5   s9_4)
def Z93 (a0:Bs) (a1:Bool) (a2:Bool) (a3:Bs):Option (Sl Z3):=guardO (!a1) (Z84 a0) false fun x12=>bif (a1||(!x12)) then((appC 24 (Sl.nil:Sl Z3) (⟨false,[(Z3.mk (6:Int) a3)]⟩:Sl Z3)).bind fun x14=>Z93_j3 a2 a3  x14) else(Z93_j3 a2 a3  (Sl.nil:Sl Z3))
theorem Z93_walk {a0:Bs}{a1 a2:Bool}{a3:Bs}{r:Sl Z3}(hE:Z93 a0 a1 a2 a3=some r) (H:Heap) :ACalls Tryz.prog 124 [.d (.str a0),.d (.bool a1),.d (.bool a2),.d (.str a3)] H fun v h'=>v=.a (.d (Sl.d 2 Z3.c none r))/\h'=H:=by
 unfold Z93 at hE;refine ACalls.oW 28 [.tmp 8] Tryz.call124 Tryz.func124 ?_;refine AWp.tok 2 fun tk1 htk1=>?_;refine seqR ?_;refine s0 (assignNil (k':=2) rfl) rfl ?_;refine nil ?_;refine seqR (S As (nil ?_));refine AWp.nilTok 9 2 tk1 rfl hpG ?_;refine seqJH (TA 2 (TA 3 KeepsT.nil)) (fun(z:(Sl Z3))=>[(9,.a (.d (Sl.d 2 Z3.c (some tk1) z)))]) (fun z=>(H.set tk1 (some (.tok 2 z.l.length)))) (fun z=>Z93_j3 a2 a3 z=some r) ?_ ?_
 ·intro K3 hK3;refine seqR (S Mv (S Mv (G0 Mv ?_)));obtain⟨x12,gx12,hE⟩:=gO hE;refine Gc1 12 rfl rfl rfl rfl rfl (fun hC=>Z84_walk (gx12 hC)) ?_;refine G1 13 rfl NB ?_;refine S PO (nil ?_);refine cE hE (fun hc13 hE=>?_) (fun hc13 hE=>?_)
  ·refine region ?_;refine S Mv (S Mv (S BU (S BV ?_)));obtain⟨x14,gx14,hE⟩:=bO hE;refine SH (am Z3.c (TK rfl) rfl (TK rfl) (TK rfl) gx14) ?_;refine hq (H.set tk1 (some (.tok 2 x14.l.length))) ?_;refine S As (nil ?_);exact hK3 _ x14 Weak.toA hE
  refine AWp.skip ?_;exact hK3 _ (Sl.nil:Sl Z3) Weak.toA hE
 rintro s9_4 hE;try dsimp only at hE
 unfold Z93_j3 at hE;refine seqJH KeepsT.nil (fun(z:(Sl Z3))=>[(9,.a (.d (Sl.d 2 Z3.c (some tk1) z)))]) (fun z=>(H.set tk1 (some (.tok 2 z.l.length)))) (fun z=>Z93_j5 z=some r) ?_ ?_
 ·intro K5 hK5;refine seqR (S Mv (nil ?_));refine cE hE (fun hc9 hE=>?_) (fun hc9 hE=>?_)
  ·refine region ?_;refine S Mv (S Mv (S BU (S BV ?_)));obtain⟨x10,gx10,hE⟩:=bO hE;refine SH (am Z3.c (TK rfl) rfl (TK rfl) (TK rfl) gx10) ?_;refine hq (H.set tk1 (some (.tok 2 x10.l.length))) ?_;refine S As (nil ?_);exact hK5 _ x10 Weak.toA hE
  refine AWp.skip ?_;exact hK5 _ s9_4 Weak.toA hE
 rintro s9_6 hE;try dsimp only at hE
 unfold Z93_j5 at hE;refine seqR (S Mv (S As (nil ?_)));refine AWp.dropTok 8 rfl ?_;refine AWp.ret ?_;repeat (first|refine xBlock_ret ?_|refine xThen_ret ?_)
 obtain rfl:=Option.some.inj hE;refine retQ.retF H rfl ⟨rfl,rfl⟩ ?_
 first|exact Heap.sub_set htk1|(simp only [Heap.set_set]; exact Heap.sub_set htk1)
theorem Z93_tok {a0:Bs}{a1 a2:Bool}{a3:Bs}{r:Sl Z3}(hE:Z93 a0 a1 a2 a3=some r) (H:Heap){tk0:Nat}(htk0:H tk0=some (.tok 2 0)):ACalls Tryz.prog 124 [.d (.str a0),.d (.bool a1),.d (.bool a2),.d (.str a3)] H fun v h'=>v=.a (.d (Sl.d 2 Z3.c (some tk0) r))/\h'=H.set tk0 (some (.tok 2 r.l.length)):=by
 unfold Z93 at hE;refine ACalls.oW 28 [.tmp 8] Tryz.call124 Tryz.func124 ?_;refine AWp.heqA (h':=(H.set tk0 (some (.tok 2 0)))) (by funext n_; simp only [Heap.set]; (repeat' split)<;>simp_all) ?_;refine seqR (S As (nil ?_));refine seqR (S As (nil ?_));refine AWp.nilTok 9 2 tk0 rfl hpG ?_;refine seqJH (TA 2 (TA 3 KeepsT.nil)) (fun(z:(Sl Z3))=>[(9,.a (.d (Sl.d 2 Z3.c (some tk0) z)))]) (fun z=>(H.set tk0 (some (.tok 2 z.l.length)))) (fun z=>Z93_j3 a2 a3 z=some r) ?_ ?_
 ·intro K3 hK3;refine seqR (S Mv (S Mv (G0 Mv ?_)));obtain⟨x12,gx12,hE⟩:=gO hE;refine Gc1 12 rfl rfl rfl rfl rfl (fun hC=>Z84_walk (gx12 hC)) ?_;refine G1 13 rfl NB ?_;refine S PO (nil ?_);refine cE hE (fun hc13 hE=>?_) (fun hc13 hE=>?_)
  ·refine region ?_;refine S Mv (S Mv (S BU (S BV ?_)));obtain⟨x14,gx14,hE⟩:=bO hE;refine SH (am Z3.c (TK rfl) rfl (TK rfl) (TK rfl) gx14) ?_;refine hq (H.set tk0 (some (.tok 2 x14.l.length))) ?_;refine S As (nil ?_);exact hK3 _ x14 Weak.toA hE
  refine AWp.skip ?_;exact hK3 _ (Sl.nil:Sl Z3) Weak.toA hE
 rintro s9_4 hE;try dsimp only at hE
 unfold Z93_j3 at hE;refine seqJH KeepsT.nil (fun(z:(Sl Z3))=>[(9,.a (.d (Sl.d 2 Z3.c (some tk0) z)))]) (fun z=>(H.set tk0 (some (.tok 2 z.l.length)))) (fun z=>Z93_j5 z=some r) ?_ ?_
 ·intro K5 hK5;refine seqR (S Mv (nil ?_));refine cE hE (fun hc9 hE=>?_) (fun hc9 hE=>?_)
  ·refine region ?_;refine S Mv (S Mv (S BU (S BV ?_)));obtain⟨x10,gx10,hE⟩:=bO hE;refine SH (am Z3.c (TK rfl) rfl (TK rfl) (TK rfl) gx10) ?_;refine hq (H.set tk0 (some (.tok 2 x10.l.length))) ?_;refine S As (nil ?_);exact hK5 _ x10 Weak.toA hE
  refine AWp.skip ?_;exact hK5 _ s9_4 Weak.toA hE
 rintro s9_6 hE;try dsimp only at hE
 unfold Z93_j5 at hE;refine seqR (S Mv (S As (nil ?_)));exact rt hE
def Z87_j2  :Option Bool:=some false
def Z87_j10 (a0:TDef)  (s12_11:Bool):Option Bool:=bif s12_11 then(some (decide (((a0.FMembers.l.length:Nat):Int)=(0:Int)))) else(bif (decide (a0.FKind=(5:Int))) then(some (decide (((a0.FInputs.l.length:Nat):Int)=(0:Int)))) else(Z87_j2   ))
def Z87_j5 (a0:TDef)  (s5_6:Bool):Option Bool:=bif s5_6 then(some (decide (((a0.FFields.l.length:Nat):Int)=(0:Int)))) else(bif (decide (a0.FKind=(3:Int))) then(Z87_j10 a0  (decide (a0.FKind=(3:Int)))) else(Z87_j10 a0  (decide (a0.FKind=(4:Int)))))
def Z87 (a0:TDef):Option Bool:=bif (decide (a0.FKind=(1:Int))) then(Z87_j5 a0  (decide (a0.FKind=(1:Int)))) else(Z87_j5 a0  (decide (a0.FKind=(2:Int))))
theorem Z87_walk {a0:TDef}{r:Bool}(hE:Z87 a0=some r) (H:Heap) :ACalls Tryz.prog 125 [.agg (TDef.c a0)] H fun v h'=>v=.a (.d (.bool r))/\h'=H:=by
 unfold Z87 at hE;refine ACalls.oW 25 [.tmp 2] Tryz.call125 Tryz.func125 ?_;refine seqR (S BX (S As (nil ?_)));refine seqJH KeepsT.nil (fun(z:Unit)=>[]) (fun z=>H) (fun z=>Z87_j2 =some r) ?_ ?_
 ·intro K2 hK2;refine seqR (S Fv (S Ld (nil ?_)));refine block ?_;refine seqJH (TA 1 (TA 4 KeepsT.nil)) (fun(z:Bool)=>[(5,.a (.d (.bool z)))]) (fun z=>H) (fun z=>Z87_j5 a0 z=some r) ?_ ?_
  ·intro K5 hK5;refine seqR (S BI (S As (nil ?_)));refine cE hE (fun hc22 hE=>?_) (fun hc22 hE=>?_)
   ·refine AWp.skip ?_;exact hK5 _ (decide (a0.FKind=(1:Int))) Weak.toA hE
   refine region ?_;refine S BI (S As (nil ?_));exact hK5 _ (decide (a0.FKind=(2:Int))) Weak.toA hE
  rintro s5_6 hE;try dsimp only at hE
  unfold Z87_j5 at hE;refine cE hE (fun hc7 hE=>?_) (fun hc7 hE=>?_)
  ·refine seqR (S Fv (S Ld ?_));refine sLen (f:=Z4.c) (s:=a0.FFields) (TK rfl) rfl rfl rfl rfl fun hL9=>?_;refine S BI (S As (nil ?_));exact rt hE
  refine seqJH (TA 1 (TA 4 KeepsT.nil)) (fun(z:Bool)=>[(12,.a (.d (.bool z)))]) (fun z=>H) (fun z=>Z87_j10 a0 z=some r) ?_ ?_
  ·intro K10 hK10;refine seqR (S BI (S As (nil ?_)));refine cE hE (fun hc20 hE=>?_) (fun hc20 hE=>?_)
   ·refine AWp.skip ?_;exact hK10 _ (decide (a0.FKind=(3:Int))) Weak.toA hE
   refine region ?_;refine S BI (S As (nil ?_));exact hK10 _ (decide (a0.FKind=(4:Int))) Weak.toA hE
  rintro s12_11 hE;try dsimp only at hE
  unfold Z87_j10 at hE;refine cE hE (fun hc12 hE=>?_) (fun hc12 hE=>?_)
  ·refine seqR (S Fv (S Ld ?_));refine sLen (f:=Z6.c) (s:=a0.FMembers) (TK rfl) rfl rfl rfl rfl fun hL14=>?_;refine S BI (S As (nil ?_));exact rt hE
  refine seqR (S BI (S As (nil ?_)));refine cE hE (fun hc16 hE=>?_) (fun hc16 hE=>?_)
  ·refine seqR (S Fv (S Ld ?_));refine sLen (f:=Z5.c) (s:=a0.FInputs) (TK rfl) rfl rfl rfl rfl fun hL18=>?_;refine S BI (S As (nil ?_));exact rt hE
  refine AWp.skip ?_;exact hK2 _ () Weak.toA hE
 rintro _ hE;try dsimp only at hE
 unfold Z87_j2 at hE;refine seqR (S As (nil ?_));exact rt hE
def Z89_j2  :Option Bool:=some false
def Z89_l5 (a0:(Sl Bs)) (a1:Bs) :Nat->Nat->Option Bool
 | 0,_=>none
 | n5+1,s5_6=>bif (decide (((s5_6:Nat):Int)<((a0.l.length:Nat):Int))) then((a0.l[s5_6]?).bind fun x13=>bif ((x13==a1)) then(some true) else((Z89_l5 a0 a1 n5) (s5_6+1))) else(Z89_j2   )
def Z89 (a0:(Sl Bs)) (a1:Bs):Option Bool:=Z89_l5 a0 a1 (a0.l.length+1) 0
theorem Z89_walk {a0:Sl Bs}{a1:Bs}{w0:Option Nat}{r:Bool}(hE:Z89 a0 a1=some r) (H:Heap) :ACalls Tryz.prog 197 [.d (Sl.d 1 strE w0 a0),.d (.str a1)] H fun v h'=>v=.a (.d (.bool r))/\h'=H:=by
 unfold Z89 at hE;refine ACalls.oW 18 [.tmp 4] Tryz.call197 Tryz.func197 ?_;refine seqR (S As (nil ?_));refine seqJH KeepsT.nil (fun(z:Unit)=>[]) (fun z=>H) (fun z=>Z89_j2 =some r) ?_ ?_
 ·intro K2 hK2;refine seqR (S As (nil ?_));refine block ?_;refine loopH (TA 0 (TA 1 KeepsT.nil)) (fun(z:Nat×Nat)=>[(5,.a (.d (.int .i64 ((z.2:Nat):Int))))]) (fun z=>H) (fun z=>z.1) (fun z=>Z89_l5 a0 a1 z.1 z.2=some r) ((a0.l.length+1),0) hE Weak.toA ?_;rintro ⟨n5,s5_6⟩ hE K5 hK5;try dsimp only at hE
  cases n5 with
  | zero=>cases hE
  | succ n5 =>
    rw [Z89_l5] at hE;refine seqK fun K7 hK7=>?_;refine seqR (S Mv (S Mv ?_));refine sLen (f:=strE) (s:=a0) (TK rfl) rfl rfl rfl rfl fun hL9=>?_;refine S BI (nil ?_);refine cE hE (fun hc10 hE=>?_) (fun hc10 hE=>?_)
    ·try dsimp only at hc10
     have hf10:=of_decide_eq_true hc10;refine sk hK7 ?_;clear hK7 K7;refine seqK fun K11 hK11=>?_;refine block ?_;refine seqR (S Mv (S Mv ?_));obtain⟨x13,gx13,hE⟩:=bO hE;refine S (ix strE s5_6 gx13) (S Ld (S Mv (S BS (nil ?_))));refine cE hE (fun hc14 hE=>?_) (fun hc14 hE=>?_)
     ·refine seqR (S As (nil ?_));exact rt hE
     refine sk hK11 ?_;clear hK11 K11;refine region ?_;refine S Mv ?_;refine SI ?_;refine S As (nil ?_);exact hK5 _ (n5,(s5_6+1)) Weak.toA hE (Nat.lt_succ_self _)
    refine AWp.exit ?_;exact hK2 _ () Weak.toA hE
 rintro _ hE;try dsimp only at hE
 unfold Z89_j2 at hE;refine seqR (S As (nil ?_));exact rt hE
def Z86 (a0:TRef):Option Bool:=guardO ((decide (((a0.FWraps.l.length:Nat):Int)=(1:Int)))) (a0.FWraps.l[0]?) (0:Int) fun x4=>some ((decide (((a0.FWraps.l.length:Nat):Int)=(1:Int)))&&(decide (x4=(1:Int))))
theorem Z86_walk {a0:TRef}{r:Bool}(hE:Z86 a0=some r) (H:Heap) :ACalls Tryz.prog 237 [.agg (TRef.c a0)] H fun v h'=>v=.a (.d (.bool r))/\h'=H:=by
 unfold Z86 at hE;refine ACalls.oW 14 [.tmp 2] Tryz.call237 Tryz.func237 ?_;refine seqR (S BX (S As (nil ?_)));refine seqR (S Fv (S Ld ?_));refine sLen (f:=(intE .i64)) (s:=a0.FWraps) (TK rfl) rfl rfl rfl rfl fun hL3=>?_;refine S BI (S Mv (G0 Fv ?_));refine G1 8 rfl Ld ?_;obtain⟨x4,gx4,hE⟩:=gO hE;refine gC rfl rfl (fun hC=>ungdA (k:=9) rfl (idxMn (f:=(intE .i64)) (n:=0) (TK rfl) rfl (TK rfl) rfl rfl rfl (gx4 hC))) rfl ?_
 refine G1 10 rfl Ld ?_;refine G1 11 rfl BI ?_;refine S PA (S As (nil ?_));exact rt hE
def Z94_j2  (s3_3:(Sl Bs)):Option (Sl Bs):=some s3_3
def Z94_j13 (s9_8:Nat) (k_next_6:(Sl Bs)->Nat->Option (Sl Bs)) (s3_14:(Sl Bs)):Option (Sl Bs):=k_next_6 s3_14 (s9_8+1)
def Z94_l6 (a0:TDoc) (a1:TDef) (a2:Bs) :Nat->(Sl Bs)->Nat->Option (Sl Bs)
 | 0,_,_=>none
 | n6+1,s3_7,s9_8=>bif (decide (((s9_8:Nat):Int)<((a1.FInputs.l.length:Nat):Int))) then((a1.FInputs.l[s9_8]?).bind fun x16=>(Z79 a0 x16.FType.FName).bind fun x18=>(Z86 x16.FType).bind fun x20=>guardO ((x20&&(((x16.FType.FName==a2))||(x18.2&&(decide (x18.1.FKind=(5:Int))))))) (Z89 s3_7 x16.FType.FName) false fun x21=>bif ((x20&&(((x16.FType.FName==a2))||(x18.2&&(decide (x18.1.FKind=(5:Int))))))&&(!x21)) then((appC 16 s3_7 (⟨false,[x16.FType.FName]⟩:Sl Bs)).bind fun x23=>Z94_j13 s9_8 ((Z94_l6 a0 a1 a2 n6)) x23) else(Z94_j13 s9_8 ((Z94_l6 a0 a1 a2 n6)) s3_7)) else(Z94_j2   s3_7)
def Z94 (a0:TDoc) (a1:TDef) (a2:Bs) (a3:(Sl Bs)):Option (Sl Bs):=Z94_l6 a0 a1 a2 (a1.FInputs.l.length+1) a3 0
theorem Z94_walk {a0:TDoc}{a1:TDef}{a2:Bs}{a3:Sl Bs}{g3:Nat}{r:Sl Bs}(hE:Z94 a0 a1 a2 a3=some r) (H:Heap) (hg3:H g3=some (.tok 1 a3.l.length)):ACalls Tryz.prog 196 [.agg (TDoc.c a0),.agg (TDef.c a1),.d (.str a2),.d (Sl.d 1 strE (some g3) a3)] H fun v h'=>v=.a (.d (Sl.d 1 strE (some g3) r))/\h'=(H.set g3 (some (.tok 1 r.l.length))):=by
 unfold Z94 at hE;refine ACalls.oW 62 [.tmp 8] Tryz.call196 Tryz.func196 ?_;refine AWp.heqA (h':=(H.set g3 (some (.tok 1 a3.l.length)))) (by funext n_; simp only [Heap.set]; (repeat' split)<;>simp_all) ?_;refine seqR (S BX (S BX (S As (nil ?_))));refine seqJH KeepsT.nil (fun(z:(Sl Bs))=>[(3,.a (.d (Sl.d 1 strE (some g3) z)))]) (fun z=>(H.set g3 (some (.tok 1 z.l.length)))) (fun z=>Z94_j2 z=some r) ?_ ?_
 ·intro K2 hK2;refine seqR (S As (nil ?_));refine block ?_;refine loopH (TA 2 (TA 4 (TA 5 KeepsT.nil))) (fun(z:Nat×(Sl Bs)×Nat)=>[(3,.a (.d (Sl.d 1 strE (some g3) z.2.1))),(9,.a (.d (.int .i64 ((z.2.2:Nat):Int))))]) (fun z=>(H.set g3 (some (.tok 1 z.2.1.l.length)))) (fun z=>z.1) (fun z=>Z94_l6 a0 a1 a2 z.1 z.2.1 z.2.2=some r) ((a1.FInputs.l.length+1),a3,0) hE Weak.toA ?_;rintro ⟨n6,s3_7,s9_8⟩ hE K6 hK6
  try dsimp only at hE
  cases n6 with
  | zero=>cases hE
  | succ n6 =>
    rw [Z94_l6] at hE;refine seqK fun K9 hK9=>?_;refine seqR (S Mv (S Fv (S Ld ?_)));refine sLen (f:=Z5.c) (s:=a1.FInputs) (TK rfl) rfl rfl rfl rfl fun hL11=>?_;refine S BI (nil ?_);refine cE hE (fun hc12 hE=>?_) (fun hc12 hE=>?_)
    ·try dsimp only at hc12
     have hf12:=of_decide_eq_true hc12;refine sk hK9 ?_;clear hK9 K9;refine seqJH (TA 2 (TA 4 (TA 5 (TA 9 KeepsT.nil)))) (fun(z:(Sl Bs))=>[(3,.a (.d (Sl.d 1 strE (some g3) z)))]) (fun z=>(H.set g3 (some (.tok 1 z.l.length)))) (fun z=>Z94_j13 s9_8 ((Z94_l6 a0 a1 a2 n6)) z=some r) ?_ ?_
     ·intro K13 hK13;refine block ?_;refine seqR (S Fv (S Ld (S Mv ?_)));obtain⟨x16,gx16,hE⟩:=bO hE;refine S (ix Z5.c s9_8 gx16) (S Fv (S Ld ?_));refine Sl ?_;refine Sf ?_;refine nil ?_;refine freezeA 10 _ rfl (KA 2 (KA 3 (KA 4 (KA 5 (KA 9 Keeps.nil))))) ?_;refine seqR (S Ld (S Fv (S Ld ?_)));obtain⟨x18,gx18,hE⟩:=bO hE;refine Sc rfl rfl (Z79_walk gx18) ?_;refine S Mv (S EX (S EX ?_));refine Sl ?_;refine Sf ?_
      refine S As (nil ?_);refine freezeA 11 _ rfl (KA 2 (KA 3 (KA 4 (KA 5 (KA 9 (KA 10 (KA 12 Keeps.nil))))))) ?_;refine seqR (S Ld ?_);obtain⟨x20,gx20,hE⟩:=bO hE;refine Sc rfl rfl (Z86_walk gx20) ?_;refine S Mv (G0 Fv ?_);refine G1 36 rfl Ld ?_;refine G0 Mv ?_;refine G2 37 38 rfl rfl BS ?_;refine G1 39 rfl Mv ?_;refine G0 Mv ?_;refine G1 41 rfl Mv ?_;refine G0 Fv ?_;refine G1 43 rfl Ld ?_;refine G1 44 rfl BI ?_
      refine gC rfl rfl (fun hC=>ungdA (k:=42) rfl (pickAndA rfl rfl rfl)) rfl ?_;refine gC rfl rfl (fun hC=>ungdA (k:=40) rfl (pickOrA rfl rfl rfl)) rfl ?_;refine S PA (S Mv (G0 Mv (G0 Fv ?_)));refine G1 51 rfl Ld ?_;obtain⟨x21,gx21,hE⟩:=gO hE;refine Gc2 50 52 rfl rfl rfl rfl rfl rfl (fun hC=>Z89_walk (gx21 hC)) ?_;refine G1 53 rfl NB ?_;refine S PA (nil ?_);refine cE hE (fun hc22 hE=>?_) (fun hc22 hE=>?_)
      ·refine region ?_;refine S Mv (S Fv (S Ld (S BV ?_)));obtain⟨x23,gx23,hE⟩:=bO hE;refine SH (am strE (TK rfl) rfl (TK rfl) (TK rfl) gx23) ?_;refine hq (H.set g3 (some (.tok 1 x23.l.length))) ?_;refine S As (nil ?_);exact hK13 _ x23 Weak.toA hE
      refine AWp.skip ?_;exact hK13 _ s3_7 Weak.toA hE
     rintro s3_14 hE;try dsimp only at hE
     unfold Z94_j13 at hE;refine region ?_;refine S Mv ?_;refine SI ?_;refine S As (nil ?_);exact hK6 _ (n6,s3_14,(s9_8+1)) Weak.toA hE (Nat.lt_succ_self _)
    refine AWp.exit ?_;exact hK2 _ s3_7 Weak.toA hE
 rintro s3_3 hE;try dsimp only at hE
 unfold Z94_j2 at hE;refine seqR (S Mv (S As (nil ?_)));exact rt hE
def Z85_j8 (a1:TDef)  (s5_9:(Sl Bs)):Option Bool:=(Z89 s5_9 a1.FName).bind fun x11=>some x11
def Z85_l13 (a0:TDoc) (a1:TDef) :Nat->(Sl Bs)->Nat->Option Bool
 | 0,_,_=>none
 | n13+1,s5_14,s6_15=>bif (decide (((s6_15:Nat):Int)<((s5_14.l.length:Nat):Int))) then((s5_14.l[s6_15]?).bind fun x22=>(Z79 a0 x22).bind fun x23=>(Z94 a0 x23.1 a1.FName s5_14).bind fun x24=>(Z85_l13 a0 a1 n13) x24 (s6_15+1)) else(Z85_j8 a1  s5_14)
def Z85 (a0:TDoc) (a1:TDef):Option Bool:=bif (!decide (a1.FKind=(5:Int))) then(some false) else((Z94 a0 a1 a1.FName (Sl.nil:Sl Bs)).bind fun x7=>Z85_l13 a0 a1 F0 x7 0)
theorem Z85_walk {a0:TDoc}{a1:TDef}{r:Bool}(hE:Z85 a0 a1=some r) (H:Heap) :ACalls Tryz.prog 126 [.agg (TDoc.c a0),.agg (TDef.c a1)] H fun v h'=>v=.a (.d (.bool r))/\h'=H:=by
 unfold Z85 at hE;refine ACalls.oW 42 [.tmp 4] Tryz.call126 Tryz.func126 ?_;refine AWp.tok 1 fun tk1 htk1=>?_;refine seqR (S BX (S BX (S As (nil ?_))));refine seqK fun K2 hK2=>?_;refine seqR (S Fv (S Ld (S BI (nil ?_))));refine cE hE (fun hc4 hE=>?_) (fun hc4 hE=>?_)
 ·refine seqR (S As (nil ?_));refine AWp.ret ?_;repeat (first|refine xBlock_ret ?_|refine xThen_ret ?_)
  obtain rfl:=Option.some.inj hE;refine retQ.retF H rfl ⟨rfl,rfl⟩ ?_
  first|exact Heap.sub_set htk1|(simp only [Heap.set_set]; exact Heap.sub_set htk1)
 refine sk hK2 ?_;clear hK2 K2;refine seqR (S Ld (S Ld (S Fv (S Ld ?_))));obtain⟨x7,gx7,hE⟩:=bO hE;refine sH (callH rfl rfl (ACalls.asArgs (.cons (.refl _) (.cons (.refl _) (.cons (.refl _) (.cons (AsArg.nil (k':=1) (t:=tk1) hpG) .nil)))) (Z94_walk gx7 _ hpG))) rfl ?_;refine hq (H.set tk1 (some (.tok 1 x7.l.length))) ?_;refine S As (nil ?_);refine seqJH (TA 3 KeepsT.nil) (fun(z:(Sl Bs))=>[(5,.a (.d (Sl.d 1 strE (some tk1) z)))]) (fun z=>(H.set tk1 (some (.tok 1 z.l.length)))) (fun z=>Z85_j8 a1 z=some r) ?_ ?_
 ·intro K8 hK8;refine seqR (S As (nil ?_));refine block ?_;refine loopH (TA 2 (TA 3 KeepsT.nil)) (fun(z:Nat×(Sl Bs)×Nat)=>[(5,.a (.d (Sl.d 1 strE (some tk1) z.2.1))),(6,.a (.d (.int .i64 ((z.2.2:Nat):Int))))]) (fun z=>(H.set tk1 (some (.tok 1 z.2.1.l.length)))) (fun z=>z.1) (fun z=>Z85_l13 a0 a1 z.1 z.2.1 z.2.2=some r) (F0,x7,0) hE Weak.toA ?_;rintro ⟨n13,s5_14,s6_15⟩ hE K13 hK13;try dsimp only at hE
  cases n13 with
  | zero=>cases hE
  | succ n13 =>
    rw [Z85_l13] at hE;refine seqK fun K16 hK16=>?_;refine seqR (S Mv (S Mv ?_));refine sLen (f:=strE) (s:=s5_14) (TK rfl) rfl rfl rfl rfl fun hL18=>?_;refine S BI (nil ?_);refine cE hE (fun hc19 hE=>?_) (fun hc19 hE=>?_)
    ·try dsimp only at hc19
     have hf19:=of_decide_eq_true hc19;refine sk hK16 ?_;clear hK16 K16;refine seqK fun K20 hK20=>?_;refine block ?_;refine AWp.seqD (Sd Ld (Sd Mv (Sd Mv ?_)));obtain⟨x22,gx22,hE⟩:=bO hE;refine Sd (ix strE s6_15 gx22) (Sd Ld ?_);obtain⟨x23,gx23,hE⟩:=bO hE;refine Scd rfl rfl (Z79_walk gx23) ?_;refine Sd Mv (Sd EX (Sd EX ?_));refine DOps.sB (TK rfl) rfl rfl ?_ (by repeat (first|exact Snoc.nil|apply Snoc.cons))
     refine DOps.sLn (storeLFA (TK rfl) rfl rfl rfl rfl rfl) ?_;refine Sd As ?_;refine DOps.nil (by decide +kernel) ?_;refine freezeA 7 _ rfl (KA 2 (KA 3 (KA 5 (KA 6 Keeps.nil)))) ?_;refine region ?_;refine S Ld (S Ld (S Fv (S Ld (S Mv ?_))));obtain⟨x24,gx24,hE⟩:=bO hE;refine sH (callH rfl rfl (Z94_walk gx24 _ hpG)) rfl ?_;refine hq (H.set tk1 (some (.tok 1 x24.l.length))) ?_;refine S As (nil ?_);refine hK20 _ ?_
     clear hK20 K20;refine region ?_;refine S Mv ?_;refine SI ?_;refine S As (nil ?_);exact hK13 _ (n13,x24,(s6_15+1)) Weak.toA hE (Nat.lt_succ_self _)
    refine AWp.exit ?_;exact hK8 _ s5_14 Weak.toA hE
 rintro s5_9 hE;try dsimp only at hE
 unfold Z85_j8 at hE;refine seqR (S Mv (S Fv (S Ld ?_)));obtain⟨x11,gx11,hE⟩:=bO hE;refine Sc rfl rfl (Z89_walk gx11) ?_;refine S As (nil ?_);refine AWp.ret ?_;repeat (first|refine xBlock_ret ?_|refine xThen_ret ?_)
 obtain rfl:=Option.some.inj hE;refine retQ.retF H rfl ⟨rfl,rfl⟩ ?_
 first|exact Heap.sub_set htk1|(simp only [Heap.set_set]; exact Heap.sub_set htk1)
end Go.Proofs

namespace Go.Proofs
open Go Go.Ab
open AOps Cert AWp Keeps KeepsT
variable {lou:Lou}
def Z95_j15  (s8_16:(Sl Z3)):Option (Sl Z3):=some s8_16
def Z95_j13 (a0:TDoc) (x3:TDef)  (s8_14:(Sl Z3)):Option (Sl Z3):=(Z85 a0 x3).bind fun x19=>bif x19 then((appC 24 s8_14 (⟨false,[(Z3.mk (5:Int) x3.FName)]⟩:Sl Z3)).bind fun x21=>Z95_j15   x21) else(Z95_j15   s8_14)
def Z95_j10 (a0:TDoc) (x3:TDef)  (s8_11:(Sl Z3)):Option (Sl Z3):=bif (((((((x3.FName==([81,117,101,114,121]:Bs)))||((x3.FName==([77,117,116,97,116,105,111,110]:Bs))))||((x3.FName==([83,117,98,115,99,114,105,112,116,105,111,110]:Bs))))&&(!decide (x3.FKind=(1:Int))))||(decide (x3.FKind<(1:Int))))||(decide ((5:Int)<x3.FKind))) then((appC 24 s8_11 (⟨false,[(Z3.mk (9:Int) x3.FName)]⟩:Sl Z3)).bind fun x24=>Z95_j13 a0 x3  x24) else(Z95_j13 a0 x3  s8_11)
def Z95_j6 (a0:TDoc) (x3:TDef)  (s6_7:Bool):Option (Sl Z3):=(Z93 x3.FName false s6_7 x3.FName).bind fun x9=>(Z87 x3).bind fun x26=>bif x26 then((appC 24 x9 (⟨false,[(Z3.mk (8:Int) x3.FName)]⟩:Sl Z3)).bind fun x28=>Z95_j10 a0 x3  x28) else(Z95_j10 a0 x3  x9)
def Z95_l30 (a0:TDoc) (a1:Int) (x3:TDef) :Nat->Bool->Int->Option (Sl Z3)
 | 0,_,_=>none
 | n30+1,s6_31,s7_32=>bif (decide (s7_32<a1)) then(guardO (!s6_31) (idxC a0.FDefs.l s7_32) TDef.zero fun x37=>(addC s7_32 (1:Int)).bind fun x38=>(Z95_l30 a0 a1 x3 n30) (s6_31||((x37.FName==x3.FName))) x38) else(Z95_j6 a0 x3  s6_31)
def Z95 (a0:TDoc) (a1:Int):Option (Sl Z3):=(idxC a0.FDefs.l a1).bind fun x3=>(Z83 x3.FName).bind fun x5=>Z95_l30 a0 a1 x3 F0 x5 (0:Int)
theorem Z95_walk {a0:TDoc}{a1:Int}{r:Sl Z3}(hE:Z95 a0 a1=some r) (H:Heap) :ACalls Tryz.prog 59 [.agg (TDoc.c a0),.d (.int .i64 a1)] H fun v h'=>v=.a (.d (Sl.d 2 Z3.c none r))/\h'=H:=by
 unfold Z95 at hE;refine ACalls.oW 94 [.tmp 4] Tryz.call59 Tryz.func59 ?_;refine seqR (S BX ?_);refine s0 (assignNil (k':=2) rfl) rfl ?_;refine nil ?_;refine seqR (S Fv (S Ld (S Mv ?_)));obtain⟨x3,gx3,hE⟩:=bO hE;refine s0 (idxM (f:=TDef.c) (TK rfl) rfl (TK rfl) rfl rfl rfl gx3) rfl ?_;refine S Ld ?_;refine Sl ?_;refine Sf ?_;refine nil ?_;refine freezeA 5 _ rfl (KA 1 (KA 2 Keeps.nil)) ?_;refine seqR (S Fv (S Ld ?_))
 obtain⟨x5,gx5,hE⟩:=bO hE;refine Sc rfl rfl (Z83_walk gx5) ?_;refine S As (nil ?_);refine seqJH (TA 2 (TA 5 KeepsT.nil)) (fun(z:Bool)=>[(6,.a (.d (.bool z)))]) (fun z=>H) (fun z=>Z95_j6 a0 x3 z=some r) ?_ ?_
 ·intro K6 hK6;refine seqR (S As (nil ?_));refine block ?_;refine loopH (TA 1 (TA 2 (TA 5 KeepsT.nil))) (fun(z:Nat×Bool×Int)=>[(6,.a (.d (.bool z.2.1))),(7,.a (.d (.int .i64 z.2.2)))]) (fun z=>H) (fun z=>z.1) (fun z=>Z95_l30 a0 a1 x3 z.1 z.2.1 z.2.2=some r) (F0,x5,(0:Int)) hE Weak.toA ?_;rintro ⟨n30,s6_31,s7_32⟩ hE K30 hK30;try dsimp only at hE
  cases n30 with
  | zero=>cases hE
  | succ n30 =>
    rw [Z95_l30] at hE;refine seqK fun K33 hK33=>?_;refine seqR (S Mv (S Mv (S BI (nil ?_))));refine cE hE (fun hc35 hE=>?_) (fun hc35 hE=>?_)
    ·refine sk hK33 ?_;clear hK33 K33;refine seqK fun K36 hK36=>?_;refine block ?_;refine AWp.draw rfl ?_;refine Sd Mv (Sd Mv (G0d Fv ?_));refine G1d 25 rfl Ld ?_;refine G0d Mv ?_;obtain⟨x37,gx37,hE⟩:=gO hE;refine DOps.gC rfl rfl (fun hC=>ungdA (k:=26) rfl (ungdA (k:=27) rfl (idxM (f:=TDef.c) (TK rfl) rfl (TK rfl) rfl rfl rfl (gx37 hC)))) rfl ?_;refine G1d 28 rfl Fv ?_;refine G1d 29 rfl Ld ?_;refine G0d Fv ?_
     refine G1d 31 rfl Ld ?_;refine G2d 30 32 rfl rfl BS ?_;refine Sd PO (Sd As ?_);refine DOps.nil (by decide +kernel) ?_;refine hK36 _ ?_;clear hK36 K36;refine region ?_;refine S Mv ?_;obtain⟨x38,gx38,hE⟩:=bO hE;refine s0 (addM rfl rfl gx38) rfl ?_;refine S As (nil ?_);exact hK30 _ (n30,(s6_31||((x37.FName==x3.FName))),x38) Weak.toA hE (Nat.lt_succ_self _)
    refine AWp.exit ?_;exact hK6 _ s6_31 Weak.toA hE
 rintro s6_7 hE;try dsimp only at hE
 unfold Z95_j6 at hE;refine AWp.tok 2 fun tk1 htk1=>?_;refine seqR (S Fv (S Ld (S Mv (S Fv (S Ld ?_)))));obtain⟨x9,gx9,hE⟩:=bO hE;refine sH (callH rfl rfl (Z93_tok gx9 _ hpG)) rfl ?_;refine hq (H.set tk1 (some (.tok 2 x9.l.length))) ?_;refine S As (nil ?_);refine seqJH (TA 2 (TA 5 KeepsT.nil)) (fun(z:(Sl Z3))=>[(8,.a (.d (Sl.d 2 Z3.c (some tk1) z)))]) (fun z=>(H.set tk1 (some (.tok 2 z.l.length)))) (fun z=>Z95_j10 a0 x3 z=some r) ?_ ?_
 ·intro K10 hK10;refine seqR (S Ld ?_);obtain⟨x26,gx26,hE⟩:=bO hE;refine Sc rfl rfl (Z87_walk gx26) ?_;refine nil ?_;refine cE hE (fun hc27 hE=>?_) (fun hc27 hE=>?_)
  ·refine region ?_;refine S Mv (S Fv (S Ld (S BU (S BV ?_))));obtain⟨x28,gx28,hE⟩:=bO hE;refine SH (am Z3.c (TK rfl) rfl (TK rfl) (TK rfl) gx28) ?_;refine hq (H.set tk1 (some (.tok 2 x28.l.length))) ?_;refine S As (nil ?_);exact hK10 _ x28 Weak.toA hE
  refine AWp.skip ?_;exact hK10 _ x9 Weak.toA hE
 rintro s8_11 hE;try dsimp only at hE
 unfold Z95_j10 at hE;refine seqR (S Fv (S Ld (S BS (S Mv (G0 Fv ?_)))));refine G1 53 rfl Ld ?_;refine G1 54 rfl BS ?_;refine S PO (S Mv (G0 Fv ?_));refine G1 58 rfl Ld ?_;refine G1 59 rfl BS ?_;refine S PO (S As (nil ?_));refine seqJH (TA 2 (TA 5 KeepsT.nil)) (fun(z:(Sl Z3))=>[(8,.a (.d (Sl.d 2 Z3.c (some tk1) z)))]) (fun z=>(H.set tk1 (some (.tok 2 z.l.length)))) (fun z=>Z95_j13 a0 x3 z=some r) ?_ ?_
 ·intro K13 hK13;refine seqR (S Mv (S Mv (G0 Fv ?_)));refine G1 64 rfl Ld ?_;refine G1 65 rfl BI ?_;refine S PA (S Mv (G0 Fv ?_));refine G1 69 rfl Ld ?_;refine G1 70 rfl BI ?_;refine S PO (S Mv (G0 Fv ?_));refine G1 74 rfl Ld ?_;refine G1 75 rfl BI ?_;refine S PO (nil ?_);refine cE hE (fun hc23 hE=>?_) (fun hc23 hE=>?_)
  ·refine region ?_;refine S Mv (S Fv (S Ld (S BU (S BV ?_))));obtain⟨x24,gx24,hE⟩:=bO hE;refine SH (am Z3.c (TK rfl) rfl (TK rfl) (TK rfl) gx24) ?_;refine hq (H.set tk1 (some (.tok 2 x24.l.length))) ?_;refine S As (nil ?_);exact hK13 _ x24 Weak.toA hE
  refine AWp.skip ?_;exact hK13 _ s8_11 Weak.toA hE
 rintro s8_14 hE;try dsimp only at hE
 unfold Z95_j13 at hE;refine seqJH KeepsT.nil (fun(z:(Sl Z3))=>[(8,.a (.d (Sl.d 2 Z3.c (some tk1) z)))]) (fun z=>(H.set tk1 (some (.tok 2 z.l.length)))) (fun z=>Z95_j15 z=some r) ?_ ?_
 ·intro K15 hK15;refine seqR (S Ld (S Ld ?_));obtain⟨x19,gx19,hE⟩:=bO hE;refine Sc rfl rfl (Z85_walk gx19) ?_;refine nil ?_;refine cE hE (fun hc20 hE=>?_) (fun hc20 hE=>?_)
  ·refine region ?_;refine S Mv (S Fv (S Ld (S BU (S BV ?_))));obtain⟨x21,gx21,hE⟩:=bO hE;refine SH (am Z3.c (TK rfl) rfl (TK rfl) (TK rfl) gx21) ?_;refine hq (H.set tk1 (some (.tok 2 x21.l.length))) ?_;refine S As (nil ?_);exact hK15 _ x21 Weak.toA hE
  refine AWp.skip ?_;exact hK15 _ s8_14 Weak.toA hE
 rintro s8_16 hE;try dsimp only at hE
 unfold Z95_j15 at hE;refine seqR (S Mv (S As (nil ?_)));refine AWp.dropTok 4 rfl ?_;refine AWp.ret ?_;repeat (first|refine xBlock_ret ?_|refine xThen_ret ?_)
 obtain rfl:=Option.some.inj hE;refine retQ.retF H rfl ⟨rfl,rfl⟩ ?_
 first|exact Heap.sub_set htk1|(simp only [Heap.set_set]; exact Heap.sub_set htk1)
def Z91 (a0:TDoc) (a1:Bs):Option Bool:=(Z79 a0 a1).bind fun x3=>(Z83 a1).bind fun x5=>some (x5||x3.2)
theorem Z91_walk {a0:TDoc}{a1:Bs}{r:Bool}(hE:Z91 a0 a1=some r) (H:Heap) :ACalls Tryz.prog 127 [.agg (TDoc.c a0),.d (.str a1)] H fun v h'=>v=.a (.d (.bool r))/\h'=H:=by
 unfold Z91 at hE;refine ACalls.oW 18 [.tmp 4] Tryz.call127 Tryz.func127 ?_;refine seqR (S BX (S As (nil ?_)));refine seqR (S Ld (S Mv ?_));obtain⟨x3,gx3,hE⟩:=bO hE;refine Sc rfl rfl (Z79_walk gx3) ?_;refine S Mv (S EX (S EX ?_));refine Sl ?_;refine Sf ?_;refine S As (nil ?_);refine freezeA 5 _ rfl (KA 1 (KA 6 Keeps.nil)) ?_;refine seqR (S Mv ?_);obtain⟨x5,gx5,hE⟩:=bO hE;refine Sc rfl rfl (Z83_walk gx5) ?_
 refine S Mv (G0 Mv (S PO (S As (nil ?_))));exact rt hE
def Z80_j2  (y3_l0:Z5):Option (Z5×Bool):=some ((Z5.mk ([]:Bs) TRef.zero false Z7.zero (Sl.nil:Sl TDir)),false)
def Z80_l6 (a0:(Sl Z5)) (a1:Bs) :Nat->Nat->Z5->Option (Z5×Bool)
 | 0,_,_=>none
 | n6+1,s6_7,y8_l0=>bif (decide (((s6_7:Nat):Int)<((a0.l.length:Nat):Int))) then((a0.l[s6_7]?).bind fun x15=>bif ((x15.FName==a1)) then((a0.l[s6_7]?).bind fun x18=>some (x18,true)) else((Z80_l6 a0 a1 n6) (s6_7+1) y8_l0)) else(Z80_j2   y8_l0)
def Z80 (a0:(Sl Z5)) (a1:Bs):Option (Z5×Bool):=Z80_l6 a0 a1 (a0.l.length+1) 0 Z5.zero
theorem Z80_walk {a0:Sl Z5}{a1:Bs}{w0:Option Nat}{r:Z5×Bool}(hE:Z80 a0 a1=some r) (H:Heap) :ACalls Tryz.prog 128 [.d (Sl.d 10 Z5.c w0 a0),.d (.str a1)] H fun v h'=>v=.tup [.agg (Z5.c r.1),.d (.bool r.2)]/\h'=H:=by
 unfold Z80 at hE;refine ACalls.oW 25 [.cell 4 113,.tmp 5] Tryz.call128 Tryz.func128 ?_;refine seqR ?_;refine Sl ?_;refine S As (nil ?_);refine seqJ (TA 4 KeepsT.nil) (fun(z:Z5)=>[]) (fun z=>[Z5.c z]) (fun z=>H) (fun z=>Z80_j2 z=some r) ?_ ?_
 ·intro K2 hK2;refine seqR (S As (nil ?_));refine block ?_;refine loopO (TA 0 (TA 1 (TA 4 KeepsT.nil))) (fun(z:Nat×Nat×Z5)=>[(6,.a (.d (.int .i64 ((z.2.1:Nat):Int))))]) (fun z=>[Z5.c z.2.2]) (fun z=>H) (fun z=>z.1) (fun z=>Z80_l6 a0 a1 z.1 z.2.1 z.2.2=some r) ((a0.l.length+1),0,Z5.zero) hE Weak.toA ?_;rintro ⟨n6,s6_7,y8_l0⟩ hE K6 hK6;try dsimp only at hE
  cases n6 with
  | zero=>cases hE
  | succ n6 =>
    rw [Z80_l6] at hE;refine seqK fun K9 hK9=>?_;refine seqR (S Mv (S Mv ?_));refine sLen (f:=Z5.c) (s:=a0) (TK rfl) rfl rfl rfl rfl fun hL11=>?_;refine S BI (nil ?_);refine cE hE (fun hc12 hE=>?_) (fun hc12 hE=>?_)
    ·try dsimp only at hc12
     have hf12:=of_decide_eq_true hc12;refine sk hK9 ?_;clear hK9 K9;refine seqK fun K13 hK13=>?_;refine block ?_;refine seqR (S Mv (S Mv ?_));obtain⟨x15,gx15,hE⟩:=bO hE;refine S (ix Z5.c s6_7 gx15) (S Fv (S Ld (S Mv (S BS (nil ?_)))));refine cE hE (fun hc16 hE=>?_) (fun hc16 hE=>?_)
     ·refine seqR (S Mv (S Mv ?_));obtain⟨x18,gx18,hE⟩:=bO hE;refine S (ix Z5.c s6_7 gx18) (S Ld ?_);refine Sf ?_;refine S As (nil ?_);exact rt hE
     refine sk hK13 ?_;clear hK13 K13;refine region ?_;refine S Mv ?_;refine SI ?_;refine S As (nil ?_);exact hK6 _ (n6,(s6_7+1),y8_l0) Weak.toA hE (Nat.lt_succ_self _)
    refine AWp.exit ?_;exact hK2 _ y8_l0 Weak.toA hE
 rintro y3_l0 hE;try dsimp only at hE
 unfold Z80_j2 at hE;refine seqR (S BU ?_);refine Sf ?_;refine S As (nil ?_);exact rt hE
def Z82 (a0:TDoc) (a1:Bs):Option Bool:=(Z79 a0 a1).bind fun x3=>(Z83 a1).bind fun x5=>some (x5||(x3.2&&(decide (x3.1.FKind=(4:Int)))))
theorem Z82_walk {a0:TDoc}{a1:Bs}{r:Bool}(hE:Z82 a0 a1=some r) (H:Heap) :ACalls Tryz.prog 198 [.agg (TDoc.c a0),.d (.str a1)] H fun v h'=>v=.a (.d (.bool r))/\h'=H:=by
 unfold Z82 at hE;refine ACalls.oW 23 [.tmp 4] Tryz.call198 Tryz.func198 ?_;refine seqR (S BX (S As (nil ?_)));refine seqR (S Ld (S Mv ?_));obtain⟨x3,gx3,hE⟩:=bO hE;refine Sc rfl rfl (Z79_walk gx3) ?_;refine S Mv (S EX (S EX ?_));refine Sl ?_;refine Sf ?_;refine S As (nil ?_);refine freezeA 5 _ rfl (KA 1 (KA 6 Keeps.nil)) ?_;refine seqR (S Mv ?_);obtain⟨x5,gx5,hE⟩:=bO hE;refine Sc rfl rfl (Z83_walk gx5) ?_
 refine S Mv (G0 Mv ?_);refine G1 16 rfl Mv ?_;refine G0 Fv ?_;refine G1 18 rfl Ld ?_;refine G1 19 rfl BI ?_;refine gC rfl rfl (fun hC=>ungdA (k:=17) rfl (pickAndA rfl rfl rfl)) rfl ?_;refine S PO (S As (nil ?_));exact rt hE
def Z81 (a0:TDoc) (a1:Bs):Option Bool:=(Z79 a0 a1).bind fun x3=>(Z82 a0 a1).bind fun x5=>some (x5||(x3.2&&(decide (x3.1.FKind=(5:Int)))))
theorem Z81_walk {a0:TDoc}{a1:Bs}{r:Bool}(hE:Z81 a0 a1=some r) (H:Heap) :ACalls Tryz.prog 129 [.agg (TDoc.c a0),.d (.str a1)] H fun v h'=>v=.a (.d (.bool r))/\h'=H:=by
 unfold Z81 at hE;refine ACalls.oW 24 [.tmp 4] Tryz.call129 Tryz.func129 ?_;refine seqR (S BX (S As (nil ?_)));refine seqR (S Ld (S Mv ?_));obtain⟨x3,gx3,hE⟩:=bO hE;refine Sc rfl rfl (Z79_walk gx3) ?_;refine S Mv (S EX (S EX ?_));refine Sl ?_;refine Sf ?_;refine S As (nil ?_);refine freezeA 5 _ rfl (KA 1 (KA 2 (KA 6 Keeps.nil))) ?_;refine seqR (S Ld (S Mv ?_));obtain⟨x5,gx5,hE⟩:=bO hE;refine Sc rfl rfl (Z82_walk gx5) ?_
 refine S Mv (G0 Mv ?_);refine G1 17 rfl Mv ?_;refine G0 Fv ?_;refine G1 19 rfl Ld ?_;refine G1 20 rfl BI ?_;refine gC rfl rfl (fun hC=>ungdA (k:=18) rfl (pickAndA rfl rfl rfl)) rfl ?_;refine S PO (S As (nil ?_));exact rt hE
def Z90_j3  (s9_4:(Sl Z3)):Option (Sl Z3):=some s9_4
def Z90_j14 (s10_9:Nat) (k_next_7:(Sl Z3)->Nat->Option (Sl Z3)) (s9_15:(Sl Z3)):Option (Sl Z3):=k_next_7 s9_15 (s10_9+1)
def Z90_l7 (a0:TDoc) (a1:(Sl Z5)) (a2:Bs) (a3:Bs) :Nat->(Sl Z3)->Nat->Option (Sl Z3)
 | 0,_,_=>none
 | n7+1,s9_8,s10_9=>bif (decide (((s10_9:Nat):Int)<((a1.l.length:Nat):Int))) then((a1.l[s10_9]?).bind fun x17=>(catC a2 x17.FName).bind fun x18=>(catC x18 a3).bind fun x19=>(partC a1 none (some ((s10_9:Nat):Int))).bind fun x21=>(a1.l[s10_9]?).bind fun x22=>(Z80 x21 x22.FName).bind fun x23=>(a1.l[s10_9]?).bind fun x25=>(Z93 x25.FName false x23.2 x19).bind fun x26=>(appC 24 s9_8 x26).bind fun x27=>(a1.l[s10_9]?).bind fun x29=>(Z91 a0 x29.FType.FName).bind fun x30=>bif (!x30) then((appC 24 x27 (⟨false,[(Z3.mk (8:Int) x19)]⟩:Sl Z3)).bind fun x32=>Z90_j14 s10_9 ((Z90_l7 a0 a1 a2 a3 n7)) x32) else((a1.l[s10_9]?).bind fun x34=>(Z81 a0 x34.FType.FName).bind fun x35=>bif (!x35) then((appC 24 x27 (⟨false,[(Z3.mk (10:Int) x19)]⟩:Sl Z3)).bind fun x37=>Z90_j14 s10_9 ((Z90_l7 a0 a1 a2 a3 n7)) x37) else(Z90_j14 s10_9 ((Z90_l7 a0 a1 a2 a3 n7)) x27))) else(Z90_j3   s9_8)
def Z90 (a0:TDoc) (a1:(Sl Z5)) (a2:Bs) (a3:Bs):Option (Sl Z3):=Z90_l7 a0 a1 a2 a3 (a1.l.length+1) (Sl.nil:Sl Z3) 0
theorem Z90_walk {a0:TDoc}{a1:Sl Z5}{a2 a3:Bs}{w1:Option Nat}{r:Sl Z3}(hE:Z90 a0 a1 a2 a3=some r) (H:Heap) :ACalls Tryz.prog 62 [.agg (TDoc.c a0),.d (Sl.d 10 Z5.c w1 a1),.d (.str a2),.d (.str a3)] H fun v h'=>v=.a (.d (Sl.d 2 Z3.c none r))/\h'=H:=by
 unfold Z90 at hE;refine ACalls.oW 80 [.tmp 8] Tryz.call62 Tryz.func62 ?_;refine AWp.tok 2 fun tk1 htk1=>?_;refine seqR (S BX ?_);refine s0 (assignNil (k':=2) rfl) rfl ?_;refine nil ?_;refine seqR (S As (nil ?_));refine AWp.nilTok 9 2 tk1 rfl hpG ?_;refine seqJH KeepsT.nil (fun(z:(Sl Z3))=>[(9,.a (.d (Sl.d 2 Z3.c (some tk1) z)))]) (fun z=>(H.set tk1 (some (.tok 2 z.l.length)))) (fun z=>Z90_j3 z=some r) ?_ ?_
 ·intro K3 hK3;refine seqR (S As (nil ?_));refine block ?_;refine loopH (TA 1 (TA 2 (TA 3 (TA 4 KeepsT.nil)))) (fun(z:Nat×(Sl Z3)×Nat)=>[(9,.a (.d (Sl.d 2 Z3.c (some tk1) z.2.1))),(10,.a (.d (.int .i64 ((z.2.2:Nat):Int))))]) (fun z=>(H.set tk1 (some (.tok 2 z.2.1.l.length)))) (fun z=>z.1) (fun z=>Z90_l7 a0 a1 a2 a3 z.1 z.2.1 z.2.2=some r) ((a1.l.length+1),(Sl.nil:Sl Z3),0) hE Weak.toA ?_;rintro ⟨n7,s9_8,s10_9⟩ hE K7 hK7
  try dsimp only at hE
  cases n7 with
  | zero=>cases hE
  | succ n7 =>
    rw [Z90_l7] at hE;refine seqK fun K10 hK10=>?_;refine seqR (S Mv (S Mv ?_));refine sLen (f:=Z5.c) (s:=a1) (TK rfl) rfl rfl rfl rfl fun hL12=>?_;refine S BI (nil ?_);refine cE hE (fun hc13 hE=>?_) (fun hc13 hE=>?_)
    ·try dsimp only at hc13
     have hf13:=of_decide_eq_true hc13;refine sk hK10 ?_;clear hK10 K10;refine seqJH (TA 1 (TA 2 (TA 3 (TA 4 (TA 10 KeepsT.nil))))) (fun(z:(Sl Z3))=>[(9,.a (.d (Sl.d 2 Z3.c (some tk1) z)))]) (fun z=>(H.set tk1 (some (.tok 2 z.l.length)))) (fun z=>Z90_j14 s10_9 ((Z90_l7 a0 a1 a2 a3 n7)) z=some r) ?_ ?_
     ·intro K14 hK14;refine block ?_;refine seqR (S Mv (S Mv (S Mv ?_)));obtain⟨x17,gx17,hE⟩:=bO hE;refine S (ix Z5.c s10_9 gx17) (S Fv (S Ld ?_));obtain⟨x18,gx18,hE⟩:=bO hE;refine s0 (catM rfl rfl gx18) rfl ?_;refine S Mv ?_;obtain⟨x19,gx19,hE⟩:=bO hE;refine s0 (catM rfl rfl gx19) rfl ?_;refine S As (nil ?_);refine AWp.seqD (Sd Mv (Sd Mv ?_));obtain⟨x21,gx21,hE⟩:=bO hE;refine DOps.s0 (partM (f:=Z5.c) (l:=none) (r:=(some ((s10_9:Nat):Int))) (TK rfl) rfl (TK rfl) rfl rfl trivial rfl gx21) rfl ?_
      refine Sd Mv (Sd Mv ?_);obtain⟨x22,gx22,hE⟩:=bO hE;refine Sd (ix Z5.c s10_9 gx22) (Sd Fv (Sd Ld ?_));obtain⟨x23,gx23,hE⟩:=bO hE;refine Scd rfl rfl (Z80_walk gx23) ?_;refine Sd Mv (Sd EX (Sd EX ?_));refine DOps.sB (TK rfl) rfl rfl ?_ (by repeat (first|exact Snoc.nil|apply Snoc.cons));refine DOps.sLn (storeLFA (TK rfl) rfl rfl rfl rfl rfl) ?_;refine Sd As ?_;refine DOps.nil (by decide +kernel) ?_
      refine freezeA 12 _ rfl (KA 1 (KA 2 (KA 3 (KA 4 (KA 9 (KA 10 (KA 11 (KA 13 Keeps.nil)))))))) ?_;refine seqR (S Mv (S Mv (S Mv ?_)));obtain⟨x25,gx25,hE⟩:=bO hE;refine S (ix Z5.c s10_9 gx25) (S Fv (S Ld (S Mv (S Mv ?_))));obtain⟨x26,gx26,hE⟩:=bO hE;refine Sc rfl rfl (Z93_walk gx26) ?_;obtain⟨x27,gx27,hE⟩:=bO hE;refine SH (am Z3.c (TK rfl) rfl (TK rfl) (TK rfl) gx27) ?_;refine hq (H.set tk1 (some (.tok 2 x27.l.length))) ?_
      refine S As (nil ?_);refine AWp.seqD (Sd Ld (Sd Mv (Sd Mv ?_)));obtain⟨x29,gx29,hE⟩:=bO hE;refine Sd (ix Z5.c s10_9 gx29) (Sd Fv (Sd Fv (Sd Ld ?_)));obtain⟨x30,gx30,hE⟩:=bO hE;refine Scd rfl rfl (Z91_walk gx30) ?_;refine Sd NB ?_;refine DOps.nil (by decide +kernel) ?_;refine cE hE (fun hc31 hE=>?_) (fun hc31 hE=>?_)
      ·refine region ?_;refine S Mv (S Mv (S BU (S BV ?_)));obtain⟨x32,gx32,hE⟩:=bO hE;refine SH (am Z3.c (TK rfl) rfl (TK rfl) (TK rfl) gx32) ?_;refine hq (H.set tk1 (some (.tok 2 x32.l.length))) ?_;refine S As (nil ?_);exact hK14 _ x32 Weak.toA hE
      refine AWp.seqD (Sd Ld (Sd Mv (Sd Mv ?_)));obtain⟨x34,gx34,hE⟩:=bO hE;refine Sd (ix Z5.c s10_9 gx34) (Sd Fv (Sd Fv (Sd Ld ?_)));obtain⟨x35,gx35,hE⟩:=bO hE;refine Scd rfl rfl (Z81_walk gx35) ?_;refine Sd NB ?_;refine DOps.nil (by decide +kernel) ?_;refine cE hE (fun hc36 hE=>?_) (fun hc36 hE=>?_)
      ·refine region ?_;refine S Mv (S Mv (S BU (S BV ?_)));obtain⟨x37,gx37,hE⟩:=bO hE;refine SH (am Z3.c (TK rfl) rfl (TK rfl) (TK rfl) gx37) ?_;refine hq (H.set tk1 (some (.tok 2 x37.l.length))) ?_;refine S As (nil ?_);exact hK14 _ x37 Weak.toA hE
      refine AWp.skip ?_;exact hK14 _ x27 Weak.toA hE
     rintro s9_15 hE;try dsimp only at hE
     unfold Z90_j14 at hE;refine region ?_;refine S Mv ?_;refine SI ?_;refine S As (nil ?_);exact hK7 _ (n7,s9_15,(s10_9+1)) Weak.toA hE (Nat.lt_succ_self _)
    refine AWp.exit ?_;exact hK3 _ s9_8 Weak.toA hE
 rintro s9_4 hE;try dsimp only at hE
 unfold Z90_j3 at hE;refine seqR (S Mv (S As (nil ?_)));refine AWp.dropTok 8 rfl ?_;refine AWp.ret ?_;repeat (first|refine xBlock_ret ?_|refine xThen_ret ?_)
 obtain rfl:=Option.some.inj hE;refine retQ.retF H rfl ⟨rfl,rfl⟩ ?_
 first|exact Heap.sub_set htk1|(simp only [Heap.set_set]; exact Heap.sub_set htk1)
def Z78_j2  (y3_l0:Z4):Option (Z4×Bool):=some ((Z4.mk ([]:Bs) (Sl.nil:Sl Z5) TRef.zero (Sl.nil:Sl TDir)),false)
def Z78_l6 (a0:TDef) (a1:Bs) :Nat->Nat->Z4->Option (Z4×Bool)
 | 0,_,_=>none
 | n6+1,s6_7,y8_l0=>bif (decide (((s6_7:Nat):Int)<((a0.FFields.l.length:Nat):Int))) then((a0.FFields.l[s6_7]?).bind fun x15=>bif ((x15.FName==a1)) then((a0.FFields.l[s6_7]?).bind fun x18=>some (x18,true)) else((Z78_l6 a0 a1 n6) (s6_7+1) y8_l0)) else(Z78_j2   y8_l0)
def Z78 (a0:TDef) (a1:Bs):Option (Z4×Bool):=Z78_l6 a0 a1 (a0.FFields.l.length+1) 0 Z4.zero
theorem Z78_walk {a0:TDef}{a1:Bs}{r:Z4×Bool}(hE:Z78 a0 a1=some r) (H:Heap) :ACalls Tryz.prog 76 [.agg (TDef.c a0),.d (.str a1)] H fun v h'=>v=.tup [.agg (Z4.c r.1),.d (.bool r.2)]/\h'=H:=by
 unfold Z78 at hE;refine ACalls.oW 28 [.cell 4 53,.tmp 5] Tryz.call76 Tryz.func76 ?_;refine seqR (S BX ?_);refine Sl ?_;refine S As (nil ?_);refine seqJ (TA 4 KeepsT.nil) (fun(z:Z4)=>[]) (fun z=>[Z4.c z]) (fun z=>H) (fun z=>Z78_j2 z=some r) ?_ ?_
 ·intro K2 hK2;refine seqR (S As (nil ?_));refine block ?_;refine loopO (TA 1 (TA 2 (TA 4 KeepsT.nil))) (fun(z:Nat×Nat×Z4)=>[(6,.a (.d (.int .i64 ((z.2.1:Nat):Int))))]) (fun z=>[Z4.c z.2.2]) (fun z=>H) (fun z=>z.1) (fun z=>Z78_l6 a0 a1 z.1 z.2.1 z.2.2=some r) ((a0.FFields.l.length+1),0,Z4.zero) hE Weak.toA ?_;rintro ⟨n6,s6_7,y8_l0⟩ hE K6 hK6;try dsimp only at hE
  cases n6 with
  | zero=>cases hE
  | succ n6 =>
    rw [Z78_l6] at hE;refine seqK fun K9 hK9=>?_;refine seqR (S Mv (S Fv (S Ld ?_)));refine sLen (f:=Z4.c) (s:=a0.FFields) (TK rfl) rfl rfl rfl rfl fun hL11=>?_;refine S BI (nil ?_);refine cE hE (fun hc12 hE=>?_) (fun hc12 hE=>?_)
    ·try dsimp only at hc12
     have hf12:=of_decide_eq_true hc12;refine sk hK9 ?_;clear hK9 K9;refine seqK fun K13 hK13=>?_;refine block ?_;refine seqR (S Fv (S Ld (S Mv ?_)));obtain⟨x15,gx15,hE⟩:=bO hE;refine S (ix Z4.c s6_7 gx15) (S Fv (S Ld (S Mv (S BS (nil ?_)))));refine cE hE (fun hc16 hE=>?_) (fun hc16 hE=>?_)
     ·refine seqR (S Fv (S Ld (S Mv ?_)));obtain⟨x18,gx18,hE⟩:=bO hE;refine S (ix Z4.c s6_7 gx18) (S Ld ?_);refine Sf ?_;refine S As (nil ?_);exact rt hE
     refine sk hK13 ?_;clear hK13 K13;refine region ?_;refine S Mv ?_;refine SI ?_;refine S As (nil ?_);exact hK6 _ (n6,(s6_7+1),y8_l0) Weak.toA hE (Nat.lt_succ_self _)
    refine AWp.exit ?_;exact hK2 _ y8_l0 Weak.toA hE
 rintro y3_l0 hE;try dsimp only at hE
 unfold Z78_j2 at hE;refine seqR (S BU ?_);refine Sf ?_;refine S As (nil ?_);exact rt hE
end Go.Proofs

namespace Go.Proofs
open Go Go.Ab
open AOps Cert AWp Keeps KeepsT
variable {lou:Lou}
def Z88_j3  (s5_4:(Sl Z3)):Option (Sl Z3):=some s5_4
def Z88_j14 (s6_9:Nat) (k_next_7:(Sl Z3)->Nat->Option (Sl Z3)) (s5_15:(Sl Z3)):Option (Sl Z3):=k_next_7 s5_15 (s6_9+1)
def Z88_j29 (a0:TDoc) (s6_9:Nat) (x17:Z4) (x20:Bs) (k_next_7:(Sl Z3)->Nat->Option (Sl Z3)) (s5_30:(Sl Z3)):Option (Sl Z3):=(catC x20 ([40]:Bs)).bind fun x31=>(Z90 a0 x17.FArgs x31 ([41]:Bs)).bind fun x32=>(appC 24 s5_30 x32).bind fun x33=>Z88_j14 s6_9 k_next_7 x33
def Z88_l7 (a0:TDoc) (a1:TDef) :Nat->(Sl Z3)->Nat->Option (Sl Z3)
 | 0,_,_=>none
 | n7+1,s5_8,s6_9=>bif (decide (((s6_9:Nat):Int)<((a1.FFields.l.length:Nat):Int))) then((a1.FFields.l[s6_9]?).bind fun x17=>(catC a1.FName ([46]:Bs)).bind fun x19=>(catC x19 x17.FName).bind fun x20=>(partC a1.FFields none (some ((s6_9:Nat):Int))).bind fun x22=>(Z78 (TDef.mk (0:Int) ([]:Bs) (Sl.nil:Sl Bs) (Sl.nil:Sl TDir) x22 (Sl.nil:Sl Z6) (Sl.nil:Sl Z5)) x17.FName).bind fun x23=>(Z93 x17.FName false x23.2 x20).bind fun x25=>(appC 24 s5_8 x25).bind fun x26=>(Z79 a0 x17.FType.FName).bind fun x28=>(Z91 a0 x17.FType.FName).bind fun x35=>bif (!x35) then((appC 24 x26 (⟨false,[(Z3.mk (8:Int) x20)]⟩:Sl Z3)).bind fun x37=>Z88_j29 a0 s6_9 x17 x20 ((Z88_l7 a0 a1 n7)) x37) else((Z83 x17.FType.FName).bind fun x39=>bif (((!x39)&&x28.2)&&(decide (x28.1.FKind=(5:Int)))) then((appC 24 x26 (⟨false,[(Z3.mk (10:Int) x20)]⟩:Sl Z3)).bind fun x41=>Z88_j29 a0 s6_9 x17 x20 ((Z88_l7 a0 a1 n7)) x41) else(Z88_j29 a0 s6_9 x17 x20 ((Z88_l7 a0 a1 n7)) x26))) else(Z88_j3   s5_8)
def Z88 (a0:TDoc) (a1:TDef):Option (Sl Z3):=Z88_l7 a0 a1 (a1.FFields.l.length+1) (Sl.nil:Sl Z3) 0
theorem Z88_walk {a0:TDoc}{a1:TDef}{r:Sl Z3}(hE:Z88 a0 a1=some r) (H:Heap) :ACalls Tryz.prog 60 [.agg (TDoc.c a0),.agg (TDef.c a1)] H fun v h'=>v=.a (.d (Sl.d 2 Z3.c none r))/\h'=H:=by
 unfold Z88 at hE;refine ACalls.oW 95 [.tmp 4] Tryz.call60 Tryz.func60 ?_;refine AWp.tok 2 fun tk1 htk1=>?_;refine seqR (S BX (S BX ?_));refine s0 (assignNil (k':=2) rfl) rfl ?_;refine nil ?_;refine seqR (S As (nil ?_));refine AWp.nilTok 5 2 tk1 rfl hpG ?_;refine seqJH KeepsT.nil (fun(z:(Sl Z3))=>[(5,.a (.d (Sl.d 2 Z3.c (some tk1) z)))]) (fun z=>(H.set tk1 (some (.tok 2 z.l.length)))) (fun z=>Z88_j3 z=some r) ?_ ?_
 ·intro K3 hK3;refine seqR (S As (nil ?_));refine block ?_;refine loopH (TA 2 (TA 3 KeepsT.nil)) (fun(z:Nat×(Sl Z3)×Nat)=>[(5,.a (.d (Sl.d 2 Z3.c (some tk1) z.2.1))),(6,.a (.d (.int .i64 ((z.2.2:Nat):Int))))]) (fun z=>(H.set tk1 (some (.tok 2 z.2.1.l.length)))) (fun z=>z.1) (fun z=>Z88_l7 a0 a1 z.1 z.2.1 z.2.2=some r) ((a1.FFields.l.length+1),(Sl.nil:Sl Z3),0) hE Weak.toA ?_;rintro ⟨n7,s5_8,s6_9⟩ hE K7 hK7
  try dsimp only at hE
  cases n7 with
  | zero=>cases hE
  | succ n7 =>
    rw [Z88_l7] at hE;refine seqK fun K10 hK10=>?_;refine seqR (S Mv (S Fv (S Ld ?_)));refine sLen (f:=Z4.c) (s:=a1.FFields) (TK rfl) rfl rfl rfl rfl fun hL12=>?_;refine S BI (nil ?_);refine cE hE (fun hc13 hE=>?_) (fun hc13 hE=>?_)
    ·try dsimp only at hc13
     have hf13:=of_decide_eq_true hc13;refine sk hK10 ?_;clear hK10 K10;refine seqJH (TA 2 (TA 3 (TA 6 KeepsT.nil))) (fun(z:(Sl Z3))=>[(5,.a (.d (Sl.d 2 Z3.c (some tk1) z)))]) (fun z=>(H.set tk1 (some (.tok 2 z.l.length)))) (fun z=>Z88_j14 s6_9 ((Z88_l7 a0 a1 n7)) z=some r) ?_ ?_
     ·intro K14 hK14;refine block ?_;refine seqR (S Fv (S Ld (S Mv ?_)));obtain⟨x17,gx17,hE⟩:=bO hE;refine S (ix Z4.c s6_9 gx17) (S Ld ?_);refine Sl ?_;refine Sf ?_;refine nil ?_;refine freezeA 7 _ rfl (KA 2 (KA 3 (KA 5 (KA 6 Keeps.nil)))) ?_;refine seqR (S Fv (S Ld ?_));obtain⟨x19,gx19,hE⟩:=bO hE;refine s0 (catM rfl rfl gx19) rfl ?_;refine S Fv (S Ld ?_);obtain⟨x20,gx20,hE⟩:=bO hE;refine s0 (catM rfl rfl gx20) rfl ?_
      refine S As (nil ?_);refine AWp.seqD (Sd Fv (Sd Ld (Sd Mv ?_)));obtain⟨x22,gx22,hE⟩:=bO hE;refine DOps.s0 (partM (f:=Z4.c) (l:=none) (r:=(some ((s6_9:Nat):Int))) (TK rfl) rfl (TK rfl) rfl rfl trivial rfl gx22) rfl ?_;refine Sd BU (Sd Fv (Sd Ld ?_));obtain⟨x23,gx23,hE⟩:=bO hE;refine Scd rfl rfl (Z78_walk gx23) ?_;refine Sd Mv (Sd EX (Sd EX ?_));refine DOps.sB (TK rfl) rfl rfl ?_ (by repeat (first|exact Snoc.nil|apply Snoc.cons))
      refine DOps.sLn (storeLFA (TK rfl) rfl rfl rfl rfl rfl) ?_;refine Sd As ?_;refine DOps.nil (by decide +kernel) ?_;refine freezeA 9 _ rfl (KA 2 (KA 3 (KA 5 (KA 6 (KA 7 (KA 8 (KA 10 Keeps.nil))))))) ?_;refine seqR (S Mv (S Fv (S Ld (S Mv (S Mv ?_)))));obtain⟨x25,gx25,hE⟩:=bO hE;refine Sc rfl rfl (Z93_walk gx25) ?_;obtain⟨x26,gx26,hE⟩:=bO hE;refine SH (am Z3.c (TK rfl) rfl (TK rfl) (TK rfl) gx26) ?_
      refine hq (H.set tk1 (some (.tok 2 x26.l.length))) ?_;refine S As (nil ?_);refine seqR (S Ld (S Fv (S Fv (S Ld ?_))));obtain⟨x28,gx28,hE⟩:=bO hE;refine Sc rfl rfl (Z79_walk gx28) ?_;refine S Mv (S EX (S EX ?_));refine Sl ?_;refine Sf ?_;refine S As (nil ?_);refine freezeA 11 _ rfl (KA 2 (KA 3 (KA 5 (KA 6 (KA 7 (KA 8 (KA 12 Keeps.nil))))))) ?_;refine seqJH (TA 2 (TA 3 (TA 6 (TA 7 (TA 8 KeepsT.nil))))) (fun(z:(Sl Z3))=>[(5,.a (.d (Sl.d 2 Z3.c (some tk1) z)))]) (fun z=>(H.set tk1 (some (.tok 2 z.l.length)))) (fun z=>Z88_j29 a0 s6_9 x17 x20 ((Z88_l7 a0 a1 n7)) z=some r) ?_ ?_
      ·intro K29 hK29;refine seqR (S Ld (S Fv (S Fv (S Ld ?_))));obtain⟨x35,gx35,hE⟩:=bO hE;refine Sc rfl rfl (Z91_walk gx35) ?_;refine S NB (nil ?_);refine cE hE (fun hc36 hE=>?_) (fun hc36 hE=>?_)
       ·refine region ?_;refine S Mv (S Mv (S BU (S BV ?_)));obtain⟨x37,gx37,hE⟩:=bO hE;refine SH (am Z3.c (TK rfl) rfl (TK rfl) (TK rfl) gx37) ?_;refine hq (H.set tk1 (some (.tok 2 x37.l.length))) ?_;refine S As (nil ?_);exact hK29 _ x37 Weak.toA hE
       refine seqR (S Fv (S Fv (S Ld ?_)));obtain⟨x39,gx39,hE⟩:=bO hE;refine Sc rfl rfl (Z83_walk gx39) ?_;refine S NB (S Mv (G0 Mv (S PA (S Mv (G0 Fv ?_)))));refine G1 77 rfl Ld ?_;refine G1 78 rfl BI ?_;refine S PA (nil ?_);refine cE hE (fun hc40 hE=>?_) (fun hc40 hE=>?_)
       ·refine region ?_;refine S Mv (S Mv (S BU (S BV ?_)));obtain⟨x41,gx41,hE⟩:=bO hE;refine SH (am Z3.c (TK rfl) rfl (TK rfl) (TK rfl) gx41) ?_;refine hq (H.set tk1 (some (.tok 2 x41.l.length))) ?_;refine S As (nil ?_);exact hK29 _ x41 Weak.toA hE
       refine AWp.skip ?_;exact hK29 _ x26 Weak.toA hE
      rintro s5_30 hE;try dsimp only at hE
      unfold Z88_j29 at hE;refine region ?_;refine S Mv (S Ld (S Fv (S Ld (S Mv ?_))));obtain⟨x31,gx31,hE⟩:=bO hE;refine s0 (catM rfl rfl gx31) rfl ?_;obtain⟨x32,gx32,hE⟩:=bO hE;refine Sc rfl rfl (Z90_walk gx32) ?_;obtain⟨x33,gx33,hE⟩:=bO hE;refine SH (am Z3.c (TK rfl) rfl (TK rfl) (TK rfl) gx33) ?_;refine hq (H.set tk1 (some (.tok 2 x33.l.length))) ?_;refine S As (nil ?_);exact hK14 _ x33 Weak.toA hE
     rintro s5_15 hE;try dsimp only at hE
     unfold Z88_j14 at hE;refine region ?_;refine S Mv ?_;refine SI ?_;refine S As (nil ?_);exact hK7 _ (n7,s5_15,(s6_9+1)) Weak.toA hE (Nat.lt_succ_self _)
    refine AWp.exit ?_;exact hK3 _ s5_8 Weak.toA hE
 rintro s5_4 hE;try dsimp only at hE
 unfold Z88_j3 at hE;refine seqR (S Mv (S As (nil ?_)));refine AWp.dropTok 4 rfl ?_;refine AWp.ret ?_;repeat (first|refine xBlock_ret ?_|refine xThen_ret ?_)
 obtain rfl:=Option.some.inj hE;refine retQ.retF H rfl ⟨rfl,rfl⟩ ?_
 first|exact Heap.sub_set htk1|(simp only [Heap.set_set]; exact Heap.sub_set htk1)
def Z92_j3  (s3_4:(Sl Z3)):Option (Sl Z3):=some s3_4
def Z92_j14 (s4_9:Nat) (k_next_7:(Sl Z3)->Nat->Option (Sl Z3)) (s3_15:(Sl Z3)):Option (Sl Z3):=k_next_7 s3_15 (s4_9+1)
def Z92_j19 (a0:TDef) (s3_8:(Sl Z3)) (s4_9:Nat) (x17:Z6) (k_next_7:(Sl Z3)->Nat->Option (Sl Z3)) (s6_20:Bool):Option (Sl Z3):=(catC a0.FName ([46]:Bs)).bind fun x21=>(catC x21 x17.FName).bind fun x22=>(Z93 x17.FName ((((x17.FName==([116,114,117,101]:Bs)))||((x17.FName==([102,97,108,115,101]:Bs))))||((x17.FName==([110,117,108,108]:Bs)))) s6_20 x22).bind fun x23=>(appC 24 s3_8 x23).bind fun x24=>Z92_j14 s4_9 k_next_7 x24
def Z92_l26 (a0:TDef) (s3_8:(Sl Z3)) (s4_9:Nat) (x17:Z6) (k_next_7:(Sl Z3)->Nat->Option (Sl Z3)):Nat->Bool->Nat->Option (Sl Z3)
 | 0,_,_=>none
 | n26+1,s6_27,s7_28=>bif (decide (((s7_28:Nat):Int)<((s4_9:Nat):Int))) then(guardO (!s6_27) (a0.FMembers.l[s7_28]?) Z6.zero fun x33=>(Z92_l26 a0 s3_8 s4_9 x17 k_next_7 n26) (s6_27||((x33.FName==x17.FName))) (s7_28+1)) else(Z92_j19 a0 s3_8 s4_9 x17 k_next_7 s6_27)
def Z92_l7 (a0:TDef) :Nat->(Sl Z3)->Nat->Option (Sl Z3)
 | 0,_,_=>none
 | n7+1,s3_8,s4_9=>bif (decide (((s4_9:Nat):Int)<((a0.FMembers.l.length:Nat):Int))) then((a0.FMembers.l[s4_9]?).bind fun x17=>Z92_l26 a0 s3_8 s4_9 x17 ((Z92_l7 a0 n7)) (s4_9+1) false 0) else(Z92_j3   s3_8)
def Z92 (a0:TDef):Option (Sl Z3):=Z92_l7 a0 (a0.FMembers.l.length+1) (Sl.nil:Sl Z3) 0
theorem Z92_walk {a0:TDef}{r:Sl Z3}(hE:Z92 a0=some r) (H:Heap) :ACalls Tryz.prog 61 [.agg (TDef.c a0)] H fun v h'=>v=.a (.d (Sl.d 2 Z3.c none r))/\h'=H:=by
 unfold Z92 at hE;refine ACalls.oW 58 [.tmp 2] Tryz.call61 Tryz.func61 ?_;refine AWp.tok 2 fun tk1 htk1=>?_;refine seqR (S BX ?_);refine s0 (assignNil (k':=2) rfl) rfl ?_;refine nil ?_;refine seqR (S As (nil ?_));refine AWp.nilTok 3 2 tk1 rfl hpG ?_;refine seqJH KeepsT.nil (fun(z:(Sl Z3))=>[(3,.a (.d (Sl.d 2 Z3.c (some tk1) z)))]) (fun z=>(H.set tk1 (some (.tok 2 z.l.length)))) (fun z=>Z92_j3 z=some r) ?_ ?_
 ·intro K3 hK3;refine seqR (S As (nil ?_));refine block ?_;refine loopH (TA 1 KeepsT.nil) (fun(z:Nat×(Sl Z3)×Nat)=>[(3,.a (.d (Sl.d 2 Z3.c (some tk1) z.2.1))),(4,.a (.d (.int .i64 ((z.2.2:Nat):Int))))]) (fun z=>(H.set tk1 (some (.tok 2 z.2.1.l.length)))) (fun z=>z.1) (fun z=>Z92_l7 a0 z.1 z.2.1 z.2.2=some r) ((a0.FMembers.l.length+1),(Sl.nil:Sl Z3),0) hE Weak.toA ?_;rintro ⟨n7,s3_8,s4_9⟩ hE K7 hK7
  try dsimp only at hE
  cases n7 with
  | zero=>cases hE
  | succ n7 =>
    rw [Z92_l7] at hE;refine seqK fun K10 hK10=>?_;refine seqR (S Mv (S Fv (S Ld ?_)));refine sLen (f:=Z6.c) (s:=a0.FMembers) (TK rfl) rfl rfl rfl rfl fun hL12=>?_;refine S BI (nil ?_);refine cE hE (fun hc13 hE=>?_) (fun hc13 hE=>?_)
    ·try dsimp only at hc13
     have hf13:=of_decide_eq_true hc13;refine sk hK10 ?_;clear hK10 K10;refine seqJH (TA 1 (TA 4 KeepsT.nil)) (fun(z:(Sl Z3))=>[(3,.a (.d (Sl.d 2 Z3.c (some tk1) z)))]) (fun z=>(H.set tk1 (some (.tok 2 z.l.length)))) (fun z=>Z92_j14 s4_9 ((Z92_l7 a0 n7)) z=some r) ?_ ?_
     ·intro K14 hK14;refine block ?_;refine seqR (S Fv (S Ld (S Mv ?_)));obtain⟨x17,gx17,hE⟩:=bO hE;refine S (ix Z6.c s4_9 gx17) (S Fv (S Ld (S As (nil ?_))));refine seqR (S As (nil ?_));refine seqJH (TA 1 (TA 3 (TA 4 (TA 5 KeepsT.nil)))) (fun(z:Bool)=>[(6,.a (.d (.bool z)))]) (fun z=>(H.set tk1 (some (.tok 2 s3_8.l.length)))) (fun z=>Z92_j19 a0 s3_8 s4_9 x17 ((Z92_l7 a0 n7)) z=some r) ?_ ?_
      ·intro K19 hK19;refine seqR (S As (nil ?_));refine block ?_;refine loopH (TA 1 (TA 3 (TA 4 (TA 5 KeepsT.nil)))) (fun(z:Nat×Bool×Nat)=>[(6,.a (.d (.bool z.2.1))),(7,.a (.d (.int .i64 ((z.2.2:Nat):Int))))]) (fun z=>(H.set tk1 (some (.tok 2 s3_8.l.length)))) (fun z=>z.1) (fun z=>Z92_l26 a0 s3_8 s4_9 x17 ((Z92_l7 a0 n7)) z.1 z.2.1 z.2.2=some r) ((s4_9+1),false,0) hE Weak.toA ?_;rintro ⟨n26,s6_27,s7_28⟩ hE K26 hK26
       try dsimp only at hE
       cases n26 with
       | zero=>cases hE
       | succ n26 =>
         rw [Z92_l26] at hE;refine seqK fun K29 hK29=>?_;refine seqR (S Mv (S Mv (S BI (nil ?_))));refine cE hE (fun hc31 hE=>?_) (fun hc31 hE=>?_)
         ·try dsimp only at hc31
          have hf31:=of_decide_eq_true hc31;refine sk hK29 ?_;clear hK29 K29;refine seqK fun K32 hK32=>?_;refine block ?_;refine region ?_;refine S Mv (S Mv (G0 Fv ?_));refine G1 28 rfl Ld ?_;refine G0 Mv ?_;obtain⟨x33,gx33,hE⟩:=gO hE;refine gC rfl rfl (fun hC=>ungdA (k:=29) rfl (ungdA (k:=30) rfl (idxMn (f:=Z6.c) (n:=s7_28) (TK rfl) rfl (TK rfl) rfl rfl rfl (gx33 hC)))) rfl ?_;refine G1 31 rfl Fv ?_
          refine G1 32 rfl Ld ?_;refine G0 Mv ?_;refine G2 33 34 rfl rfl BS ?_;refine S PO (S As (nil ?_));refine hK32 _ ?_;clear hK32 K32;refine region ?_;refine S Mv ?_;refine SI ?_;refine S As (nil ?_);exact hK26 _ (n26,(s6_27||((x33.FName==x17.FName))),(s7_28+1)) Weak.toA hE (Nat.lt_succ_self _)
         refine AWp.exit ?_;exact hK19 _ s6_27 Weak.toA hE
      rintro s6_20 hE;try dsimp only at hE
      unfold Z92_j19 at hE;refine region ?_;refine S Mv (S Mv (S Mv (S BS (S Mv (G0 Mv ?_)))));refine G1 42 rfl BS ?_;refine S PO (S Mv (G0 Mv ?_));refine G1 46 rfl BS ?_;refine S PO (S Mv (S Fv (S Ld ?_)));obtain⟨x21,gx21,hE⟩:=bO hE;refine s0 (catM rfl rfl gx21) rfl ?_;refine S Mv ?_;obtain⟨x22,gx22,hE⟩:=bO hE;refine s0 (catM rfl rfl gx22) rfl ?_;obtain⟨x23,gx23,hE⟩:=bO hE;refine Sc rfl rfl (Z93_walk gx23) ?_
      obtain⟨x24,gx24,hE⟩:=bO hE;refine SH (am Z3.c (TK rfl) rfl (TK rfl) (TK rfl) gx24) ?_;refine hq (H.set tk1 (some (.tok 2 x24.l.length))) ?_;refine S As (nil ?_);exact hK14 _ x24 Weak.toA hE
     rintro s3_15 hE;try dsimp only at hE
     unfold Z92_j14 at hE;refine region ?_;refine S Mv ?_;refine SI ?_;refine S As (nil ?_);exact hK7 _ (n7,s3_15,(s4_9+1)) Weak.toA hE (Nat.lt_succ_self _)
    refine AWp.exit ?_;exact hK3 _ s3_8 Weak.toA hE
 rintro s3_4 hE;try dsimp only at hE
 unfold Z92_j3 at hE;refine seqR (S Mv (S As (nil ?_)));refine AWp.dropTok 2 rfl ?_;refine AWp.ret ?_;repeat (first|refine xBlock_ret ?_|refine xThen_ret ?_)
 obtain rfl:=Option.some.inj hE;refine retQ.retF H rfl ⟨rfl,rfl⟩ ?_
 first|exact Heap.sub_set htk1|(simp only [Heap.set_set]; exact Heap.sub_set htk1)
end Go.Proofs

namespace Go.Proofs
open Go Go.Ab
open AOps Cert AWp Keeps KeepsT
variable {lou:Lou}
def Z77_j7  (s5_8:(Sl Z3)):Option (Sl Z3):=some s5_8
def Z77_j3 (a0:TDoc) (a1:Bool)  (s5_4:(Sl Z3)):Option (Sl Z3):=(Z79 a0 ([81,117,101,114,121]:Bs)).bind fun x6=>bif (a1&&(!x6.2)) then((appC 24 s5_4 (⟨false,[(Z3.mk (30:Int) ([81,117,101,114,121]:Bs))]⟩:Sl Z3)).bind fun x12=>Z77_j7   x12) else(Z77_j7   s5_4)
def Z77_j21 (s6_16:Nat) (k_next_14:(Sl Z3)->Nat->Option (Sl Z3)) (s5_22:(Sl Z3)):Option (Sl Z3):=k_next_14 s5_22 (s6_16+1)
def Z77_j29 (a0:TDoc) (s6_16:Nat) (x24:TDef) (x27:(Sl Z3)) (k_next_14:(Sl Z3)->Nat->Option (Sl Z3)) (s29_30:Bool):Option (Sl Z3):=bif s29_30 then((Z88 a0 x24).bind fun x32=>(appC 24 x27 x32).bind fun x33=>Z77_j21 s6_16 k_next_14 x33) else(bif (decide (x24.FKind=(4:Int))) then((Z92 x24).bind fun x36=>(appC 24 x27 x36).bind fun x37=>Z77_j21 s6_16 k_next_14 x37) else(bif (decide (x24.FKind=(5:Int))) then((catC x24.FName ([46]:Bs)).bind fun x40=>(Z90 a0 x24.FInputs x40 ([]:Bs)).bind fun x41=>(appC 24 x27 x41).bind fun x42=>Z77_j21 s6_16 k_next_14 x42) else(Z77_j21 s6_16 k_next_14 x27)))
def Z77_l14 (a0:TDoc) (a1:Bool) :Nat->(Sl Z3)->Nat->Option (Sl Z3)
 | 0,_,_=>none
 | n14+1,s5_15,s6_16=>bif (decide (((s6_16:Nat):Int)<((a0.FDefs.l.length:Nat):Int))) then((a0.FDefs.l[s6_16]?).bind fun x24=>(Z95 a0 ((s6_16:Nat):Int)).bind fun x26=>(appC 24 s5_15 x26).bind fun x27=>bif (decide (x24.FKind=(1:Int))) then(Z77_j29 a0 s6_16 x24 x27 ((Z77_l14 a0 a1 n14)) (decide (x24.FKind=(1:Int)))) else(Z77_j29 a0 s6_16 x24 x27 ((Z77_l14 a0 a1 n14)) (decide (x24.FKind=(2:Int))))) else(Z77_j3 a0 a1  s5_15)
def Z77 (a0:TDoc) (a1:Bool):Option (Sl Z3):=Z77_l14 a0 a1 (a0.FDefs.l.length+1) (Sl.nil:Sl Z3) 0
theorem Z77_walk {a0:TDoc}{a1:Bool}{r:Sl Z3}(hE:Z77 a0 a1=some r) (H:Heap) :ACalls Tryz.prog 23 [.agg (TDoc.c a0),.d (.bool a1)] H fun v h'=>v=.a (.d (Sl.d 2 Z3.c none r))/\h'=H:=by
 unfold Z77 at hE;refine ACalls.oW 69 [.tmp 4] Tryz.call23 Tryz.func23 ?_;refine AWp.tok 2 fun tk1 htk1=>?_;refine seqR (S BX ?_);refine s0 (assignNil (k':=2) rfl) rfl ?_;refine nil ?_;refine seqR (S As (nil ?_));refine AWp.nilTok 5 2 tk1 rfl hpG ?_;refine seqJH (TA 1 (TA 2 KeepsT.nil)) (fun(z:(Sl Z3))=>[(5,.a (.d (Sl.d 2 Z3.c (some tk1) z)))]) (fun z=>(H.set tk1 (some (.tok 2 z.l.length)))) (fun z=>Z77_j3 a0 a1 z=some r) ?_ ?_
 ·intro K3 hK3;refine seqR (S As (nil ?_));refine block ?_;refine loopH (TA 1 (TA 2 KeepsT.nil)) (fun(z:Nat×(Sl Z3)×Nat)=>[(5,.a (.d (Sl.d 2 Z3.c (some tk1) z.2.1))),(6,.a (.d (.int .i64 ((z.2.2:Nat):Int))))]) (fun z=>(H.set tk1 (some (.tok 2 z.2.1.l.length)))) (fun z=>z.1) (fun z=>Z77_l14 a0 a1 z.1 z.2.1 z.2.2=some r) ((a0.FDefs.l.length+1),(Sl.nil:Sl Z3),0) hE Weak.toA ?_;rintro ⟨n14,s5_15,s6_16⟩ hE K14 hK14
  try dsimp only at hE
  cases n14 with
  | zero=>cases hE
  | succ n14 =>
    rw [Z77_l14] at hE;refine seqK fun K17 hK17=>?_;refine seqR (S Mv (S Fv (S Ld ?_)));refine sLen (f:=TDef.c) (s:=a0.FDefs) (TK rfl) rfl rfl rfl rfl fun hL19=>?_;refine S BI (nil ?_);refine cE hE (fun hc20 hE=>?_) (fun hc20 hE=>?_)
    ·try dsimp only at hc20
     have hf20:=of_decide_eq_true hc20;refine sk hK17 ?_;clear hK17 K17;refine seqJH (TA 1 (TA 2 (TA 6 KeepsT.nil))) (fun(z:(Sl Z3))=>[(5,.a (.d (Sl.d 2 Z3.c (some tk1) z)))]) (fun z=>(H.set tk1 (some (.tok 2 z.l.length)))) (fun z=>Z77_j21 s6_16 ((Z77_l14 a0 a1 n14)) z=some r) ?_ ?_
     ·intro K21 hK21;refine block ?_;refine seqR (S Fv (S Ld (S Mv ?_)));obtain⟨x24,gx24,hE⟩:=bO hE;refine S (ix TDef.c s6_16 gx24) (S Ld ?_);refine Sl ?_;refine Sf ?_;refine nil ?_;refine freezeA 7 _ rfl (KA 1 (KA 2 (KA 5 (KA 6 Keeps.nil)))) ?_;refine seqR (S Mv (S Ld (S Mv ?_)));obtain⟨x26,gx26,hE⟩:=bO hE;refine Sc rfl rfl (Z95_walk gx26) ?_;obtain⟨x27,gx27,hE⟩:=bO hE;refine SH (am Z3.c (TK rfl) rfl (TK rfl) (TK rfl) gx27) ?_
      refine hq (H.set tk1 (some (.tok 2 x27.l.length))) ?_;refine S As (nil ?_);refine seqR (S Fv (S Ld (nil ?_)));refine block ?_;refine seqJH (TA 1 (TA 2 (TA 5 (TA 6 (TA 7 (TA 28 KeepsT.nil)))))) (fun(z:Bool)=>[(29,.a (.d (.bool z)))]) (fun z=>(H.set tk1 (some (.tok 2 x27.l.length)))) (fun z=>Z77_j29 a0 s6_16 x24 x27 ((Z77_l14 a0 a1 n14)) z=some r) ?_ ?_
      ·intro K29 hK29;refine seqR (S BI (S As (nil ?_)));refine cE hE (fun hc44 hE=>?_) (fun hc44 hE=>?_)
       ·refine AWp.skip ?_;exact hK29 _ (decide (x24.FKind=(1:Int))) Weak.toA hE
       refine region ?_;refine S BI (S As (nil ?_));exact hK29 _ (decide (x24.FKind=(2:Int))) Weak.toA hE
      rintro s29_30 hE;try dsimp only at hE
      unfold Z77_j29 at hE;refine cE hE (fun hc31 hE=>?_) (fun hc31 hE=>?_)
      ·refine region ?_;refine S Mv (S Ld (S Ld ?_));obtain⟨x32,gx32,hE⟩:=bO hE;refine Sc rfl rfl (Z88_walk gx32) ?_;obtain⟨x33,gx33,hE⟩:=bO hE;refine SH (am Z3.c (TK rfl) rfl (TK rfl) (TK rfl) gx33) ?_;refine hq (H.set tk1 (some (.tok 2 x33.l.length))) ?_;refine S As (nil ?_);exact hK21 _ x33 Weak.toA hE
      refine seqR (S BI (S As (nil ?_)));refine cE hE (fun hc35 hE=>?_) (fun hc35 hE=>?_)
      ·refine region ?_;refine S Mv (S Ld ?_);obtain⟨x36,gx36,hE⟩:=bO hE;refine Sc rfl rfl (Z92_walk gx36) ?_;obtain⟨x37,gx37,hE⟩:=bO hE;refine SH (am Z3.c (TK rfl) rfl (TK rfl) (TK rfl) gx37) ?_;refine hq (H.set tk1 (some (.tok 2 x37.l.length))) ?_;refine S As (nil ?_);exact hK21 _ x37 Weak.toA hE
      refine seqR (S BI (S As (nil ?_)));refine cE hE (fun hc39 hE=>?_) (fun hc39 hE=>?_)
      ·refine region ?_;refine S Mv (S Ld (S Fv (S Ld (S Fv (S Ld ?_)))));obtain⟨x40,gx40,hE⟩:=bO hE;refine s0 (catM rfl rfl gx40) rfl ?_;obtain⟨x41,gx41,hE⟩:=bO hE;refine Sc rfl rfl (Z90_walk gx41) ?_;obtain⟨x42,gx42,hE⟩:=bO hE;refine SH (am Z3.c (TK rfl) rfl (TK rfl) (TK rfl) gx42) ?_;refine hq (H.set tk1 (some (.tok 2 x42.l.length))) ?_;refine S As (nil ?_);exact hK21 _ x42 Weak.toA hE
      refine AWp.skip ?_;exact hK21 _ x27 Weak.toA hE
     rintro s5_22 hE;try dsimp only at hE
     unfold Z77_j21 at hE;refine region ?_;refine S Mv ?_;refine SI ?_;refine S As (nil ?_);exact hK14 _ (n14,s5_22,(s6_16+1)) Weak.toA hE (Nat.lt_succ_self _)
    refine AWp.exit ?_;exact hK3 _ s5_15 Weak.toA hE
 rintro s5_4 hE;try dsimp only at hE
 unfold Z77_j3 at hE;refine seqR (S Ld ?_);obtain⟨x6,gx6,hE⟩:=bO hE;refine Sc rfl rfl (Z79_walk gx6) ?_;refine S Mv (S EX (S EX ?_));refine Sl ?_;refine Sf ?_;refine S As (nil ?_);refine freezeA 8 _ rfl (KA 1 (KA 5 (KA 9 Keeps.nil))) ?_;refine seqJH KeepsT.nil (fun(z:(Sl Z3))=>[(5,.a (.d (Sl.d 2 Z3.c (some tk1) z)))]) (fun z=>(H.set tk1 (some (.tok 2 z.l.length)))) (fun z=>Z77_j7 z=some r) ?_ ?_
 ·intro K7 hK7;refine seqR (S Mv (S Mv (G0 Mv ?_)));refine G1 61 rfl NB ?_;refine S PA (nil ?_);refine cE hE (fun hc11 hE=>?_) (fun hc11 hE=>?_)
  ·refine region ?_;refine S Mv (S BU (S BV ?_));obtain⟨x12,gx12,hE⟩:=bO hE;refine SH (am Z3.c (TK rfl) rfl (TK rfl) (TK rfl) gx12) ?_;refine hq (H.set tk1 (some (.tok 2 x12.l.length))) ?_;refine S As (nil ?_);exact hK7 _ x12 Weak.toA hE
  refine AWp.skip ?_;exact hK7 _ s5_4 Weak.toA hE
 rintro s5_8 hE;try dsimp only at hE
 unfold Z77_j7 at hE;refine seqR (S Mv (S As (nil ?_)));refine AWp.dropTok 4 rfl ?_;refine AWp.ret ?_;repeat (first|refine xBlock_ret ?_|refine xThen_ret ?_)
 obtain rfl:=Option.some.inj hE;refine retQ.retF H rfl ⟨rfl,rfl⟩ ?_
 first|exact Heap.sub_set htk1|(simp only [Heap.set_set]; exact Heap.sub_set htk1)
def Z103 (a0:TDoc) (a1:Bs) (a2:Int):Option Int:=(Z79 a0 a1).bind fun x3=>guardO ((!x3.2)) (Z83 a1) false fun x6=>bif ((!x3.2)&&(!x6)) then(some (8:Int)) else(bif (!decide (x3.1.FKind=a2)) then(some (9:Int)) else(some (0:Int)))
theorem Z103_walk {a0:TDoc}{a1:Bs}{a2 r:Int}(hE:Z103 a0 a1 a2=some r) (H:Heap) :ACalls Tryz.prog 130 [.agg (TDoc.c a0),.d (.str a1),.d (.int .i64 a2)] H fun v h'=>v=.a (.d (.int .i64 r))/\h'=H:=by
 unfold Z103 at hE;refine ACalls.oW 26 [.tmp 6] Tryz.call130 Tryz.func130 ?_;refine seqR (S BX (S As (nil ?_)));refine seqR (S Ld (S Mv ?_));obtain⟨x3,gx3,hE⟩:=bO hE;refine Sc rfl rfl (Z79_walk gx3) ?_;refine S Mv (S EX (S EX ?_));refine Sl ?_;refine Sf ?_;refine S As (nil ?_);refine freezeA 7 _ rfl (KA 1 (KA 2 (KA 8 Keeps.nil))) ?_;refine seqK fun K4 hK4=>?_;refine seqR (S Mv (S NB (S Mv (G0 Mv ?_))))
 obtain⟨x6,gx6,hE⟩:=gO hE;refine Gc1 18 rfl rfl rfl rfl rfl (fun hC=>Z83_walk (gx6 hC)) ?_;refine G1 19 rfl NB ?_;refine S PA (nil ?_);refine cE hE (fun hc7 hE=>?_) (fun hc7 hE=>?_)
 ·refine seqR (S As (nil ?_));exact rt hE
 refine sk hK4 ?_;clear hK4 K4;refine seqK fun K9 hK9=>?_;refine seqR (S Fv (S Ld (S Mv (S BI (nil ?_)))));refine cE hE (fun hc11 hE=>?_) (fun hc11 hE=>?_)
 ·refine seqR (S As (nil ?_));exact rt hE
 refine sk hK9 ?_;clear hK9 K9;refine seqR (S As (nil ?_));exact rt hE
def Z102_j2  :Option Bool:=some false
def Z102_l5 (a0:(Sl Bs)) (a1:Bs) :Nat->Nat->Option Bool
 | 0,_=>none
 | n5+1,s5_6=>bif (decide (((s5_6:Nat):Int)<((a0.l.length:Nat):Int))) then((a0.l[s5_6]?).bind fun x13=>bif ((x13==a1)) then(some true) else((Z102_l5 a0 a1 n5) (s5_6+1))) else(Z102_j2   )
def Z102 (a0:(Sl Bs)) (a1:Bs):Option Bool:=Z102_l5 a0 a1 (a0.l.length+1) 0
theorem Z102_walk {a0:Sl Bs}{a1:Bs}{w0:Option Nat}{r:Bool}(hE:Z102 a0 a1=some r) (H:Heap) :ACalls Tryz.prog 131 [.d (Sl.d 1 strE w0 a0),.d (.str a1)] H fun v h'=>v=.a (.d (.bool r))/\h'=H:=by
 unfold Z102 at hE;refine ACalls.oW 18 [.tmp 4] Tryz.call131 Tryz.func131 ?_;refine seqR (S As (nil ?_));refine seqJH KeepsT.nil (fun(z:Unit)=>[]) (fun z=>H) (fun z=>Z102_j2 =some r) ?_ ?_
 ·intro K2 hK2;refine seqR (S As (nil ?_));refine block ?_;refine loopH (TA 0 (TA 1 KeepsT.nil)) (fun(z:Nat×Nat)=>[(5,.a (.d (.int .i64 ((z.2:Nat):Int))))]) (fun z=>H) (fun z=>z.1) (fun z=>Z102_l5 a0 a1 z.1 z.2=some r) ((a0.l.length+1),0) hE Weak.toA ?_;rintro ⟨n5,s5_6⟩ hE K5 hK5;try dsimp only at hE
  cases n5 with
  | zero=>cases hE
  | succ n5 =>
    rw [Z102_l5] at hE;refine seqK fun K7 hK7=>?_;refine seqR (S Mv (S Mv ?_));refine sLen (f:=strE) (s:=a0) (TK rfl) rfl rfl rfl rfl fun hL9=>?_;refine S BI (nil ?_);refine cE hE (fun hc10 hE=>?_) (fun hc10 hE=>?_)
    ·try dsimp only at hc10
     have hf10:=of_decide_eq_true hc10;refine sk hK7 ?_;clear hK7 K7;refine seqK fun K11 hK11=>?_;refine block ?_;refine seqR (S Mv (S Mv ?_));obtain⟨x13,gx13,hE⟩:=bO hE;refine S (ix strE s5_6 gx13) (S Ld (S Mv (S BS (nil ?_))));refine cE hE (fun hc14 hE=>?_) (fun hc14 hE=>?_)
     ·refine seqR (S As (nil ?_));exact rt hE
     refine sk hK11 ?_;clear hK11 K11;refine region ?_;refine S Mv ?_;refine SI ?_;refine S As (nil ?_);exact hK5 _ (n5,(s5_6+1)) Weak.toA hE (Nat.lt_succ_self _)
    refine AWp.exit ?_;exact hK2 _ () Weak.toA hE
 rintro _ hE;try dsimp only at hE
 unfold Z102_j2 at hE;refine seqR (S As (nil ?_));exact rt hE
def Z63_j8  :Option Bool:=some true
def Z63_l11 (a0:(Sl Int)) (a1:(Sl Int)) :Nat->Nat->Option Bool
 | 0,_=>none
 | n11+1,s5_12=>bif (decide (((s5_12:Nat):Int)<((a0.l.length:Nat):Int))) then((a0.l[s5_12]?).bind fun x19=>(a1.l[s5_12]?).bind fun x20=>bif (!decide (x19=x20)) then(some false) else((Z63_l11 a0 a1 n11) (s5_12+1))) else(Z63_j8   )
def Z63 (a0:(Sl Int)) (a1:(Sl Int)):Option Bool:=bif (!decide (((a0.l.length:Nat):Int)=((a1.l.length:Nat):Int))) then(some false) else(Z63_l11 a0 a1 (a0.l.length+1) 0)
theorem Z63_walk {a0 a1:Sl Int}{w0 w1:Option Nat}{r:Bool}(hE:Z63 a0 a1=some r) (H:Heap) :ACalls Tryz.prog 152 [.d (Sl.d 1 (intE .i64) w0 a0),.d (Sl.d 1 (intE .i64) w1 a1)] H fun v h'=>v=.a (.d (.bool r))/\h'=H:=by
 unfold Z63 at hE;refine ACalls.oW 26 [.tmp 4] Tryz.call152 Tryz.func152 ?_;refine seqR (S As (nil ?_));refine seqK fun K2 hK2=>?_;refine seqR (S Mv ?_);refine sLen (f:=(intE .i64)) (s:=a0) (TK rfl) rfl rfl rfl rfl fun hL4=>?_;refine S Mv ?_;refine sLen (f:=(intE .i64)) (s:=a1) (TK rfl) rfl rfl rfl rfl fun hL5=>?_;refine S BI (nil ?_);refine cE hE (fun hc6 hE=>?_) (fun hc6 hE=>?_)
 ·refine seqR (S As (nil ?_));exact rt hE
 refine sk hK2 ?_;clear hK2 K2;refine seqJH KeepsT.nil (fun(z:Unit)=>[]) (fun z=>H) (fun z=>Z63_j8 =some r) ?_ ?_
 ·intro K8 hK8;refine seqR (S As (nil ?_));refine block ?_;refine loopH (TA 0 (TA 1 KeepsT.nil)) (fun(z:Nat×Nat)=>[(5,.a (.d (.int .i64 ((z.2:Nat):Int))))]) (fun z=>H) (fun z=>z.1) (fun z=>Z63_l11 a0 a1 z.1 z.2=some r) ((a0.l.length+1),0) hE Weak.toA ?_;rintro ⟨n11,s5_12⟩ hE K11 hK11;try dsimp only at hE
  cases n11 with
  | zero=>cases hE
  | succ n11 =>
    rw [Z63_l11] at hE;refine seqK fun K13 hK13=>?_;refine seqR (S Mv (S Mv ?_));refine sLen (f:=(intE .i64)) (s:=a0) (TK rfl) rfl rfl rfl rfl fun hL15=>?_;refine S BI (nil ?_);refine cE hE (fun hc16 hE=>?_) (fun hc16 hE=>?_)
    ·try dsimp only at hc16
     have hf16:=of_decide_eq_true hc16;refine sk hK13 ?_;clear hK13 K13;refine seqK fun K17 hK17=>?_;refine block ?_;refine AWp.seqD (Sd Mv (Sd Mv ?_));obtain⟨x19,gx19,hE⟩:=bO hE;refine Sd (ix (intE .i64) s5_12 gx19) ?_;refine Sd Ld (Sd Mv (Sd Mv ?_));obtain⟨x20,gx20,hE⟩:=bO hE;refine Sd (ix (intE .i64) s5_12 gx20) ?_;refine Sd Ld (Sd BI ?_);refine DOps.nil (by decide +kernel) ?_;refine cE hE (fun hc21 hE=>?_) (fun hc21 hE=>?_)
     ·refine seqR (S As (nil ?_));exact rt hE
     refine sk hK17 ?_;clear hK17 K17;refine region ?_;refine S Mv ?_;refine SI ?_;refine S As (nil ?_);exact hK11 _ (n11,(s5_12+1)) Weak.toA hE (Nat.lt_succ_self _)
    refine AWp.exit ?_;exact hK8 _ () Weak.toA hE
 rintro _ hE;try dsimp only at hE
 unfold Z63_j8 at hE;refine seqR (S As (nil ?_));exact rt hE
def Z61 (a0:TRef) (a1:TRef):Option Bool:=guardO (((a0.FName==a1.FName))) (Z63 a0.FWraps a1.FWraps) false fun x3=>some (((a0.FName==a1.FName))&&x3)
theorem Z61_walk {a0 a1:TRef}{r:Bool}(hE:Z61 a0 a1=some r) (H:Heap) :ACalls Tryz.prog 78 [.agg (TRef.c a0),.agg (TRef.c a1)] H fun v h'=>v=.a (.d (.bool r))/\h'=H:=by
 unfold Z61 at hE;refine ACalls.oW 17 [.tmp 4] Tryz.call78 Tryz.func78 ?_;refine seqR (S BX (S BX (S As (nil ?_))));refine seqR (S Fv (S Ld (S Fv (S Ld (S BS (S Mv (G0 Fv ?_)))))));refine G1 11 rfl Ld ?_;refine G0 Fv ?_;refine G1 13 rfl Ld ?_;obtain⟨x3,gx3,hE⟩:=gO hE;refine Gc2 12 14 rfl rfl rfl rfl rfl rfl (fun hC=>Z63_walk (gx3 hC)) ?_;refine S PA (S As (nil ?_));exact rt hE
def Z57 (a0:TRef):Option Bool:=guardO ((decide ((0:Int)<((a0.FWraps.l.length:Nat):Int)))) (a0.FWraps.l[0]?) (0:Int) fun x4=>some ((decide ((0:Int)<((a0.FWraps.l.length:Nat):Int)))&&(decide (x4=(1:Int))))
theorem Z57_walk {a0:TRef}{r:Bool}(hE:Z57 a0=some r) (H:Heap) :ACalls Tryz.prog 150 [.agg (TRef.c a0)] H fun v h'=>v=.a (.d (.bool r))/\h'=H:=by
 unfold Z57 at hE;refine ACalls.oW 14 [.tmp 2] Tryz.call150 Tryz.func150 ?_;refine seqR (S BX (S As (nil ?_)));refine seqR (S Fv (S Ld ?_));refine sLen (f:=(intE .i64)) (s:=a0.FWraps) (TK rfl) rfl rfl rfl rfl fun hL3=>?_;refine S BI (S Mv (G0 Fv ?_));refine G1 8 rfl Ld ?_;obtain⟨x4,gx4,hE⟩:=gO hE;refine gC rfl rfl (fun hC=>ungdA (k:=9) rfl (idxMn (f:=(intE .i64)) (n:=0) (TK rfl) rfl (TK rfl) rfl rfl rfl (gx4 hC))) rfl ?_
 refine G1 10 rfl Ld ?_;refine G1 11 rfl BI ?_;refine S PA (S As (nil ?_));exact rt hE
end Go.Proofs
