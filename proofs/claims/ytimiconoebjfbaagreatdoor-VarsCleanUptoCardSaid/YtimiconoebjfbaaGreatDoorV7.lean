import Derived.Test.YtimiconoebjfbaaGreatDoorV6
set_option maxRecDepth 100000
set_option maxHeartbeats 2000000
set_option linter.unusedVariables false
set_option linter.unusedSimpArgs false
namespace Go.Proofs
open Go Go.Ab
open AOps Cert AWp Keeps KeepsT
variable {lou:Lou}
def Z136_j2  (s1_3:(Sl Bs)):Option (Sl Bs):=some s1_3
def Z136_l15 (a0:TValue) (k_rec_56:TValue->(Sl Bs)->Option (Sl Bs)):Nat->(Sl Bs)->Nat->Option (Sl Bs)
 | 0,_,_=>none
 | n15+1,s1_16,s22_17=>bif (decide (((s22_17:Nat):Int)<((a0.FItems.l.length:Nat):Int))) then((a0.FItems.l[s22_17]?).bind fun x23=>(k_rec_56 x23 s1_16).bind fun x24=>(Z136_l15 a0 k_rec_56 n15) x24 (s22_17+1)) else(Z136_j2   s1_16)
def Z136_j10 (a0:TValue) (a1:(Sl Bs)) (k_rec_56:TValue->(Sl Bs)->Option (Sl Bs)) (s16_11:Bool):Option (Sl Bs):=bif s16_11 then(Z136_l15 a0 k_rec_56 (a0.FItems.l.length+1) a1 0) else(Z136_j2   a1)
def Z136_n:Nat->TValue->(Sl Bs)->Option (Sl Bs)
 | 0,_,_=>none
 | n+1,a0,a1=>bif (decide (a0.FKind=(7:Int))) then((appC 16 a1 (⟨false,[a0.FText]⟩:Sl Bs)).bind fun x9=>some x9) else(bif (decide (a0.FKind=(5:Int))) then(Z136_j10 a0 a1 (Z136_n n) (decide (a0.FKind=(5:Int)))) else(Z136_j10 a0 a1 (Z136_n n) (decide (a0.FKind=(6:Int)))))
theorem Z136_step (n:Nat) (ih_56:∀{a0:TValue}{a1:Sl Bs}{g1:Nat}{r:Sl Bs},Z136_n n a0 a1=some r->∀(H:Heap) (hg1:H g1=some (.tok 1 a1.l.length)),ACalls Tryz.prog 56 [.agg (TValue.c a0),.d (Sl.d 1 strE (some g1) a1)] H fun v h'=>v=.a (.d (Sl.d 1 strE (some g1) r))/\h'=(H.set g1 (some (.tok 1 r.l.length)))):∀{a0:TValue}{a1:Sl Bs}{g1:Nat}{r:Sl Bs},Z136_n (n+1) a0 a1=some r->∀(H:Heap) (hg1:H g1=some (.tok 1 a1.l.length)),ACalls Tryz.prog 56 [.agg (TValue.c a0),.d (Sl.d 1 strE (some g1) a1)] H fun v h'=>v=.a (.d (Sl.d 1 strE (some g1) r))/\h'=(H.set g1 (some (.tok 1 r.l.length))):=by
 intro a0 a1  g1 r hE H hg1;rw [Z136_n] at hE;refine ACalls.oW 31 [.tmp 4] Tryz.call56 Tryz.func56 ?_;refine AWp.heqA (h':=(H.set g1 (some (.tok 1 a1.l.length)))) (by funext n_; simp only [Heap.set]; (repeat' split)<;>simp_all) ?_;refine seqR ?_;refine S BX (S As ?_);refine nil ?_;refine seqJH KeepsT.nil (fun(z:(Sl Bs))=>[(1,.a (.d (Sl.d 1 strE (some g1) z)))]) (fun z=>(H.set g1 (some (.tok 1 z.l.length)))) (fun z=>Z136_j2 z=some r) ?_ ?_
 ·intro K2 hK2;refine seqR ?_;refine S Fv (S Ld ?_);refine nil ?_;refine block ?_;refine seqR ?_;refine S BI (S As ?_);refine nil ?_;refine cE hE (fun hc7 hE=>?_) (fun hc7 hE=>?_)
  ·refine seqR ?_;refine S Mv (S Fv (S Ld (S BV ?_)));obtain⟨x9,gx9,hE⟩:=bO hE;refine sH (appM (f:=strE) (TK rfl) rfl (TK rfl) (TK rfl) ⟨_,rfl⟩ rfl rfl (by decide) rfl rfl rfl rfl hpG rfl gx9) rfl ?_;refine hq (H.set g1 (some (.tok 1 x9.l.length))) ?_;refine S As ?_;refine nil ?_;exact rt hE
  refine seqJH (TA 1 (TA 2 KeepsT.nil)) (fun(z:Bool)=>[(16,.a (.d (.bool z)))]) (fun z=>(H.set g1 (some (.tok 1 a1.l.length)))) (fun z=>Z136_j10 a0 a1 (Z136_n n) z=some r) ?_ ?_
  ·intro K10 hK10;refine seqR ?_;refine S BI (S As ?_);refine nil ?_;refine cE hE (fun hc26 hE=>?_) (fun hc26 hE=>?_)
   ·refine AWp.skip ?_;exact hK10 _ (decide (a0.FKind=(5:Int))) Weak.toA hE
   refine region ?_;refine S BI (S As ?_);refine nil ?_;exact hK10 _ (decide (a0.FKind=(6:Int))) Weak.toA hE
  rintro s16_11 hE;try dsimp only at hE
  unfold Z136_j10 at hE;refine cE hE (fun hc12 hE=>?_) (fun hc12 hE=>?_)
  ·refine seqR ?_;refine S Fv ?_;refine s0 (loadV (TK rfl) rfl rfl (congrArg (fun x=>some (A.d x)) (TValue.FItemsD_eq _))) rfl ?_;refine sLen (f:=TValue.c) (s:=a0.FItems) (TK rfl) rfl rfl rfl rfl fun hL14=>?_;refine S Mv ?_;refine nil ?_;refine block ?_;refine loopH (TA 20 (TA 21 KeepsT.nil)) (fun(z:Nat×(Sl Bs)×Nat)=>[(1,.a (.d (Sl.d 1 strE (some g1) z.2.1))),(22,.a (.d (.int .i64 ((z.2.2:Nat):Int))))]) (fun z=>(H.set g1 (some (.tok 1 z.2.1.l.length)))) (fun z=>z.1) (fun z=>Z136_l15 a0 (Z136_n n) z.1 z.2.1 z.2.2=some r) ((a0.FItems.l.length+1),a1,0) hE Weak.toA ?_
   rintro ⟨n15,s1_16,s22_17⟩ hE K15 hK15;try dsimp only at hE
   cases n15 with
   | zero=>cases hE
   | succ n15 =>
     rw [Z136_l15] at hE;refine seqR ?_;refine S BI ?_;refine nil ?_;refine seqK fun K19 hK19=>?_;refine cE hE (fun hc20 hE=>?_) (fun hc20 hE=>?_)
     ·try dsimp only at hc20
      have hf20:=of_decide_eq_true hc20;refine sk hK19 ?_;clear hK19 K19;refine seqK fun K21 hK21=>?_;refine block ?_;refine seqR ?_;obtain⟨x23,gx23,hE⟩:=bO hE;refine s0 (idxMn (f:=TValue.c) (n:=s22_17) (TK rfl) rfl (TK rfl) rfl rfl rfl gx23) rfl ?_;refine S Ld ?_;refine Sl ?_;refine Sf ?_;refine nil ?_;refine freezeA 6 _ rfl (KA 1 (KA 20 (KA 21 (KA 22 Keeps.nil)))) ?_;refine region ?_;refine S Ld (S Mv ?_)
      obtain⟨x24,gx24,hE⟩:=bO hE;refine sH (callH rfl rfl (ih_56 gx24 _ hpG)) rfl ?_;refine hq (H.set g1 (some (.tok 1 x24.l.length))) ?_;refine S As ?_;refine nil ?_;refine hK21 _ ?_;clear hK21 K21;refine region ?_;refine SI ?_;refine S Mv ?_;refine nil ?_;exact hK15 _ (n15,x24,(s22_17+1)) Weak.toA hE (Nat.lt_succ_self _)
     refine AWp.exit ?_;exact hK2 _ s1_16 Weak.toA hE
  refine AWp.skip ?_;exact hK2 _ a1 Weak.toA hE
 rintro s1_3 hE;try dsimp only at hE
 unfold Z136_j2 at hE;refine seqR ?_;refine S Mv (S As ?_);refine nil ?_;exact rt hE
theorem Z136_all:∀(n:Nat),(∀{a0:TValue}{a1:Sl Bs}{g1:Nat}{r:Sl Bs},Z136_n n a0 a1=some r->∀(H:Heap) (hg1:H g1=some (.tok 1 a1.l.length)),ACalls Tryz.prog 56 [.agg (TValue.c a0),.d (Sl.d 1 strE (some g1) a1)] H fun v h'=>v=.a (.d (Sl.d 1 strE (some g1) r))/\h'=(H.set g1 (some (.tok 1 r.l.length))))
 | 0=>fun hE=>by first|cases hE|(rw [Z136_n] at hE; cases hE)
 | n+1=>Z136_step n (Z136_all n)
def Z136 (a0:TValue) (a1:(Sl Bs)):Option (Sl Bs):=Z136_n F0 a0 a1
theorem Z136_walk {a0:TValue}{a1:Sl Bs}{g1:Nat}{r:Sl Bs}(hE:Z136 a0 a1=some r) (H:Heap) (hg1:H g1=some (.tok 1 a1.l.length)):ACalls Tryz.prog 56 [.agg (TValue.c a0),.d (Sl.d 1 strE (some g1) a1)] H fun v h'=>v=.a (.d (Sl.d 1 strE (some g1) r))/\h'=(H.set g1 (some (.tok 1 r.l.length))):=(Z136_all F0) hE H hg1
def Z137_j2  (s3_3:(Sl Bs)) (y4_c2:(List Bs)):Option ((Sl Bs)×(List Bs)):=some (s3_3,y4_c2)
def Z137_j15 (s22_10:Nat) (k_next_8:(Sl Bs)->Nat->(List Bs)->Option ((Sl Bs)×(List Bs))) (s3_16:(Sl Bs)) (y17_c2:(List Bs)):Option ((Sl Bs)×(List Bs)):=k_next_8 s3_16 (s22_10+1) y17_c2
def Z137_j25 (a0:TQuery) (s22_10:Nat) (s3_23:(Sl Bs)) (k_next_8:(Sl Bs)->Nat->(List Bs)->Option ((Sl Bs)×(List Bs))) (k_rec_23:TQuery->(Sl TSel)->(List Bs)->(Sl Bs)->Option ((Sl Bs)×(List Bs))) (s17_26:(Sl TSel)) (y27_c2:(List Bs)):Option ((Sl Bs)×(List Bs)):=(k_rec_23 a0 s17_26 y27_c2 s3_23).bind fun x28=>Z137_j15 s22_10 k_next_8 x28.1 x28.2
def Z137_j22 (a0:TQuery) (s22_10:Nat) (y11_c2:(List Bs)) (x19:TSel) (k_next_8:(Sl Bs)->Nat->(List Bs)->Option ((Sl Bs)×(List Bs))) (k_rec_23:TQuery->(Sl TSel)->(List Bs)->(Sl Bs)->Option ((Sl Bs)×(List Bs))) (s3_23:(Sl Bs)):Option ((Sl Bs)×(List Bs)):=bif (decide (x19.FKind=(2:Int))) then((Z9 a0 x19.FName).bind fun x32=>bif ((!x32.2)||(y11_c2.contains x19.FName)) then(Z137_j15 s22_10 k_next_8 s3_23 y11_c2) else(Z137_j25 a0 s22_10 s3_23 k_next_8 k_rec_23 x32.1.FSels (insS y11_c2 x19.FName))) else(Z137_j25 a0 s22_10 s3_23 k_next_8 k_rec_23 x19.FSels y11_c2)
def Z137_j45 (s41_41:Nat) (k_next_39:(Sl Bs)->Nat->Option ((Sl Bs)×(List Bs))) (s3_46:(Sl Bs)):Option ((Sl Bs)×(List Bs)):=k_next_39 s3_46 (s41_41+1)
def Z137_l51 (s41_41:Nat) (x48:TDir) (k_next_39:(Sl Bs)->Nat->Option ((Sl Bs)×(List Bs))):Nat->(Sl Bs)->Nat->Option ((Sl Bs)×(List Bs))
 | 0,_,_=>none
 | n51+1,s3_52,s48_53=>bif (decide (((s48_53:Nat):Int)<((x48.FArgs.l.length:Nat):Int))) then((x48.FArgs.l[s48_53]?).bind fun x59=>(Z136 x59.FValue s3_52).bind fun x60=>(Z137_l51 s41_41 x48 k_next_39 n51) x60 (s48_53+1)) else(Z137_j45 s41_41 k_next_39 s3_52)
def Z137_l39 (a0:TQuery) (s22_10:Nat) (y11_c2:(List Bs)) (x19:TSel) (k_next_8:(Sl Bs)->Nat->(List Bs)->Option ((Sl Bs)×(List Bs))) (k_rec_23:TQuery->(Sl TSel)->(List Bs)->(Sl Bs)->Option ((Sl Bs)×(List Bs))):Nat->(Sl Bs)->Nat->Option ((Sl Bs)×(List Bs))
 | 0,_,_=>none
 | n39+1,s3_40,s41_41=>bif (decide (((s41_41:Nat):Int)<((x19.FDirs.l.length:Nat):Int))) then((x19.FDirs.l[s41_41]?).bind fun x48=>Z137_l51 s41_41 x48 ((Z137_l39 a0 s22_10 y11_c2 x19 k_next_8 k_rec_23 n39)) (x48.FArgs.l.length+1) s3_40 0) else(Z137_j22 a0 s22_10 y11_c2 x19 k_next_8 k_rec_23 s3_40)
def Z137_j20 (a0:TQuery) (s22_10:Nat) (y11_c2:(List Bs)) (x19:TSel) (k_next_8:(Sl Bs)->Nat->(List Bs)->Option ((Sl Bs)×(List Bs))) (k_rec_23:TQuery->(Sl TSel)->(List Bs)->(Sl Bs)->Option ((Sl Bs)×(List Bs))) (s3_21:(Sl Bs)):Option ((Sl Bs)×(List Bs)):=Z137_l39 a0 s22_10 y11_c2 x19 k_next_8 k_rec_23 (x19.FDirs.l.length+1) s3_21 0
def Z137_l63 (a0:TQuery) (s22_10:Nat) (y11_c2:(List Bs)) (x19:TSel) (k_next_8:(Sl Bs)->Nat->(List Bs)->Option ((Sl Bs)×(List Bs))) (k_rec_23:TQuery->(Sl TSel)->(List Bs)->(Sl Bs)->Option ((Sl Bs)×(List Bs))):Nat->(Sl Bs)->Nat->Option ((Sl Bs)×(List Bs))
 | 0,_,_=>none
 | n63+1,s3_64,s29_65=>bif (decide (((s29_65:Nat):Int)<((x19.FArgs.l.length:Nat):Int))) then((x19.FArgs.l[s29_65]?).bind fun x71=>(Z136 x71.FValue s3_64).bind fun x72=>(Z137_l63 a0 s22_10 y11_c2 x19 k_next_8 k_rec_23 n63) x72 (s29_65+1)) else(Z137_j20 a0 s22_10 y11_c2 x19 k_next_8 k_rec_23 s3_64)
def Z137_l8 (a0:TQuery) (a1:(Sl TSel)) (k_rec_23:TQuery->(Sl TSel)->(List Bs)->(Sl Bs)->Option ((Sl Bs)×(List Bs))):Nat->(Sl Bs)->Nat->(List Bs)->Option ((Sl Bs)×(List Bs))
 | 0,_,_,_=>none
 | n8+1,s3_9,s22_10,y11_c2=>bif (decide (((s22_10:Nat):Int)<((a1.l.length:Nat):Int))) then((a1.l[s22_10]?).bind fun x19=>Z137_l63 a0 s22_10 y11_c2 x19 ((Z137_l8 a0 a1 k_rec_23 n8)) k_rec_23 (x19.FArgs.l.length+1) s3_9 0) else(Z137_j2   s3_9 y11_c2)
def Z137_n:Nat->TQuery->(Sl TSel)->(List Bs)->(Sl Bs)->Option ((Sl Bs)×(List Bs))
 | 0,_,_,_,_=>none
 | n+1,a0,a1,a2,a3=>Z137_l8 a0 a1 (Z137_n n) (a1.l.length+1) a3 0 a2
theorem Z137_step (n:Nat) (ih_23:∀{a0:TQuery}{a1:Sl TSel}{a2:List Bs}{a3:Sl Bs}{w1:Option Nat}{c2 g3:Nat}{r:((Sl Bs)×(List Bs))},Z137_n n a0 a1 a2 a3=some r->∀(H:Heap) (hc2:H c2=some (.map (seenM a2))) (hg3:H g3=some (.tok 1 a3.l.length)),ACalls Tryz.prog 23 [.agg (TQuery.c a0),.d (Sl.d 7 TSel.c w1 a1),.d (.map c2),.d (Sl.d 1 strE (some g3) a3)] H fun v h'=>v=.a (.d (Sl.d 1 strE (some g3) r.1))/\h'=((H.set c2 (some (.map (seenM r.2)))).set g3 (some (.tok 1 r.1.l.length)))):∀{a0:TQuery}{a1:Sl TSel}{a2:List Bs}{a3:Sl Bs}{w1:Option Nat}{c2 g3:Nat}{r:((Sl Bs)×(List Bs))},Z137_n (n+1) a0 a1 a2 a3=some r->∀(H:Heap) (hc2:H c2=some (.map (seenM a2))) (hg3:H g3=some (.tok 1 a3.l.length)),ACalls Tryz.prog 23 [.agg (TQuery.c a0),.d (Sl.d 7 TSel.c w1 a1),.d (.map c2),.d (Sl.d 1 strE (some g3) a3)] H fun v h'=>v=.a (.d (Sl.d 1 strE (some g3) r.1))/\h'=((H.set c2 (some (.map (seenM r.2)))).set g3 (some (.tok 1 r.1.l.length))):=by
 intro a0 a1 a2 a3 w1 c2 g3 r hE H hc2 hg3;rw [Z137_n] at hE;refine ACalls.oW 90 [.tmp 8] Tryz.call23 Tryz.func23 ?_;have ne_g3_c2:g3≠c2:=fun e_=>by subst e_; simp_all
 refine AWp.heqA (h':=((H.set c2 (some (.map (seenM a2)))).set g3 (some (.tok 1 a3.l.length)))) (by funext n_; simp only [Heap.set]; (repeat' split)<;>simp_all) ?_;refine seqR ?_;refine S BX (S As ?_);refine nil ?_;refine seqJH KeepsT.nil (fun(z:(Sl Bs)×(List Bs))=>[(3,.a (.d (Sl.d 1 strE (some g3) z.1)))]) (fun z=>((H.set c2 (some (.map (seenM z.2)))).set g3 (some (.tok 1 z.1.l.length)))) (fun z=>Z137_j2 z.1 z.2=some r) ?_ ?_
 ·intro K2 hK2;refine seqR ?_;refine S Mv ?_;refine sLen (f:=TSel.c) (s:=a1) (TK rfl) rfl rfl rfl rfl fun hL7=>?_;refine S Mv ?_;refine nil ?_;refine block ?_;refine loopH (TA 2 (TA 4 (TA 20 (TA 21 KeepsT.nil)))) (fun(z:Nat×(Sl Bs)×Nat×(List Bs))=>[(3,.a (.d (Sl.d 1 strE (some g3) z.2.1))),(22,.a (.d (.int .i64 ((z.2.2.1:Nat):Int))))]) (fun z=>((H.set c2 (some (.map (seenM z.2.2.2)))).set g3 (some (.tok 1 z.2.1.l.length)))) (fun z=>z.1) (fun z=>Z137_l8 a0 a1 (Z137_n n) z.1 z.2.1 z.2.2.1 z.2.2.2=some r) ((a1.l.length+1),a3,0,a2) hE Weak.toA ?_
  rintro ⟨n8,s3_9,s22_10,y11_c2⟩ hE K8 hK8;try dsimp only at hE
  cases n8 with
  | zero=>cases hE
  | succ n8 =>
    rw [Z137_l8] at hE;refine seqR ?_;refine S BI ?_;refine nil ?_;refine seqK fun K13 hK13=>?_;refine cE hE (fun hc14 hE=>?_) (fun hc14 hE=>?_)
    ·try dsimp only at hc14
     have hf14:=of_decide_eq_true hc14;refine sk hK13 ?_;clear hK13 K13;refine seqJH (TA 2 (TA 4 (TA 20 (TA 21 (TA 22 KeepsT.nil))))) (fun(z:(Sl Bs)×(List Bs))=>[(3,.a (.d (Sl.d 1 strE (some g3) z.1)))]) (fun z=>((H.set c2 (some (.map (seenM z.2)))).set g3 (some (.tok 1 z.1.l.length)))) (fun z=>Z137_j15 s22_10 ((Z137_l8 a0 a1 (Z137_n n) n8)) z.1 z.2=some r) ?_ ?_
     ·intro K15 hK15;refine block ?_;refine seqR ?_;obtain⟨x19,gx19,hE⟩:=bO hE;refine s0 (idxMn (f:=TSel.c) (n:=s22_10) (TK rfl) rfl (TK rfl) rfl rfl rfl gx19) rfl ?_;refine S Ld ?_;refine Sl ?_;refine Sf ?_;refine nil ?_;refine freezeA 10 _ rfl (KA 2 (KA 3 (KA 4 (KA 20 (KA 21 (KA 22 Keeps.nil)))))) ?_;refine seqJH (TA 2 (TA 4 (TA 10 (TA 20 (TA 21 (TA 22 KeepsT.nil)))))) (fun(z:(Sl Bs))=>[(3,.a (.d (Sl.d 1 strE (some g3) z)))]) (fun z=>((H.set c2 (some (.map (seenM y11_c2)))).set g3 (some (.tok 1 z.l.length)))) (fun z=>Z137_j20 a0 s22_10 y11_c2 x19 ((Z137_l8 a0 a1 (Z137_n n) n8)) (Z137_n n) z=some r) ?_ ?_
      ·intro K20 hK20;refine seqR ?_;refine S Fv (S Ld ?_);refine sLen (f:=TArg.c) (s:=x19.FArgs) (TK rfl) rfl rfl rfl rfl fun hL62=>?_;refine S Mv ?_;refine nil ?_;refine block ?_;refine loopH (TA 2 (TA 4 (TA 10 (TA 20 (TA 21 (TA 22 (TA 27 (TA 28 KeepsT.nil)))))))) (fun(z:Nat×(Sl Bs)×Nat)=>[(3,.a (.d (Sl.d 1 strE (some g3) z.2.1))),(29,.a (.d (.int .i64 ((z.2.2:Nat):Int))))]) (fun z=>((H.set c2 (some (.map (seenM y11_c2)))).set g3 (some (.tok 1 z.2.1.l.length)))) (fun z=>z.1) (fun z=>Z137_l63 a0 s22_10 y11_c2 x19 ((Z137_l8 a0 a1 (Z137_n n) n8)) (Z137_n n) z.1 z.2.1 z.2.2=some r) ((x19.FArgs.l.length+1),s3_9,0) hE Weak.toA ?_
       rintro ⟨n63,s3_64,s29_65⟩ hE K63 hK63;try dsimp only at hE
       cases n63 with
       | zero=>cases hE
       | succ n63 =>
         rw [Z137_l63] at hE;refine seqR ?_;refine S BI ?_;refine nil ?_;refine seqK fun K67 hK67=>?_;refine cE hE (fun hc68 hE=>?_) (fun hc68 hE=>?_)
         ·try dsimp only at hc68
          have hf68:=of_decide_eq_true hc68;refine sk hK67 ?_;clear hK67 K67;refine seqK fun K69 hK69=>?_;refine block ?_;refine seqR ?_;obtain⟨x71,gx71,hE⟩:=bO hE;refine s0 (idxMn (f:=TArg.c) (n:=s29_65) (TK rfl) rfl (TK rfl) rfl rfl rfl gx71) rfl ?_;refine S Ld ?_;refine Sl ?_;refine Sf ?_;refine nil ?_;refine freezeA 12 _ rfl (KA 2 (KA 3 (KA 4 (KA 10 (KA 20 (KA 21 (KA 22 (KA 27 (KA 28 (KA 29 Keeps.nil)))))))))) ?_
          refine region ?_;refine S Fv (S Ld (S Mv ?_));obtain⟨x72,gx72,hE⟩:=bO hE;refine sH (callH rfl rfl (Z136_walk gx72 _ hpG)) rfl ?_;refine hq ((H.set c2 (some (.map (seenM y11_c2)))).set g3 (some (.tok 1 x72.l.length))) ?_;refine S As ?_;refine nil ?_;refine hK69 _ ?_;clear hK69 K69;refine region ?_;refine SI ?_;refine S Mv ?_;refine nil ?_;exact hK63 _ (n63,x72,(s29_65+1)) Weak.toA hE (Nat.lt_succ_self _)
         refine AWp.exit ?_;exact hK20 _ s3_64 Weak.toA hE
      rintro s3_21 hE;try dsimp only at hE
      unfold Z137_j20 at hE;refine seqJH (TA 2 (TA 4 (TA 10 (TA 20 (TA 21 (TA 22 KeepsT.nil)))))) (fun(z:(Sl Bs))=>[(3,.a (.d (Sl.d 1 strE (some g3) z)))]) (fun z=>((H.set c2 (some (.map (seenM y11_c2)))).set g3 (some (.tok 1 z.l.length)))) (fun z=>Z137_j22 a0 s22_10 y11_c2 x19 ((Z137_l8 a0 a1 (Z137_n n) n8)) (Z137_n n) z=some r) ?_ ?_
      ·intro K22 hK22;refine seqR ?_;refine S Fv (S Ld ?_);refine sLen (f:=TDir.c) (s:=x19.FDirs) (TK rfl) rfl rfl rfl rfl fun hL38=>?_;refine S Mv ?_;refine nil ?_;refine block ?_;refine loopH (TA 2 (TA 4 (TA 10 (TA 20 (TA 21 (TA 22 (TA 39 (TA 40 KeepsT.nil)))))))) (fun(z:Nat×(Sl Bs)×Nat)=>[(3,.a (.d (Sl.d 1 strE (some g3) z.2.1))),(41,.a (.d (.int .i64 ((z.2.2:Nat):Int))))]) (fun z=>((H.set c2 (some (.map (seenM y11_c2)))).set g3 (some (.tok 1 z.2.1.l.length)))) (fun z=>z.1) (fun z=>Z137_l39 a0 s22_10 y11_c2 x19 ((Z137_l8 a0 a1 (Z137_n n) n8)) (Z137_n n) z.1 z.2.1 z.2.2=some r) ((x19.FDirs.l.length+1),s3_21,0) hE Weak.toA ?_
       rintro ⟨n39,s3_40,s41_41⟩ hE K39 hK39;try dsimp only at hE
       cases n39 with
       | zero=>cases hE
       | succ n39 =>
         rw [Z137_l39] at hE;refine seqR ?_;refine S BI ?_;refine nil ?_;refine seqK fun K43 hK43=>?_;refine cE hE (fun hc44 hE=>?_) (fun hc44 hE=>?_)
         ·try dsimp only at hc44
          have hf44:=of_decide_eq_true hc44;refine sk hK43 ?_;clear hK43 K43;refine seqJH (TA 2 (TA 4 (TA 10 (TA 20 (TA 21 (TA 22 (TA 39 (TA 40 (TA 41 KeepsT.nil))))))))) (fun(z:(Sl Bs))=>[(3,.a (.d (Sl.d 1 strE (some g3) z)))]) (fun z=>((H.set c2 (some (.map (seenM y11_c2)))).set g3 (some (.tok 1 z.l.length)))) (fun z=>Z137_j45 s41_41 ((Z137_l39 a0 s22_10 y11_c2 x19 ((Z137_l8 a0 a1 (Z137_n n) n8)) (Z137_n n) n39)) z=some r) ?_ ?_
          ·intro K45 hK45;refine block ?_;refine seqR ?_;obtain⟨x48,gx48,hE⟩:=bO hE;refine s0 (idxMn (f:=TDir.c) (n:=s41_41) (TK rfl) rfl (TK rfl) rfl rfl rfl gx48) rfl ?_;refine S Ld ?_;refine Sl ?_;refine Sf ?_;refine nil ?_;refine freezeA 14 _ rfl (KA 2 (KA 3 (KA 4 (KA 10 (KA 20 (KA 21 (KA 22 (KA 39 (KA 40 (KA 41 Keeps.nil)))))))))) ?_;refine seqR ?_;refine S Fv (S Ld ?_);refine sLen (f:=TArg.c) (s:=x48.FArgs) (TK rfl) rfl rfl rfl rfl fun hL50=>?_
           refine S Mv ?_;refine nil ?_;refine block ?_;refine loopH (TA 2 (TA 4 (TA 10 (TA 20 (TA 21 (TA 22 (TA 39 (TA 40 (TA 41 (TA 46 (TA 47 KeepsT.nil))))))))))) (fun(z:Nat×(Sl Bs)×Nat)=>[(3,.a (.d (Sl.d 1 strE (some g3) z.2.1))),(48,.a (.d (.int .i64 ((z.2.2:Nat):Int))))]) (fun z=>((H.set c2 (some (.map (seenM y11_c2)))).set g3 (some (.tok 1 z.2.1.l.length)))) (fun z=>z.1) (fun z=>Z137_l51 s41_41 x48 ((Z137_l39 a0 s22_10 y11_c2 x19 ((Z137_l8 a0 a1 (Z137_n n) n8)) (Z137_n n) n39)) z.1 z.2.1 z.2.2=some r) ((x48.FArgs.l.length+1),s3_40,0) hE Weak.toA ?_
           rintro ⟨n51,s3_52,s48_53⟩ hE K51 hK51;try dsimp only at hE
           cases n51 with
           | zero=>cases hE
           | succ n51 =>
             rw [Z137_l51] at hE;refine seqR ?_;refine S BI ?_;refine nil ?_;refine seqK fun K55 hK55=>?_;refine cE hE (fun hc56 hE=>?_) (fun hc56 hE=>?_)
             ·try dsimp only at hc56
              have hf56:=of_decide_eq_true hc56;refine sk hK55 ?_;clear hK55 K55;refine seqK fun K57 hK57=>?_;refine block ?_;refine seqR ?_;obtain⟨x59,gx59,hE⟩:=bO hE;refine s0 (idxMn (f:=TArg.c) (n:=s48_53) (TK rfl) rfl (TK rfl) rfl rfl rfl gx59) rfl ?_;refine S Ld ?_;refine Sl ?_;refine Sf ?_;refine nil ?_;refine freezeA 16 _ rfl (KA 2 (KA 3 (KA 4 (KA 10 (KA 20 (KA 21 (KA 22 (KA 39 (KA 40 (KA 41 (KA 46 (KA 47 (KA 48 Keeps.nil))))))))))))) ?_
              refine region ?_;refine S Fv (S Ld (S Mv ?_));obtain⟨x60,gx60,hE⟩:=bO hE;refine sH (callH rfl rfl (Z136_walk gx60 _ hpG)) rfl ?_;refine hq ((H.set c2 (some (.map (seenM y11_c2)))).set g3 (some (.tok 1 x60.l.length))) ?_;refine S As ?_;refine nil ?_;refine hK57 _ ?_;clear hK57 K57;refine region ?_;refine SI ?_;refine S Mv ?_;refine nil ?_;exact hK51 _ (n51,x60,(s48_53+1)) Weak.toA hE (Nat.lt_succ_self _)
             refine AWp.exit ?_;exact hK45 _ s3_52 Weak.toA hE
          rintro s3_46 hE;try dsimp only at hE
          unfold Z137_j45 at hE;refine region ?_;refine SI ?_;refine S Mv ?_;refine nil ?_;exact hK39 _ (n39,s3_46,(s41_41+1)) Weak.toA hE (Nat.lt_succ_self _)
         refine AWp.exit ?_;exact hK22 _ s3_40 Weak.toA hE
      rintro s3_23 hE;try dsimp only at hE
      unfold Z137_j22 at hE;refine seqR ?_;refine S Fv ?_;refine s0 (loadV (TK rfl) rfl rfl (congrArg (fun x=>some (A.d x)) (TSel.FSelsD_eq _))) rfl ?_;refine S As ?_;refine nil ?_;refine seqJH (TA 2 (TA 3 (TA 4 (TA 20 (TA 21 (TA 22 KeepsT.nil)))))) (fun(z:(Sl TSel)×(List Bs))=>[(17,.a (.d (Sl.d 7 TSel.c none z.1)))]) (fun z=>((H.set c2 (some (.map (seenM z.2)))).set g3 (some (.tok 1 s3_23.l.length)))) (fun z=>Z137_j25 a0 s22_10 s3_23 ((Z137_l8 a0 a1 (Z137_n n) n8)) (Z137_n n) z.1 z.2=some r) ?_ ?_
      ·intro K25 hK25;refine seqR ?_;refine S Fv (S Ld (S BI ?_));refine nil ?_;refine cE hE (fun hc30 hE=>?_) (fun hc30 hE=>?_)
       ·refine seqR ?_;refine S Ld (S Fv (S Ld ?_));obtain⟨x32,gx32,hE⟩:=bO hE;refine Sc rfl rfl (Z9_walk gx32) ?_;refine S Mv (S EX (S EX ?_));refine Sl ?_;refine Sf ?_;refine S As ?_;refine nil ?_;refine freezeA 18 _ rfl (KA 2 (KA 3 (KA 4 (KA 10 (KA 19 (KA 20 (KA 21 (KA 22 Keeps.nil)))))))) ?_;refine seqK fun K33 hK33=>?_;refine seqR ?_;refine S Mv (S NB (S Mv (g0 Mv (g0 Fv ?_))));refine g1 74 rfl Ld ?_
        refine gC rfl rfl (fun hC=>ungdA (k:=73) rfl (ungdA (k:=75) rfl (lookupSeen (TK rfl) rfl (TK rfl) (TK rfl) rfl rfl rfl rfl hpG))) rfl ?_;refine S PO ?_;refine nil ?_;refine cE hE (fun hc35 hE=>?_) (fun hc35 hE=>?_)
        ·refine AWp.exit ?_;exact hK15 _ (s3_23,y11_c2) Weak.toA hE
        refine sk hK33 ?_;clear hK33 K33;refine seqR ?_;refine S Mv (S Fv (S Ld ?_));refine sHn (mapUpdate (TK rfl) rfl (TK rfl) rfl rfl rfl rfl hpG (seen_upd _ _) rfl) rfl rfl ?_;refine hq ((H.set c2 (some (.map (seenM (insS y11_c2 x19.FName))))).set g3 (some (.tok 1 s3_23.l.length))) ?_;refine nil ?_;refine region ?_;refine S Fv (S Ld (S As ?_));refine nil ?_;exact hK25 _ (x32.1.FSels,(insS y11_c2 x19.FName)) Weak.toA hE
       refine AWp.skip ?_;exact hK25 _ (x19.FSels,y11_c2) Weak.toA hE
      rintro ⟨s17_26,y27_c2⟩ hE;try dsimp only at hE
      unfold Z137_j25 at hE;refine region ?_;refine S Ld (S Mv (S Mv (S Mv ?_)));obtain⟨x28,gx28,hE⟩:=bO hE;refine sH (callH rfl rfl (ih_23 gx28 _ hpG hpG)) rfl ?_;refine hq ((H.set c2 (some (.map (seenM x28.2)))).set g3 (some (.tok 1 x28.1.l.length))) ?_;refine S As ?_;refine nil ?_;exact hK15 _ (x28.1,x28.2) Weak.toA hE
     rintro ⟨s3_16,y17_c2⟩ hE;try dsimp only at hE
     unfold Z137_j15 at hE;refine region ?_;refine SI ?_;refine S Mv ?_;refine nil ?_;exact hK8 _ (n8,s3_16,(s22_10+1),y17_c2) Weak.toA hE (Nat.lt_succ_self _)
    refine AWp.exit ?_;exact hK2 _ (s3_9,y11_c2) Weak.toA hE
 rintro ⟨s3_3,y4_c2⟩ hE;try dsimp only at hE
 unfold Z137_j2 at hE;refine seqR ?_;refine S Mv (S As ?_);refine nil ?_;exact rt hE
theorem Z137_all:∀(n:Nat),(∀{a0:TQuery}{a1:Sl TSel}{a2:List Bs}{a3:Sl Bs}{w1:Option Nat}{c2 g3:Nat}{r:((Sl Bs)×(List Bs))},Z137_n n a0 a1 a2 a3=some r->∀(H:Heap) (hc2:H c2=some (.map (seenM a2))) (hg3:H g3=some (.tok 1 a3.l.length)),ACalls Tryz.prog 23 [.agg (TQuery.c a0),.d (Sl.d 7 TSel.c w1 a1),.d (.map c2),.d (Sl.d 1 strE (some g3) a3)] H fun v h'=>v=.a (.d (Sl.d 1 strE (some g3) r.1))/\h'=((H.set c2 (some (.map (seenM r.2)))).set g3 (some (.tok 1 r.1.l.length))))
 | 0=>fun hE=>by first|cases hE|(rw [Z137_n] at hE; cases hE)
 | n+1=>Z137_step n (Z137_all n)
def Z137 (a0:TQuery) (a1:(Sl TSel)) (a2:(List Bs)) (a3:(Sl Bs)):Option ((Sl Bs)×(List Bs)):=Z137_n F0 a0 a1 a2 a3
theorem Z137_walk {a0:TQuery}{a1:Sl TSel}{a2:List Bs}{a3:Sl Bs}{w1:Option Nat}{c2 g3:Nat}{r:((Sl Bs)×(List Bs))}(hE:Z137 a0 a1 a2 a3=some r) (H:Heap) (hc2:H c2=some (.map (seenM a2))) (hg3:H g3=some (.tok 1 a3.l.length)):ACalls Tryz.prog 23 [.agg (TQuery.c a0),.d (Sl.d 7 TSel.c w1 a1),.d (.map c2),.d (Sl.d 1 strE (some g3) a3)] H fun v h'=>v=.a (.d (Sl.d 1 strE (some g3) r.1))/\h'=((H.set c2 (some (.map (seenM r.2)))).set g3 (some (.tok 1 r.1.l.length))):=(Z137_all F0) hE H hc2 hg3
def Z108_j2  :Option Int:=some (-1:Int)
def Z108_l6 (a0:(Sl Bs)) (a1:Bs) :Nat->Nat->Option Int
 | 0,_=>none
 | n6+1,s8_7=>bif (decide (((s8_7:Nat):Int)<((a0.l.length:Nat):Int))) then((a0.l[s8_7]?).bind fun x14=>bif ((a1==x14)) then(some ((s8_7:Nat):Int)) else((Z108_l6 a0 a1 n6) (s8_7+1))) else(Z108_j2   )
def Z108 (a0:(Sl Bs)) (a1:Bs):Option Int:=Z108_l6 a0 a1 (a0.l.length+1) 0
theorem Z108_walk {a0:Sl Bs}{a1:Bs}{w0:Option Nat}{r:Int}(hE:Z108 a0 a1=some r) (H:Heap) :ACalls Tryz.prog 57 [.d (Sl.d 1 strE w0 a0),.d (.str a1)] H fun v h'=>v=.a (.d (.int .i64 r))/\h'=H:=by
 unfold Z108 at hE;refine ACalls.oW 19 [.tmp 4] Tryz.call57 Tryz.func57 ?_;refine seqR ?_;refine S As ?_;refine nil ?_;refine seqJH KeepsT.nil (fun(z:Unit)=>[]) (fun z=>H) (fun z=>Z108_j2 =some r) ?_ ?_
 ·intro K2 hK2;refine seqR ?_;refine S Mv ?_;refine sLen (f:=strE) (s:=a0) (TK rfl) rfl rfl rfl rfl fun hL5=>?_;refine S Mv ?_;refine nil ?_;refine block ?_;refine loopH (TA 0 (TA 1 (TA 7 KeepsT.nil))) (fun(z:Nat×Nat)=>[(8,.a (.d (.int .i64 ((z.2:Nat):Int))))]) (fun z=>H) (fun z=>z.1) (fun z=>Z108_l6 a0 a1 z.1 z.2=some r) ((a0.l.length+1),0) hE Weak.toA ?_;rintro ⟨n6,s8_7⟩ hE K6 hK6;try dsimp only at hE
  cases n6 with
  | zero=>cases hE
  | succ n6 =>
    rw [Z108_l6] at hE;refine seqR ?_;refine S BI ?_;refine nil ?_;refine seqK fun K9 hK9=>?_;refine cE hE (fun hc10 hE=>?_) (fun hc10 hE=>?_)
    ·try dsimp only at hc10
     have hf10:=of_decide_eq_true hc10;refine sk hK9 ?_;clear hK9 K9;refine seqK fun K11 hK11=>?_;refine block ?_;refine seqR ?_;refine S Mv (S As ?_);refine nil ?_;refine seqR ?_;refine S Mv (S Mv (S Mv ?_));obtain⟨x14,gx14,hE⟩:=bO hE;refine s0 (idxMn (f:=strE) (n:=s8_7) (TK rfl) rfl (TK rfl) rfl rfl rfl gx14) rfl ?_;refine S Ld (S BS ?_);refine nil ?_;refine cE hE (fun hc15 hE=>?_) (fun hc15 hE=>?_)
     ·refine seqR ?_;refine S Mv (S As ?_);refine nil ?_;exact rt hE
     refine sk hK11 ?_;clear hK11 K11;refine region ?_;refine SI ?_;refine S Mv ?_;refine nil ?_;exact hK6 _ (n6,(s8_7+1)) Weak.toA hE (Nat.lt_succ_self _)
    refine AWp.exit ?_;exact hK2 _ () Weak.toA hE
 rintro _ hE;try dsimp only at hE
 unfold Z108_j2 at hE;refine seqR ?_;refine S As ?_;refine nil ?_;exact rt hE
def Z103 (a0:(Sl Bs)) (a1:Bs):Option Bool:=(Z108 a0 a1).bind fun x3=>some (decide ((0:Int)<=x3))
theorem Z103_walk {a0:Sl Bs}{a1:Bs}{w0:Option Nat}{r:Bool}(hE:Z103 a0 a1=some r) (H:Heap) :ACalls Tryz.prog 24 [.d (Sl.d 1 strE w0 a0),.d (.str a1)] H fun v h'=>v=.a (.d (.bool r))/\h'=H:=by
 unfold Z103 at hE;refine ACalls.oW 9 [.tmp 4] Tryz.call24 Tryz.func24 ?_;refine seqR ?_;refine S As ?_;refine nil ?_;refine seqR ?_;refine S Mv (S Mv ?_);obtain⟨x3,gx3,hE⟩:=bO hE;refine Sc rfl rfl (Z108_walk gx3) ?_;refine S BI (S As ?_);refine nil ?_;exact rt hE
def Z128_j7  (s5_8:(Sl Bs)):Option (Sl Bs):=some s5_8
def Z128_j21 (s27_17:Int) (k_next_15:(Sl Bs)->Int->Option (Sl Bs)) (s5_22:(Sl Bs)):Option (Sl Bs):=(addC s27_17 (1:Int)).bind fun x23=>k_next_15 s5_22 x23
def Z128_l15 (x14:((Sl Bs)×(List Bs))) :Nat->(Sl Bs)->Int->Option (Sl Bs)
 | 0,_,_=>none
 | n15+1,s5_16,s27_17=>bif (decide (s27_17<((x14.1.l.length:Nat):Int))) then((idxC x14.1.l s27_17).bind fun x25=>(Z103 s5_16 x25).bind fun x27=>bif (!x27) then((appC 16 s5_16 (⟨false,[x25]⟩:Sl Bs)).bind fun x29=>Z128_j21 s27_17 ((Z128_l15 x14 n15)) x29) else(Z128_j21 s27_17 ((Z128_l15 x14 n15)) s5_16)) else(Z128_j7   s5_16)
def Z128 (a0:TQuery) (a1:Int):Option (Sl Bs):=bif ((decide (a1<(0:Int)))||(decide (((a0.FOps.l.length:Nat):Int)<=a1))) then(some (Sl.nil:Sl Bs)) else((idxC a0.FOps.l a1).bind fun x13=>(Z137 a0 x13.FSels ([]:List Bs) (Sl.nil:Sl Bs)).bind fun x14=>Z128_l15 x14 F0 (Sl.nil:Sl Bs) (0:Int))
theorem Z128_walk {a0:TQuery}{a1:Int}{r:Sl Bs}(hE:Z128 a0 a1=some r) (H:Heap) :ACalls Tryz.prog 8 [.agg (TQuery.c a0),.d (.int .i64 a1)] H fun v h'=>v=.a (.d (Sl.d 1 strE none r))/\h'=H:=by
 unfold Z128 at hE;refine ACalls.oW 41 [.tmp 4] Tryz.call8 Tryz.func8 ?_;refine AWp.tok 1 fun tk1 htk1=>?_;refine seqR ?_;refine S BX ?_;refine s0 (assignNil (k':=1) rfl) rfl ?_;refine nil ?_;refine seqK fun K2 hK2=>?_;refine seqR ?_;refine S Mv (S BI (S Mv (g0 Mv (g0 Fv ?_))));refine g1 12 rfl Ld ?_;refine gC rfl rfl (fun hC=>ungdA (k:=13) rfl (lenM' (f:=TOp.c) (s:=a0.FOps) (TK rfl) rfl rfl rfl)) rfl ?_
 refine g2 11 14 rfl rfl BI ?_;refine S PO ?_;refine nil ?_;refine cE hE (fun hc4 hE=>?_) (fun hc4 hE=>?_)
 ·refine seqR ?_;refine s0 (assignNil (k':=1) rfl) rfl ?_;refine nil ?_;refine AWp.ret ?_;repeat (first|refine xBlock_ret ?_|refine xThen_ret ?_)
  obtain rfl:=Option.some.inj hE;refine retQ.retF H rfl ⟨rfl,rfl⟩ ?_
  first|exact Heap.sub_set htk1|(simp only [Heap.set_set]; exact Heap.sub_set htk1)
 refine sk hK2 ?_;clear hK2 K2;refine seqR ?_;refine S As ?_;refine nil ?_;refine AWp.nilTok 5 1 tk1 rfl hpG ?_;refine seqJH KeepsT.nil (fun(z:(Sl Bs))=>[(5,.a (.d (Sl.d 1 strE (some tk1) z)))]) (fun z=>(H.set tk1 (some (.tok 1 z.l.length)))) (fun z=>Z128_j7 z=some r) ?_ ?_
 ·intro K7 hK7;refine AWp.tok 0 fun id24_11 hid24_11=>?_;obtain⟨ne_id24_11_tk1,hid24_11⟩:=Heap.set_fresh hid24_11;refine AWp.tok 1 fun tk3_12 htk3_12=>?_;obtain⟨ne_tk3_12_id24_11,htk3_12⟩:=Heap.set_fresh htk3_12;obtain⟨ne_tk3_12_tk1,htk3_12⟩:=Heap.set_fresh htk3_12;refine AWp.seqD ?_;refine Sd Ld (Sd Fv (Sd Ld (Sd Mv ?_)));obtain⟨x13,gx13,hE⟩:=bO hE;refine DOps.s0 (idxM (f:=TOp.c) (TK rfl) rfl (TK rfl) rfl rfl rfl gx13) rfl ?_
  refine Sd Fv (Sd Ld ?_);refine DOps.sH (makeMapT (id:=id24_11) hpG) rfl ?_;refine DOps.Dh (((H.set tk1 (some (.tok 1 0))).set id24_11 (some (.map (seenM ([]:List Bs))))).set tk3_12 (some (.tok 1 0))) ?_;obtain⟨x14,gx14,hE⟩:=bO hE;refine DOps.sH (callH rfl rfl (ACalls.asArgs (.cons (.refl _) (.cons (.refl _) (.cons (.refl _) (.cons (AsArg.nil (k':=1) (t:=tk3_12) hpG) .nil)))) (Z137_walk gx14 _ hpG hpG))) rfl ?_
  refine DOps.Dh (((H.set tk1 (some (.tok 1 0))).set id24_11 (some (.map (seenM x14.2)))).set tk3_12 (some (.tok 1 x14.1.l.length))) ?_;refine DOps.s0 (lenM' (f:=strE) (s:=x14.1) (TK rfl) rfl rfl rfl) rfl ?_;refine Sd Mv ?_;refine DOps.nil (by decide +kernel) ?_;refine AWp.dropTok 25 rfl ?_;refine block ?_;refine loopH (TA 25 (TA 26 KeepsT.nil)) (fun(z:Nat×(Sl Bs)×Int)=>[(5,.a (.d (Sl.d 1 strE (some tk1) z.2.1))),(27,.a (.d (.int .i64 z.2.2)))]) (fun z=>(((H.set tk1 (some (.tok 1 z.2.1.l.length))).set id24_11 (some (.map (seenM x14.2)))).set tk3_12 (some (.tok 1 x14.1.l.length)))) (fun z=>z.1) (fun z=>Z128_l15 x14 z.1 z.2.1 z.2.2=some r) (F0,(Sl.nil:Sl Bs),(0:Int)) hE Weak.toA ?_
  rintro ⟨n15,s5_16,s27_17⟩ hE K15 hK15;try dsimp only at hE
  cases n15 with
  | zero=>cases hE
  | succ n15 =>
    rw [Z128_l15] at hE;refine seqR ?_;refine S BI ?_;refine nil ?_;refine seqK fun K19 hK19=>?_;refine cE hE (fun hc20 hE=>?_) (fun hc20 hE=>?_)
    ·refine sk hK19 ?_;clear hK19 K19;refine seqJH (TA 25 (TA 26 (TA 27 KeepsT.nil))) (fun(z:(Sl Bs))=>[(5,.a (.d (Sl.d 1 strE (some tk1) z)))]) (fun z=>(((H.set tk1 (some (.tok 1 z.l.length))).set id24_11 (some (.map (seenM x14.2)))).set tk3_12 (some (.tok 1 x14.1.l.length)))) (fun z=>Z128_j21 s27_17 ((Z128_l15 x14 n15)) z=some r) ?_ ?_
     ·intro K21 hK21;refine block ?_;refine seqR ?_;obtain⟨x25,gx25,hE⟩:=bO hE;refine s0 (idxM (f:=strE) (TK rfl) rfl (TK rfl) rfl rfl rfl gx25) rfl ?_;refine S Ld (S As ?_);refine nil ?_;refine seqR ?_;refine S Mv (S Mv ?_);obtain⟨x27,gx27,hE⟩:=bO hE;refine Sc rfl rfl (Z103_walk gx27) ?_;refine S NB ?_;refine nil ?_;refine cE hE (fun hc28 hE=>?_) (fun hc28 hE=>?_)
      ·refine region ?_;refine S Mv (S Mv (S BV ?_));obtain⟨x29,gx29,hE⟩:=bO hE;refine sH (appM (f:=strE) (TK rfl) rfl (TK rfl) (TK rfl) ⟨_,rfl⟩ rfl rfl (by decide) rfl rfl rfl rfl hpG rfl gx29) rfl ?_;refine hq (((H.set tk1 (some (.tok 1 x29.l.length))).set id24_11 (some (.map (seenM x14.2)))).set tk3_12 (some (.tok 1 x14.1.l.length))) ?_;refine S As ?_;refine nil ?_;exact hK21 _ x29 Weak.toA hE
      refine AWp.skip ?_;exact hK21 _ s5_16 Weak.toA hE
     rintro s5_22 hE;try dsimp only at hE
     unfold Z128_j21 at hE;refine region ?_;obtain⟨x23,gx23,hE⟩:=bO hE;refine s0 (addM rfl rfl gx23) rfl ?_;refine S Mv ?_;refine nil ?_;exact hK15 _ (n15,s5_22,x23) Weak.toA hE (Nat.lt_succ_self _)
    refine AWp.exit ?_;exact hK7 _ s5_16 (Weak.toFA (by(intro id_ o_ he_); (have e_id24_11:id_≠id24_11:=fun e_=>by rw [e_] at he_; simp [Heap.set,hid24_11,ne_id24_11_tk1] at he_); (have e_tk3_12:id_≠tk3_12:=fun e_=>by rw [e_] at he_; simp [Heap.set,htk3_12,ne_tk3_12_tk1] at he_); (rw [<- he_]); (simp only [Heap.set,if_neg e_id24_11,if_neg e_tk3_12]); (first|done|rfl))) hE
 rintro s5_8 hE;try dsimp only at hE
 unfold Z128_j7 at hE;refine seqR ?_;refine S Mv (S As ?_);refine nil ?_;refine AWp.dropTok 4 rfl ?_;refine AWp.ret ?_;repeat (first|refine xBlock_ret ?_|refine xThen_ret ?_)
 obtain rfl:=Option.some.inj hE;refine retQ.retF H rfl ⟨rfl,rfl⟩ ?_
 first|exact Heap.sub_set htk1|(simp only [Heap.set_set]; exact Heap.sub_set htk1)
end Go.Proofs

namespace Go.Proofs
open Go Go.Ab
open AOps Cert AWp Keeps KeepsT
variable {lou:Lou}
def Z106_j2  :Option Int:=some (-1:Int)
def Z106_l6 (a0:(Sl TVar)) (a1:(TVar->Option Bool)) :Nat->Nat->Option Int
 | 0,_=>none
 | n6+1,s8_7=>bif (decide (((s8_7:Nat):Int)<((a0.l.length:Nat):Int))) then((a0.l[s8_7]?).bind fun x14=>(a1 x14).bind fun x15=>bif x15 then(some ((s8_7:Nat):Int)) else((Z106_l6 a0 a1 n6) (s8_7+1))) else(Z106_j2   )
def Z106 (a0:(Sl TVar)) (a1:(TVar->Option Bool)):Option Int:=Z106_l6 a0 a1 (a0.l.length+1) 0
theorem Z106_walk {a0:Sl TVar}{a1:TVar->Option Bool}{w0:Option Nat}{cl1:List D}{k1:Nat}{r:Int}(hE:Z106 a0 a1=some r) (H:Heap) (hf1:∀x0 r,a1 x0=some r->∀H,ACalls Tryz.prog k1 ([.agg (TVar.c x0)]++cl1.map A.d) H fun v h'=>v=.a (.d (.bool r))/\h'=H):ACalls Tryz.prog 85 [.d (Sl.d 9 TVar.c w0 a0),.d (.func k1 cl1)] H fun v h'=>v=.a (.d (.int .i64 r))/\h'=H:=by
 unfold Z106 at hE;refine ACalls.oW 19 [.tmp 4] Tryz.call85 Tryz.func85 ?_;refine seqR ?_;refine S As ?_;refine nil ?_;refine seqJH KeepsT.nil (fun(z:Unit)=>[]) (fun z=>H) (fun z=>Z106_j2 =some r) ?_ ?_
 ·intro K2 hK2;refine seqR ?_;refine S Mv ?_;refine sLen (f:=TVar.c) (s:=a0) (TK rfl) rfl rfl rfl rfl fun hL5=>?_;refine S Mv ?_;refine nil ?_;refine block ?_;refine loopH (TA 0 (TA 1 (TA 7 KeepsT.nil))) (fun(z:Nat×Nat)=>[(8,.a (.d (.int .i64 ((z.2:Nat):Int))))]) (fun z=>H) (fun z=>z.1) (fun z=>Z106_l6 a0 a1 z.1 z.2=some r) ((a0.l.length+1),0) hE Weak.toA ?_;rintro ⟨n6,s8_7⟩ hE K6 hK6;try dsimp only at hE
  cases n6 with
  | zero=>cases hE
  | succ n6 =>
    rw [Z106_l6] at hE;refine seqR ?_;refine S BI ?_;refine nil ?_;refine seqK fun K9 hK9=>?_;refine cE hE (fun hc10 hE=>?_) (fun hc10 hE=>?_)
    ·try dsimp only at hc10
     have hf10:=of_decide_eq_true hc10;refine sk hK9 ?_;clear hK9 K9;refine seqK fun K11 hK11=>?_;refine block ?_;refine seqR ?_;refine S Mv (S As ?_);refine nil ?_;refine seqR ?_;refine S Mv (S Mv (S Mv ?_));obtain⟨x14,gx14,hE⟩:=bO hE;refine s0 (idxMn (f:=TVar.c) (n:=s8_7) (TK rfl) rfl (TK rfl) rfl rfl rfl gx14) rfl ?_;refine S Ld ?_;obtain⟨x15,gx15,hE⟩:=bO hE;refine s0 (callP rfl rfl (hf1 _ _ gx15)) rfl ?_
     refine nil ?_;refine cE hE (fun hc16 hE=>?_) (fun hc16 hE=>?_)
     ·refine seqR ?_;refine S Mv (S As ?_);refine nil ?_;exact rt hE
     refine sk hK11 ?_;clear hK11 K11;refine region ?_;refine SI ?_;refine S Mv ?_;refine nil ?_;exact hK6 _ (n6,(s8_7+1)) Weak.toA hE (Nat.lt_succ_self _)
    refine AWp.exit ?_;exact hK2 _ () Weak.toA hE
 rintro _ hE;try dsimp only at hE
 unfold Z106_j2 at hE;refine seqR ?_;refine S As ?_;refine nil ?_;exact rt hE
def Z101 (a0:(Sl TVar)) (a1:(TVar->Option Bool)):Option Bool:=(Z106 a0 a1).bind fun x3=>some (decide ((0:Int)<=x3))
theorem Z101_walk {a0:Sl TVar}{a1:TVar->Option Bool}{w0:Option Nat}{cl1:List D}{k1:Nat}{r:Bool}(hE:Z101 a0 a1=some r) (H:Heap) (hf1:∀x0 r,a1 x0=some r->∀H,ACalls Tryz.prog k1 ([.agg (TVar.c x0)]++cl1.map A.d) H fun v h'=>v=.a (.d (.bool r))/\h'=H):ACalls Tryz.prog 44 [.d (Sl.d 9 TVar.c w0 a0),.d (.func k1 cl1)] H fun v h'=>v=.a (.d (.bool r))/\h'=H:=by
 unfold Z101 at hE;refine ACalls.oW 9 [.tmp 4] Tryz.call44 Tryz.func44 ?_;refine seqR ?_;refine S As ?_;refine nil ?_;refine seqR ?_;refine S Mv (S Mv ?_);obtain⟨x3,gx3,hE⟩:=bO hE;refine s0 (callP rfl rfl (fun H=>Z106_walk gx3 H hf1)) rfl ?_;refine S BI (S As ?_);refine nil ?_;exact rt hE
def Z131 (a0:TVar) (a1:TVar):Option Bool:=some ((a0.FName==a1.FName))
theorem Z131_walk {a0 a1:TVar}{r:Bool}(hE:Z131 a0 a1=some r) (H:Heap) :ACalls Tryz.prog 45 [.agg (TVar.c a0),.d (.view (TVar.c a1))] H fun v h'=>v=.a (.d (.bool r))/\h'=H:=by
 unfold Z131 at hE;refine ACalls.oW 9 [.tmp 3] Tryz.call45 Tryz.func45 ?_;refine seqR ?_;refine S BX (S As ?_);refine nil ?_;refine seqR ?_;refine S Fv (S Ld (S Fv (S Ld (S BS (S As ?_)))));refine nil ?_;exact rt hE
def Z129 (a0:Vars_checker) (a1:Bool) (a2:Int) (a3:Bs):Option Vars_checker:=bif a1 then((appC 24 a0.Fout (⟨false,[(TFault.mk a2 a3)]⟩:Sl TFault)).bind fun x3=>some (Vars_checker.mk a0.Fd a0.Fvars x3)) else(some a0)
theorem Z129_walk {a0:Vars_checker}{a1:Bool}{a2:Int}{a3:Bs}{c0 c0_2:Nat}{r:Vars_checker}(hE:Z129 a0 a1 a2 a3=some r) (H:Heap) (hc0:H c0=some (.cells (Vars_checker.cg (some c0_2) a0))) (ht0_2:H c0_2=some (.tok 2 a0.Fout.l.length)):ACalls Tryz.prog 46 [.d (.ptr c0 0),.d (.bool a1),.d (.int .i64 a2),.d (.str a3)] H fun v h'=>v=.tup []/\h'=((H.set c0_2 (some (.tok 2 r.Fout.l.length))).set c0 (some (.cells (Vars_checker.cg (some c0_2) r)))):=by
 unfold Z129 at hE;refine ACalls.oW 21 [] Tryz.call46 Tryz.func46 ?_;have ne_c0_c0_2:c0≠c0_2:=fun e_=>by subst e_; simp_all
 refine AWp.heqA (h':=((H.set c0_2 (some (.tok 2 a0.Fout.l.length))).set c0 (some (.cells (Vars_checker.cg (some c0_2) a0))))) (by funext n_; simp only [Heap.set]; (repeat' split)<;>simp_all) ?_;refine seqR ?_;refine S Mv ?_;refine nil ?_;refine cE hE (fun hc2 hE=>?_) (fun hc2 hE=>?_)
 ·refine region ?_;refine S Mv (S Mv (S NP ?_));refine s0 (fieldP (TK rfl) rfl rfl (TK rfl) rfl rfl) rfl ?_;refine s0 (loadP (TK rfl) rfl rfl hpG rfl) rfl ?_;refine S Mv (S Mv (S BU (S BV ?_)));obtain⟨x3,gx3,hE⟩:=bO hE;refine sH (appM (f:=TFault.c) (TK rfl) rfl (TK rfl) (TK rfl) ⟨_,rfl⟩ rfl rfl (by decide) rfl rfl rfl rfl hpG rfl gx3) rfl ?_;refine hq ((H.set c0_2 (some (.tok 2 x3.l.length))).set c0 (some (.cells (Vars_checker.cg (some c0_2) a0)))) ?_
  refine S NP ?_;refine s0 (fieldP (TK rfl) rfl rfl (TK rfl) rfl rfl) rfl ?_;refine sHn (storeP1 (TK rfl) rfl rfl hpG rfl (by repeat (first|exact SetAt.zero|apply SetAt.succ))) rfl rfl ?_;refine hq ((H.set c0_2 (some (.tok 2 x3.l.length))).set c0 (some (.cells (Vars_checker.cg (some c0_2) (Vars_checker.mk a0.Fd a0.Fvars x3))))) ?_;refine nil ?_;repeat (first|refine xBlock_normal ?_|refine xThen_exit ?_|refine xBlock_exit ?_)
  obtain rfl:=Option.some.inj hE;refine retQ.normalF ((H.set c0_2 (some (.tok 2 x3.l.length))).set c0 (some (.cells (Vars_checker.cg (some c0_2) (Vars_checker.mk a0.Fd a0.Fvars x3))))) (xs:=[]) rfl ⟨rfl,rfl⟩ ?_;exact(fun _ _ h=>h)
 refine AWp.skip ?_;repeat (first|refine xBlock_normal ?_|refine xThen_exit ?_|refine xBlock_exit ?_)
 obtain rfl:=Option.some.inj hE;refine retQ.normalF ((H.set c0_2 (some (.tok 2 a0.Fout.l.length))).set c0 (some (.cells (Vars_checker.cg (some c0_2) a0)))) (xs:=[]) rfl ⟨rfl,rfl⟩ ?_;exact(fun _ _ h=>h)
def Z92_j2  (y3_l0:TDef):Option (TDef×Bool):=some ((TDef.mk (0:Int) ([]:Bs) (Sl.nil:Sl Bs) (Sl.nil:Sl TDir) (Sl.nil:Sl TField) (Sl.nil:Sl TMember) (Sl.nil:Sl TInput)),false)
def Z92_l7 (a0:TDoc) (a1:Bs) :Nat->Nat->TDef->Option (TDef×Bool)
 | 0,_,_=>none
 | n7+1,s11_8,y9_l0=>bif (decide (((s11_8:Nat):Int)<((a0.FDefs.l.length:Nat):Int))) then((a0.FDefs.l[s11_8]?).bind fun x15=>bif ((x15.FName==a1)) then(some (x15,true)) else((Z92_l7 a0 a1 n7) (s11_8+1) y9_l0)) else(Z92_j2   y9_l0)
def Z92 (a0:TDoc) (a1:Bs):Option (TDef×Bool):=Z92_l7 a0 a1 (a0.FDefs.l.length+1) 0 TDef.zero
theorem Z92_walk {a0:TDoc}{a1:Bs}{r:TDef×Bool}(hE:Z92 a0 a1=some r) (H:Heap) :ACalls Tryz.prog 47 [.agg (TDoc.c a0),.d (.str a1)] H fun v h'=>v=.tup [.agg (TDef.c r.1),.d (.bool r.2)]/\h'=H:=by
 unfold Z92 at hE;refine ACalls.oW 22 [.cell 4 82,.tmp 5] Tryz.call47 Tryz.func47 ?_;refine seqR ?_;refine S BX ?_;refine Sl ?_;refine S As ?_;refine nil ?_;refine seqJ (TA 4 KeepsT.nil) (fun(z:TDef)=>[]) (fun z=>[TDef.c z]) (fun z=>H) (fun z=>Z92_j2 z=some r) ?_ ?_
 ·intro K2 hK2;refine seqR ?_;refine S Fv (S Ld ?_);refine sLen (f:=TDef.c) (s:=a0.FDefs) (TK rfl) rfl rfl rfl rfl fun hL6=>?_;refine S Mv ?_;refine nil ?_;refine block ?_;refine loopO (TA 1 (TA 4 (TA 9 (TA 10 KeepsT.nil)))) (fun(z:Nat×Nat×TDef)=>[(11,.a (.d (.int .i64 ((z.2.1:Nat):Int))))]) (fun z=>[TDef.c z.2.2]) (fun z=>H) (fun z=>z.1) (fun z=>Z92_l7 a0 a1 z.1 z.2.1 z.2.2=some r) ((a0.FDefs.l.length+1),0,TDef.zero) hE Weak.toA ?_
  rintro ⟨n7,s11_8,y9_l0⟩ hE K7 hK7;try dsimp only at hE
  cases n7 with
  | zero=>cases hE
  | succ n7 =>
    rw [Z92_l7] at hE;refine seqR ?_;refine S BI ?_;refine nil ?_;refine seqK fun K11 hK11=>?_;refine cE hE (fun hc12 hE=>?_) (fun hc12 hE=>?_)
    ·try dsimp only at hc12
     have hf12:=of_decide_eq_true hc12;refine sk hK11 ?_;clear hK11 K11;refine seqK fun K13 hK13=>?_;refine block ?_;refine seqR ?_;obtain⟨x15,gx15,hE⟩:=bO hE;refine s0 (idxMn (f:=TDef.c) (n:=s11_8) (TK rfl) rfl (TK rfl) rfl rfl rfl gx15) rfl ?_;refine S Ld ?_;refine Sl ?_;refine Sf ?_;refine nil ?_;refine freezeA 7 _ rfl (KA 1 (KA 4 (KA 9 (KA 10 (KA 11 Keeps.nil))))) ?_;refine seqR ?_;refine S Fv (S Ld (S Mv (S BS ?_)))
     refine nil ?_;refine cE hE (fun hc17 hE=>?_) (fun hc17 hE=>?_)
     ·refine seqR ?_;refine S Ld ?_;refine Sf ?_;refine S As ?_;refine nil ?_;exact rt hE
     refine sk hK13 ?_;clear hK13 K13;refine region ?_;refine SI ?_;refine S Mv ?_;refine nil ?_;exact hK7 _ (n7,(s11_8+1),y9_l0) Weak.toA hE (Nat.lt_succ_self _)
    refine AWp.exit ?_;exact hK2 _ y9_l0 Weak.toA hE
 rintro y3_l0 hE;try dsimp only at hE
 unfold Z92_j2 at hE;refine seqR ?_;refine S BU ?_;refine Sf ?_;refine S As ?_;refine nil ?_;exact rt hE
def Z97 (a0:Bs):Option Bool:=some (((((a0==([73,110,116]:Bs)))||((a0==([83,116,114,105,110,103]:Bs))))||((a0==([66,111,111,108,101,97,110]:Bs))))||((a0==([73,68]:Bs))))
theorem Z97_walk {a0:Bs}{r:Bool}(hE:Z97 a0=some r) (H:Heap) :ACalls Tryz.prog 48 [.d (.str a0)] H fun v h'=>v=.a (.d (.bool r))/\h'=H:=by
 unfold Z97 at hE;refine ACalls.oW 17 [.tmp 2] Tryz.call48 Tryz.func48 ?_;refine seqR ?_;refine S As ?_;refine nil ?_;refine seqR ?_;refine S Mv (S BS (S Mv (g0 Mv ?_)));refine g1 6 rfl BS ?_;refine S PO (S Mv (g0 Mv ?_));refine g1 10 rfl BS ?_;refine S PO (S Mv (g0 Mv ?_));refine g1 14 rfl BS ?_;refine S PO (S As ?_);refine nil ?_;exact rt hE
def Z98 (a0:TDoc) (a1:Bs):Option Int:=(Z92 a0 a1).bind fun x3=>some x3.1.FKind
theorem Z98_walk {a0:TDoc}{a1:Bs}{r:Int}(hE:Z98 a0 a1=some r) (H:Heap) :ACalls Tryz.prog 87 [.agg (TDoc.c a0),.d (.str a1)] H fun v h'=>v=.a (.d (.int .i64 r))/\h'=H:=by
 unfold Z98 at hE;refine ACalls.oW 15 [.tmp 4] Tryz.call87 Tryz.func87 ?_;refine seqR ?_;refine S BX (S As ?_);refine nil ?_;refine seqR ?_;refine S Ld (S Mv ?_);obtain⟨x3,gx3,hE⟩:=bO hE;refine Sc rfl rfl (Z92_walk gx3) ?_;refine S Mv (S EX (S EX ?_));refine Sl ?_;refine Sf ?_;refine S As ?_;refine nil ?_;refine freezeA 5 _ rfl Keeps.nil ?_;refine seqR ?_;refine S Fv (S Ld (S As ?_));refine nil ?_
 exact rt hE
def Z95 (a0:TDoc) (a1:Bs):Option Bool:=(Z97 a1).bind fun x3=>guardO (!x3) (Z98 a0 a1) (0:Int) fun x4=>some (x3||(decide (x4=(4:Int))))
theorem Z95_walk {a0:TDoc}{a1:Bs}{r:Bool}(hE:Z95 a0 a1=some r) (H:Heap) :ACalls Tryz.prog 86 [.agg (TDoc.c a0),.d (.str a1)] H fun v h'=>v=.a (.d (.bool r))/\h'=H:=by
 unfold Z95 at hE;refine ACalls.oW 13 [.tmp 4] Tryz.call86 Tryz.func86 ?_;refine seqR ?_;refine S BX (S As ?_);refine nil ?_;refine seqR ?_;refine S Mv ?_;obtain⟨x3,gx3,hE⟩:=bO hE;refine Sc rfl rfl (Z97_walk gx3) ?_;refine S Mv (g0 Ld (g0 Mv ?_));obtain⟨x4,gx4,hE⟩:=gO hE;refine gc2 8 9 rfl rfl rfl rfl rfl rfl (fun hC=>Z98_walk (gx4 hC)) ?_;refine g1 10 rfl BI ?_;refine S PO (S As ?_);refine nil ?_
 exact rt hE
def Z94 (a0:TDoc) (a1:Bs):Option Bool:=(Z95 a0 a1).bind fun x3=>guardO (!x3) (Z98 a0 a1) (0:Int) fun x4=>some (x3||(decide (x4=(5:Int))))
theorem Z94_walk {a0:TDoc}{a1:Bs}{r:Bool}(hE:Z94 a0 a1=some r) (H:Heap) :ACalls Tryz.prog 49 [.agg (TDoc.c a0),.d (.str a1)] H fun v h'=>v=.a (.d (.bool r))/\h'=H:=by
 unfold Z94 at hE;refine ACalls.oW 14 [.tmp 4] Tryz.call49 Tryz.func49 ?_;refine seqR ?_;refine S BX (S As ?_);refine nil ?_;refine seqR ?_;refine S Ld (S Mv ?_);obtain⟨x3,gx3,hE⟩:=bO hE;refine Sc rfl rfl (Z95_walk gx3) ?_;refine S Mv (g0 Ld (g0 Mv ?_));obtain⟨x4,gx4,hE⟩:=gO hE;refine gc2 9 10 rfl rfl rfl rfl rfl rfl (fun hC=>Z98_walk (gx4 hC)) ?_;refine g1 11 rfl BI ?_;refine S PO (S As ?_);refine nil ?_
 exact rt hE
def Z100 (a0:(Sl Bs)):Option (Sl Bs):=bif a0.nl then(some (Sl.nil:Sl Bs)) else((appC 16 (⟨false,[]⟩:Sl Bs) a0).bind fun x7=>some x7)
theorem Z100_walk {a0:Sl Bs}{w0:Option Nat}{r:Sl Bs}(hE:Z100 a0=some r) (H:Heap) :ACalls Tryz.prog 134 [.d (Sl.d 1 strE w0 a0)] H fun v h'=>v=.a (.d (Sl.d 1 strE none r))/\h'=H:=by
 unfold Z100 at hE;refine ACalls.oW 8 [.tmp 2] Tryz.call134 Tryz.func134 ?_;refine seqR ?_;refine s0 (assignNil (k':=1) rfl) rfl ?_;refine nil ?_;refine seqK fun K2 hK2=>?_;refine seqR ?_;refine S Mv ?_;refine s0 (eqNil (TK rfl) rfl rfl) rfl ?_;refine nil ?_;refine cE hE (fun hc4 hE=>?_) (fun hc4 hE=>?_)
 ·refine seqR ?_;refine s0 (assignNil (k':=1) rfl) rfl ?_;refine nil ?_;exact rt hE
 refine sk hK2 ?_;clear hK2 K2;refine seqR ?_;refine s0 (buildSliceF (TK rfl) rfl (TK rfl) rfl rfl rfl rfl rfl rfl) rfl ?_;refine S Mv ?_;obtain⟨x7,gx7,hE⟩:=bO hE;refine s0 (appFM (f:=strE) (TK rfl) rfl (TK rfl) (TK rfl) ⟨_,rfl⟩ rfl rfl (by decide) rfl rfl rfl (by intro q h; cases h<;>decide) rfl rfl gx7) rfl ?_;refine S As ?_;refine nil ?_;exact rt hE
def Z125_j3  (s3_4:(Sl TValue)):Option (Sl TValue):=some s3_4
def Z125_l8 (a0:(Sl TValue)) (k_rec_113:TValue->Option TValue):Nat->(Sl TValue)->Nat->Option (Sl TValue)
 | 0,_,_=>none
 | n8+1,s3_9,s8_10=>bif (decide (((s8_10:Nat):Int)<((a0.l.length:Nat):Int))) then((a0.l[s8_10]?).bind fun x16=>(k_rec_113 x16).bind fun x17=>(appC 80 s3_9 (⟨false,[x17]⟩:Sl TValue)).bind fun x18=>(Z125_l8 a0 k_rec_113 n8) x18 (s8_10+1)) else(Z125_j3   s3_9)
mutual
def value_Copy_n:Nat->TValue->Option TValue
 | 0,_=>none
 | n+1,a0=>((Z125_n n) a0.FItems).bind fun x3=>(Z100 a0.FKeys).bind fun x5=>some (TValue.mk a0.FKind a0.FInt a0.FText x3.nl x3.l x5)
def Z125_n:Nat->(Sl TValue)->Option (Sl TValue)
 | 0,_=>none
 | n+1,a0=>Z125_l8 a0 (value_Copy_n n) (a0.l.length+1) (Sl.nil:Sl TValue) 0
end
theorem value_Copy_step (n:Nat) (ih_113:∀{a0 r:TValue},value_Copy_n n a0=some r->∀(H:Heap),ACalls Tryz.prog 113 [.agg (TValue.c a0)] H fun v h'=>v=.a (.agg (TValue.c r))/\h'=H) (ih_133:∀{a0:Sl TValue}{w0:Option Nat}{r:Sl TValue},Z125_n n a0=some r->∀(H:Heap),ACalls Tryz.prog 133 [.d (Sl.d 5 TValue.c w0 a0)] H fun v h'=>v=.a (.d (Sl.d 5 TValue.c none r))/\h'=H):∀{a0 r:TValue},value_Copy_n (n+1) a0=some r->∀(H:Heap),ACalls Tryz.prog 113 [.agg (TValue.c a0)] H fun v h'=>v=.a (.agg (TValue.c r))/\h'=H:=by
 intro a0   r hE H ;rw [value_Copy_n] at hE;refine ACalls.oW 12 [.cell 2 44] Tryz.call113 Tryz.func113 ?_;refine seqR ?_;refine sL (boxL rfl (by repeat (first|exact Snoc.nil|apply Snoc.cons))) rfl ?_;refine Sl ?_;refine nil ?_;refine seqR ?_;refine S FL ?_;refine AOps.relocal 0 (TValue.cu a0) rfl (fun j w cs hh hx=>by rw [<- TValue.cu_eq]; exact hx) ?_;refine S LL ?_;obtain⟨x3,gx3,hE⟩:=bO hE;refine Sc rfl rfl (ih_133 gx3) ?_
 refine S FL ?_;refine Sf ?_;refine AOps.relocal 0 (TValue.c (TValue.mk a0.FKind a0.FInt a0.FText x3.nl x3.l a0.FKeys)) rfl (fun j w cs hh hx=>by rw [TValue.cu_eq]; exact hx) ?_;refine nil ?_;refine seqR ?_;refine S FL (S LL ?_);obtain⟨x5,gx5,hE⟩:=bO hE;refine Sc rfl rfl (Z100_walk gx5) ?_;refine S FL ?_;refine AOps.relocal 0 (TValue.cu (TValue.mk a0.FKind a0.FInt a0.FText x3.nl x3.l a0.FKeys)) rfl (fun j w cs hh hx=>by rw [<- TValue.cu_eq]; exact hx) ?_
 refine Sf ?_;refine AOps.relocal 0 (TValue.c (TValue.mk a0.FKind a0.FInt a0.FText x3.nl x3.l x5)) rfl (fun j w cs hh hx=>by rw [TValue.cu_eq]; exact hx) ?_;refine nil ?_;refine seqR ?_;refine S LL ?_;refine Sf ?_;refine nil ?_;exact rt hE
theorem Z125_step (n:Nat) (ih_113:∀{a0 r:TValue},value_Copy_n n a0=some r->∀(H:Heap),ACalls Tryz.prog 113 [.agg (TValue.c a0)] H fun v h'=>v=.a (.agg (TValue.c r))/\h'=H) (ih_133:∀{a0:Sl TValue}{w0:Option Nat}{r:Sl TValue},Z125_n n a0=some r->∀(H:Heap),ACalls Tryz.prog 133 [.d (Sl.d 5 TValue.c w0 a0)] H fun v h'=>v=.a (.d (Sl.d 5 TValue.c none r))/\h'=H):∀{a0:Sl TValue}{w0:Option Nat}{r:Sl TValue},Z125_n (n+1) a0=some r->∀(H:Heap),ACalls Tryz.prog 133 [.d (Sl.d 5 TValue.c w0 a0)] H fun v h'=>v=.a (.d (Sl.d 5 TValue.c none r))/\h'=H:=by
 intro a0 w0  r hE H ;rw [Z125_n] at hE;refine ACalls.oW 19 [.tmp 2] Tryz.call133 Tryz.func133 ?_;refine AWp.tok 5 fun tk1 htk1=>?_;refine seqR ?_;refine s0 (assignNil (k':=5) rfl) rfl ?_;refine nil ?_;refine seqR ?_;refine S As ?_;refine nil ?_;refine AWp.nilTok 3 5 tk1 rfl hpG ?_;refine seqJH KeepsT.nil (fun(z:(Sl TValue))=>[(3,.a (.d (Sl.d 5 TValue.c (some tk1) z)))]) (fun z=>(H.set tk1 (some (.tok 5 z.l.length)))) (fun z=>Z125_j3 z=some r) ?_ ?_
 ·intro K3 hK3;refine seqR ?_;refine S Mv ?_;refine sLen (f:=TValue.c) (s:=a0) (TK rfl) rfl rfl rfl rfl fun hL7=>?_;refine S Mv ?_;refine nil ?_;refine block ?_;refine loopH (TA 6 (TA 7 KeepsT.nil)) (fun(z:Nat×(Sl TValue)×Nat)=>[(3,.a (.d (Sl.d 5 TValue.c (some tk1) z.2.1))),(8,.a (.d (.int .i64 ((z.2.2:Nat):Int))))]) (fun z=>(H.set tk1 (some (.tok 5 z.2.1.l.length)))) (fun z=>z.1) (fun z=>Z125_l8 a0 (value_Copy_n n) z.1 z.2.1 z.2.2=some r) ((a0.l.length+1),(Sl.nil:Sl TValue),0) hE Weak.toA ?_
  rintro ⟨n8,s3_9,s8_10⟩ hE K8 hK8;try dsimp only at hE
  cases n8 with
  | zero=>cases hE
  | succ n8 =>
    rw [Z125_l8] at hE;refine seqR ?_;refine S BI ?_;refine nil ?_;refine seqK fun K12 hK12=>?_;refine cE hE (fun hc13 hE=>?_) (fun hc13 hE=>?_)
    ·try dsimp only at hc13
     have hf13:=of_decide_eq_true hc13;refine sk hK12 ?_;clear hK12 K12;refine seqK fun K14 hK14=>?_;refine block ?_;refine seqR ?_;obtain⟨x16,gx16,hE⟩:=bO hE;refine s0 (idxMn (f:=TValue.c) (n:=s8_10) (TK rfl) rfl (TK rfl) rfl rfl rfl gx16) rfl ?_;refine S Ld ?_;refine Sl ?_;refine Sf ?_;refine nil ?_;refine freezeA 5 _ rfl (KA 3 (KA 6 (KA 7 (KA 8 Keeps.nil)))) ?_;refine region ?_;refine S Mv (S Ld ?_)
     obtain⟨x17,gx17,hE⟩:=bO hE;refine Sc rfl rfl (ih_113 gx17) ?_;refine S BV ?_;obtain⟨x18,gx18,hE⟩:=bO hE;refine sH (appM (f:=TValue.c) (TK rfl) rfl (TK rfl) (TK rfl) ⟨_,rfl⟩ rfl rfl (by decide) rfl rfl rfl rfl hpG rfl gx18) rfl ?_;refine hq (H.set tk1 (some (.tok 5 x18.l.length))) ?_;refine S As ?_;refine nil ?_;refine hK14 _ ?_;clear hK14 K14;refine region ?_;refine SI ?_;refine S Mv ?_;refine nil ?_
     exact hK8 _ (n8,x18,(s8_10+1)) Weak.toA hE (Nat.lt_succ_self _)
    refine AWp.exit ?_;exact hK3 _ s3_9 Weak.toA hE
 rintro s3_4 hE;try dsimp only at hE
 unfold Z125_j3 at hE;refine seqR ?_;refine S Mv (S As ?_);refine nil ?_;refine AWp.dropTok 2 rfl ?_;refine AWp.ret ?_;repeat (first|refine xBlock_ret ?_|refine xThen_ret ?_)
 obtain rfl:=Option.some.inj hE;refine retQ.retF H rfl ⟨rfl,rfl⟩ ?_
 first|exact Heap.sub_set htk1|(simp only [Heap.set_set]; exact Heap.sub_set htk1)
theorem value_Copy_all:∀(n:Nat),(∀{a0 r:TValue},value_Copy_n n a0=some r->∀(H:Heap),ACalls Tryz.prog 113 [.agg (TValue.c a0)] H fun v h'=>v=.a (.agg (TValue.c r))/\h'=H)/\(∀{a0:Sl TValue}{w0:Option Nat}{r:Sl TValue},Z125_n n a0=some r->∀(H:Heap),ACalls Tryz.prog 133 [.d (Sl.d 5 TValue.c w0 a0)] H fun v h'=>v=.a (.d (Sl.d 5 TValue.c none r))/\h'=H)
 | 0=>⟨fun hE=>by first|cases hE|(rw [value_Copy_n] at hE; cases hE),fun hE=>by first|cases hE|(rw [Z125_n] at hE; cases hE)⟩
 | n+1=>⟨value_Copy_step n (value_Copy_all n).1 (value_Copy_all n).2,Z125_step n (value_Copy_all n).1 (value_Copy_all n).2⟩
def value_Copy (a0:TValue):Option TValue:=value_Copy_n F0 a0
theorem value_Copy_walk {a0 r:TValue}(hE:value_Copy a0=some r) (H:Heap) :ACalls Tryz.prog 113 [.agg (TValue.c a0)] H fun v h'=>v=.a (.agg (TValue.c r))/\h'=H:=(value_Copy_all F0).1 hE H 
def Z123 (a0:TValue) (a1:Bs):Option (TValue×Bool):=(Z108 a0.FKeys a1).bind fun x3=>bif (((!decide (a0.FKind=(6:Int)))||(decide (x3<(0:Int))))||(decide (((a0.FItems.l.length:Nat):Int)<=x3))) then(some ((TValue.mk (0:Int) (0:Int) ([]:Bs) true ([]) (Sl.nil:Sl Bs)),false)) else((idxC a0.FItems.l x3).bind fun x9=>(value_Copy x9).bind fun x10=>some (x10,true))
theorem Z123_walk {a0:TValue}{a1:Bs}{r:TValue×Bool}(hE:Z123 a0 a1=some r) (H:Heap) :ACalls Tryz.prog 112 [.agg (TValue.c a0),.d (.str a1)] H fun v h'=>v=.tup [.agg (TValue.c r.1),.d (.bool r.2)]/\h'=H:=by
 unfold Z123 at hE;refine ACalls.oW 32 [.cell 4 44,.tmp 5] Tryz.call112 Tryz.func112 ?_;refine seqR ?_;refine S BX ?_;refine Sl ?_;refine S As ?_;refine nil ?_;refine seqR ?_;refine S Fv (S Ld (S Mv ?_));obtain⟨x3,gx3,hE⟩:=bO hE;refine Sc rfl rfl (Z108_walk gx3) ?_;refine S As ?_;refine nil ?_;refine seqK fun K4 hK4=>?_;refine seqR ?_;refine S Fv (S Ld (S BI (S Mv (g0 Mv ?_))));refine g1 15 rfl BI ?_
 refine S PO (S Mv (g0 Mv (g0 Fv ?_)));refine gC rfl rfl (fun hC=>ungdA (k:=20) rfl (loadV (TK rfl) rfl rfl (congrArg (fun x=>some (A.d x)) (TValue.FItemsD_eq _)))) rfl ?_;refine gC rfl rfl (fun hC=>ungdA (k:=21) rfl (lenM' (f:=TValue.c) (s:=a0.FItems) (TK rfl) rfl rfl rfl)) rfl ?_;refine g2 19 22 rfl rfl BI ?_;refine S PO ?_;refine nil ?_;refine cE hE (fun hc6 hE=>?_) (fun hc6 hE=>?_)
 ·refine seqR ?_;refine S BU ?_;refine Sf ?_;refine S As ?_;refine nil ?_;exact rt hE
 refine sk hK4 ?_;clear hK4 K4;refine seqR ?_;refine S Fv ?_;refine s0 (loadV (TK rfl) rfl rfl (congrArg (fun x=>some (A.d x)) (TValue.FItemsD_eq _))) rfl ?_;refine S Mv ?_;obtain⟨x9,gx9,hE⟩:=bO hE;refine s0 (idxM (f:=TValue.c) (TK rfl) rfl (TK rfl) rfl rfl rfl gx9) rfl ?_;refine S Ld ?_;obtain⟨x10,gx10,hE⟩:=bO hE;refine Sc rfl rfl (value_Copy_walk gx10) ?_;refine Sf ?_;refine S As ?_;refine nil ?_
 exact rt hE
def Z4 (a0:Coerce_coercer) (a1:TValue):Option Bool:=bif ((!decide (a1.FKind=(7:Int)))||(!a0.Fliteral)) then(some false) else((Z123 a0.Fvars a1.FText).bind fun x7=>some (!x7.2))
theorem Z4_walk {a0:Coerce_coercer}{a1:TValue}{c0:Nat}{r:Bool}(hE:Z4 a0 a1=some r) (H:Heap) (hc0:H c0=some (.cells (Coerce_coercer.c a0))):ACalls Tryz.prog 88 [.d (.ptr c0 0),.agg (TValue.c a1)] H fun v h'=>v=.a (.d (.bool r))/\h'=H:=by
 unfold Z4 at hE;refine ACalls.oW 29 [.tmp 4] Tryz.call88 Tryz.func88 ?_;refine seqR ?_;refine S BX (S As ?_);refine nil ?_;refine seqK fun K2 hK2=>?_;refine seqR ?_;refine S Fv (S Ld (S BI (S Mv (g0 Mv ?_))));refine g1 11 rfl NP ?_;refine gC rfl rfl (fun hC=>ungdA (k:=12) rfl (fieldP (TK rfl) rfl rfl (TK rfl) rfl rfl)) rfl ?_;refine gC rfl rfl (fun hC=>ungdA (k:=13) rfl (loadP (TK rfl) rfl rfl hpG rfl)) rfl ?_
 refine g1 14 rfl NB ?_;refine S PO ?_;refine nil ?_;refine cE hE (fun hc4 hE=>?_) (fun hc4 hE=>?_)
 ·refine seqR ?_;refine S As ?_;refine nil ?_;exact rt hE
 refine sk hK2 ?_;clear hK2 K2;refine AWp.seqD ?_;refine Sd Mv (Sd NP ?_);refine DOps.s0 (fieldP (TK rfl) rfl rfl (TK rfl) rfl rfl) rfl ?_;refine DOps.s0 (loadP (TK rfl) rfl rfl hpG rfl) rfl ?_;refine Sd Fv (Sd Ld ?_);obtain⟨x7,gx7,hE⟩:=bO hE;refine DOps.s0 (callP rfl rfl (fun H=>Z123_walk gx7 H)) rfl ?_;refine Sd Mv (Sd EX (Sd EX ?_));refine DOps.sB (TK rfl) rfl rfl ?_ (by repeat (first|exact Snoc.nil|apply Snoc.cons))
 refine DOps.sLn (storeLFA (TK rfl) rfl rfl rfl rfl rfl) ?_;refine Sd As ?_;refine DOps.nil (by decide +kernel) ?_;refine freezeA 5 _ rfl (KA 6 Keeps.nil) ?_;refine seqR ?_;refine S Mv (S NB (S As ?_));refine nil ?_;exact rt hE
def Z8 (a0:TValue) (a1:Int):Option (TValue×Int):=bif (!decide (a1=(0:Int))) then(some ((TValue.mk (0:Int) (0:Int) ([]:Bs) true ([]) (Sl.nil:Sl Bs)),a1)) else((value_Copy a0).bind fun x7=>some (x7,(0:Int)))
theorem Z8_walk {a0:TValue}{a1:Int}{r:TValue×Int}(hE:Z8 a0 a1=some r) (H:Heap) :ACalls Tryz.prog 89 [.agg (TValue.c a0),.d (.int .i64 a1)] H fun v h'=>v=.tup [.agg (TValue.c r.1),.d (.int .i64 r.2)]/\h'=H:=by
 unfold Z8 at hE;refine ACalls.oW 12 [.cell 4 44,.tmp 5] Tryz.call89 Tryz.func89 ?_;refine seqR ?_;refine S BX ?_;refine Sl ?_;refine S As ?_;refine nil ?_;refine seqK fun K2 hK2=>?_;refine seqR ?_;refine S Mv (S BI ?_);refine nil ?_;refine cE hE (fun hc4 hE=>?_) (fun hc4 hE=>?_)
 ·refine seqR ?_;refine S BU (S Mv ?_);refine Sf ?_;refine S As ?_;refine nil ?_;exact rt hE
 refine sk hK2 ?_;clear hK2 K2;refine seqR ?_;refine S Ld ?_;obtain⟨x7,gx7,hE⟩:=bO hE;refine Sc rfl rfl (value_Copy_walk gx7) ?_;refine Sf ?_;refine S As ?_;refine nil ?_;exact rt hE
end Go.Proofs
