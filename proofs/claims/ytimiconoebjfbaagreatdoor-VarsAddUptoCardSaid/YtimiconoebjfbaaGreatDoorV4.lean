import Derived.Test.YtimiconoebjfbaaGreatDoorV3
set_option maxRecDepth 100000
set_option maxHeartbeats 2000000
set_option linter.unusedVariables false
set_option linter.unusedSimpArgs false
namespace Go.Proofs
open Go Go.Ab
open AOps Cert AWp Keeps KeepsT
variable {lou:Lou}
def Z97_j3  (s2_4:(Sl Bs)) (s8_5:Bool):Option ((Sl Bs)×Bool):=some (s2_4,s8_5)
def Z97_j16 (s9_11:Nat) (k_next_8:(Sl Bs)->Bool->Nat->Option ((Sl Bs)×Bool)) (s2_17:(Sl Bs)) (s8_18:Bool):Option ((Sl Bs)×Bool):=k_next_8 s2_17 s8_18 (s9_11+1)
def Z97_j21 (a0:Z6) (s9_11:Nat) (k_next_8:(Sl Bs)->Bool->Nat->Option ((Sl Bs)×Bool)) (k_rec_83:Z6->(Sl TSel)->(Sl Bs)->Option ((Sl Bs)×Bool)) (s2_22:(Sl Bs)) (s8_23:Bool) (s10_24:(Sl TSel)):Option ((Sl Bs)×Bool):=(k_rec_83 a0 s10_24 s2_22).bind fun x26=>Z97_j16 s9_11 k_next_8 x26.1 (s8_23&&x26.2)
def Z97_j34 (a0:Z6) (s2_9:(Sl Bs)) (s9_11:Nat) (x33:(Z3×Bool)) (k_next_8:(Sl Bs)->Bool->Nat->Option ((Sl Bs)×Bool)) (k_rec_83:Z6->(Sl TSel)->(Sl Bs)->Option ((Sl Bs)×Bool)) (s8_35:Bool):Option ((Sl Bs)×Bool):=guardO (!(!x33.2)) (Z92 s2_9 x33.1.FName) false fun x38=>bif ((!x33.2)||x38) then(Z97_j16 s9_11 k_next_8 s2_9 s8_35) else((appC 16 s2_9 (⟨false,[x33.1.FName]⟩:Sl Bs)).bind fun x41=>Z97_j21 a0 s9_11 k_next_8 k_rec_83 x41 s8_35 x33.1.FSels)
def Z97_l8 (a0:Z6) (a1:(Sl TSel)) (k_rec_83:Z6->(Sl TSel)->(Sl Bs)->Option ((Sl Bs)×Bool)):Nat->(Sl Bs)->Bool->Nat->Option ((Sl Bs)×Bool)
 | 0,_,_,_=>none
 | n8+1,s2_9,s8_10,s9_11=>bif (decide (((s9_11:Nat):Int)<((a1.l.length:Nat):Int))) then((a1.l[s9_11]?).bind fun x20=>(a1.l[s9_11]?).bind fun x29=>bif (decide (x29.FKind=(2:Int))) then((a1.l[s9_11]?).bind fun x32=>(Z86 a0 x32.FName).bind fun x33=>bif (!x33.2) then(Z97_j34 a0 s2_9 s9_11 x33 ((Z97_l8 a0 a1 k_rec_83 n8)) k_rec_83 false) else(Z97_j34 a0 s2_9 s9_11 x33 ((Z97_l8 a0 a1 k_rec_83 n8)) k_rec_83 s8_10)) else(Z97_j21 a0 s9_11 ((Z97_l8 a0 a1 k_rec_83 n8)) k_rec_83 s2_9 s8_10 x20.FSels)) else(Z97_j3   s2_9 s8_10)
def Z97_n:Nat->Z6->(Sl TSel)->(Sl Bs)->Option ((Sl Bs)×Bool)
 | 0,_,_,_=>none
 | n+1,a0,a1,a2=>Z97_l8 a0 a1 (Z97_n n) (a1.l.length+1) a2 true 0
theorem Z97_step (n:Nat) (ih_83:∀{a0:Z6}{a1:Sl TSel}{a2:Sl Bs}{w1:Option Nat}{g2:Nat}{r:((Sl Bs)×Bool)},Z97_n n a0 a1 a2=some r->∀(H:Heap) (hg2:H g2=some (.tok 1 a2.l.length)),ACalls Tryz.prog 83 [.agg (Z6.c a0),.d (Sl.d 7 TSel.c w1 a1),.d (Sl.d 1 strE (some g2) a2)] H fun v h'=>v=.tup [.d (Sl.d 1 strE (some g2) r.1),.d (.bool r.2)]/\h'=(H.set g2 (some (.tok 1 r.1.l.length)))):∀{a0:Z6}{a1:Sl TSel}{a2:Sl Bs}{w1:Option Nat}{g2:Nat}{r:((Sl Bs)×Bool)},Z97_n (n+1) a0 a1 a2=some r->∀(H:Heap) (hg2:H g2=some (.tok 1 a2.l.length)),ACalls Tryz.prog 83 [.agg (Z6.c a0),.d (Sl.d 7 TSel.c w1 a1),.d (Sl.d 1 strE (some g2) a2)] H fun v h'=>v=.tup [.d (Sl.d 1 strE (some g2) r.1),.d (.bool r.2)]/\h'=(H.set g2 (some (.tok 1 r.1.l.length))):=by
 intro a0 a1 a2 w1 g2 r hE H hg2;rw [Z97_n] at hE;refine ACalls.oW 73 [.tmp 6,.tmp 7] Tryz.call83 Tryz.func83 ?_;refine AWp.heqA (h':=(H.set g2 (some (.tok 1 a2.l.length)))) (by funext n_; simp only [Heap.set]; (repeat' split)<;>simp_all) ?_;refine seqR (S BX (S As (S As (nil ?_))));refine seqR (S As (nil ?_));refine seqJH KeepsT.nil (fun(z:(Sl Bs)×Bool)=>[(2,.a (.d (Sl.d 1 strE (some g2) z.1))),(8,.a (.d (.bool z.2)))]) (fun z=>(H.set g2 (some (.tok 1 z.1.l.length)))) (fun z=>Z97_j3 z.1 z.2=some r) ?_ ?_
 ·intro K3 hK3;refine seqR (S As (nil ?_));refine block ?_;refine loopH (TA 1 (TA 3 KeepsT.nil)) (fun(z:Nat×(Sl Bs)×Bool×Nat)=>[(2,.a (.d (Sl.d 1 strE (some g2) z.2.1))),(8,.a (.d (.bool z.2.2.1))),(9,.a (.d (.int .i64 ((z.2.2.2:Nat):Int))))]) (fun z=>(H.set g2 (some (.tok 1 z.2.1.l.length)))) (fun z=>z.1) (fun z=>Z97_l8 a0 a1 (Z97_n n) z.1 z.2.1 z.2.2.1 z.2.2.2=some r) ((a1.l.length+1),a2,true,0) hE Weak.toA ?_
  rintro ⟨n8,s2_9,s8_10,s9_11⟩ hE K8 hK8;try dsimp only at hE
  cases n8 with
  | zero=>cases hE
  | succ n8 =>
    rw [Z97_l8] at hE;refine seqK fun K12 hK12=>?_;refine seqR (S Mv (S Mv ?_));refine sLen (f:=TSel.c) (s:=a1) (TK rfl) rfl rfl rfl rfl fun hL14=>?_;refine S BI (nil ?_);refine cE hE (fun hc15 hE=>?_) (fun hc15 hE=>?_)
    ·try dsimp only at hc15
     have hf15:=of_decide_eq_true hc15;refine sk hK12 ?_;clear hK12 K12;refine seqJH (TA 1 (TA 3 (TA 9 KeepsT.nil))) (fun(z:(Sl Bs)×Bool)=>[(2,.a (.d (Sl.d 1 strE (some g2) z.1))),(8,.a (.d (.bool z.2)))]) (fun z=>(H.set g2 (some (.tok 1 z.1.l.length)))) (fun z=>Z97_j16 s9_11 ((Z97_l8 a0 a1 (Z97_n n) n8)) z.1 z.2=some r) ?_ ?_
     ·intro K16 hK16;refine block ?_;refine seqR (S Mv (S Mv ?_));obtain⟨x20,gx20,hE⟩:=bO hE;refine S (ix TSel.c s9_11 gx20) (S Fv ?_);refine s0 (loadV (TK rfl) rfl rfl (congrArg (fun x=>some (A.d x)) (TSel.FSelsD_eq _))) rfl ?_;refine S As (nil ?_);refine seqJH (TA 1 (TA 3 (TA 9 KeepsT.nil))) (fun(z:(Sl Bs)×Bool×(Sl TSel))=>[(2,.a (.d (Sl.d 1 strE (some g2) z.1))),(8,.a (.d (.bool z.2.1))),(10,.a (.d (Sl.d 7 TSel.c none z.2.2)))]) (fun z=>(H.set g2 (some (.tok 1 z.1.l.length)))) (fun z=>Z97_j21 a0 s9_11 ((Z97_l8 a0 a1 (Z97_n n) n8)) (Z97_n n) z.1 z.2.1 z.2.2=some r) ?_ ?_
      ·intro K21 hK21;refine seqR (S Mv (S Mv ?_));obtain⟨x29,gx29,hE⟩:=bO hE;refine S (ix TSel.c s9_11 gx29) (S Fv (S Ld (S BI (nil ?_))));refine cE hE (fun hc30 hE=>?_) (fun hc30 hE=>?_)
       ·refine AWp.seqD (Sd Ld (Sd Mv (Sd Mv ?_)));obtain⟨x32,gx32,hE⟩:=bO hE;refine Sd (ix TSel.c s9_11 gx32) (Sd Fv (Sd Ld ?_));obtain⟨x33,gx33,hE⟩:=bO hE;refine Scd rfl rfl (Z86_walk gx33) ?_;refine Sd Mv (Sd EX (Sd EX ?_));refine DOps.sB (TK rfl) rfl rfl ?_ (by repeat (first|exact Snoc.nil|apply Snoc.cons));refine DOps.sLn (storeLFA (TK rfl) rfl rfl rfl rfl rfl) ?_;refine Sd As ?_;refine DOps.nil (by decide +kernel) ?_
        refine freezeA 11 _ rfl (KA 1 (KA 2 (KA 3 (KA 8 (KA 9 (KA 12 Keeps.nil)))))) ?_;refine seqJH (TA 1 (TA 2 (TA 3 (TA 9 (TA 11 (TA 12 KeepsT.nil)))))) (fun(z:Bool)=>[(8,.a (.d (.bool z)))]) (fun z=>(H.set g2 (some (.tok 1 s2_9.l.length)))) (fun z=>Z97_j34 a0 s2_9 s9_11 x33 ((Z97_l8 a0 a1 (Z97_n n) n8)) (Z97_n n) z=some r) ?_ ?_
        ·intro K34 hK34;refine seqR (S Mv (S NB (nil ?_)));refine cE hE (fun hc43 hE=>?_) (fun hc43 hE=>?_)
         ·refine region ?_;refine S As (nil ?_);exact hK34 _ false Weak.toA hE
         refine AWp.skip ?_;exact hK34 _ s8_10 Weak.toA hE
        rintro s8_35 hE;try dsimp only at hE
        unfold Z97_j34 at hE;refine seqK fun K36 hK36=>?_;refine seqR (S Mv (S NB (S Mv (G0 Mv (G0 Fv ?_)))));refine G1 48 rfl Ld ?_;obtain⟨x38,gx38,hE⟩:=gO hE;refine Gc2 47 49 rfl rfl rfl rfl rfl rfl (fun hC=>Z92_walk (gx38 hC)) ?_;refine S PO (nil ?_);refine cE hE (fun hc39 hE=>?_) (fun hc39 hE=>?_)
        ·refine AWp.exit ?_;exact hK16 _ (s2_9,s8_35) Weak.toA hE
        refine sk hK36 ?_;clear hK36 K36;refine seqR (S Mv (S Fv (S Ld (S BV ?_))));obtain⟨x41,gx41,hE⟩:=bO hE;refine SH (am strE (TK rfl) rfl (TK rfl) (TK rfl) gx41) ?_;refine hq (H.set g2 (some (.tok 1 x41.l.length))) ?_;refine S As (nil ?_);refine region ?_;refine S Fv (S Ld (S As (nil ?_)));exact hK21 _ (x41,s8_35,x33.1.FSels) Weak.toA hE
       refine AWp.skip ?_;exact hK21 _ (s2_9,s8_10,x20.FSels) Weak.toA hE
      rintro ⟨s2_22,s8_23,s10_24⟩ hE;try dsimp only at hE
      unfold Z97_j21 at hE;refine seqR (S Ld (S Mv (S Mv ?_)));obtain⟨x26,gx26,hE⟩:=bO hE;refine sH (callH rfl rfl (ih_83 gx26 _ hpG)) rfl ?_;refine hq (H.set g2 (some (.tok 1 x26.1.l.length))) ?_;refine S Mv (S EX (S EX (S As (S As (nil ?_)))));refine seqR (S Mv (S As (nil ?_)));refine region ?_;refine S Mv (S Mv (G0 Mv (S PA (S As (nil ?_)))));exact hK16 _ (x26.1,(s8_23&&x26.2)) Weak.toA hE
     rintro ⟨s2_17,s8_18⟩ hE;try dsimp only at hE
     unfold Z97_j16 at hE;refine region ?_;refine S Mv ?_;refine SI ?_;refine S As (nil ?_);exact hK8 _ (n8,s2_17,s8_18,(s9_11+1)) Weak.toA hE (Nat.lt_succ_self _)
    refine AWp.exit ?_;exact hK3 _ (s2_9,s8_10) Weak.toA hE
 rintro ⟨s2_4,s8_5⟩ hE;try dsimp only at hE
 unfold Z97_j3 at hE;refine seqR (S Mv (S Mv (S As (S As (nil ?_)))));exact rt hE
theorem Z97_all:∀(n:Nat),(∀{a0:Z6}{a1:Sl TSel}{a2:Sl Bs}{w1:Option Nat}{g2:Nat}{r:((Sl Bs)×Bool)},Z97_n n a0 a1 a2=some r->∀(H:Heap) (hg2:H g2=some (.tok 1 a2.l.length)),ACalls Tryz.prog 83 [.agg (Z6.c a0),.d (Sl.d 7 TSel.c w1 a1),.d (Sl.d 1 strE (some g2) a2)] H fun v h'=>v=.tup [.d (Sl.d 1 strE (some g2) r.1),.d (.bool r.2)]/\h'=(H.set g2 (some (.tok 1 r.1.l.length))))
 | 0=>fun hE=>by first|cases hE|(rw [Z97_n] at hE; cases hE)
 | n+1=>Z97_step n (Z97_all n)
def Z97 (a0:Z6) (a1:(Sl TSel)) (a2:(Sl Bs)):Option ((Sl Bs)×Bool):=Z97_n F0 a0 a1 a2
theorem Z97_walk {a0:Z6}{a1:Sl TSel}{a2:Sl Bs}{w1:Option Nat}{g2:Nat}{r:((Sl Bs)×Bool)}(hE:Z97 a0 a1 a2=some r) (H:Heap) (hg2:H g2=some (.tok 1 a2.l.length)):ACalls Tryz.prog 83 [.agg (Z6.c a0),.d (Sl.d 7 TSel.c w1 a1),.d (Sl.d 1 strE (some g2) a2)] H fun v h'=>v=.tup [.d (Sl.d 1 strE (some g2) r.1),.d (.bool r.2)]/\h'=(H.set g2 (some (.tok 1 r.1.l.length))):=(Z97_all F0) hE H hg2
def Z89 (a0:Z6) (a1:Z3):Option Bool:=(Z97 a0 a1.FSels (Sl.nil:Sl Bs)).bind fun x4=>(Z92 x4.1 a1.FName).bind fun x6=>some x6
theorem Z89_walk {a0:Z6}{a1:Z3}{r:Bool}(hE:Z89 a0 a1=some r) (H:Heap) :ACalls Tryz.prog 42 [.agg (Z6.c a0),.agg (Z3.c a1)] H fun v h'=>v=.a (.d (.bool r))/\h'=H:=by
 unfold Z89 at hE;refine ACalls.oW 18 [.tmp 4] Tryz.call42 Tryz.func42 ?_;refine seqR (S BX (S BX (S As (nil ?_))));refine AWp.tok 1 fun tk2_3 htk2_3=>?_;refine seqR (S Ld (S Fv (S Ld ?_)));obtain⟨x4,gx4,hE⟩:=bO hE;refine sH (callH rfl rfl (ACalls.asArgs (.cons (.refl _) (.cons (.refl _) (.cons (AsArg.nil (k':=1) (t:=tk2_3) hpG) .nil))) (Z97_walk gx4 _ hpG))) rfl ?_;refine hq (H.set tk2_3 (some (.tok 1 x4.1.l.length))) ?_
 refine S Mv (S EX (S EX (S As (S As (nil ?_)))));refine AWp.dropTok 5 rfl ?_;refine seqR (S Mv (S Fv (S Ld ?_)));obtain⟨x6,gx6,hE⟩:=bO hE;refine Sc rfl rfl (Z92_walk gx6) ?_;refine S As (nil ?_);refine AWp.ret ?_;repeat (first|refine xBlock_ret ?_|refine xThen_ret ?_)
 obtain rfl:=Option.some.inj hE;refine retQ.retF H rfl ⟨rfl,rfl⟩ ?_
 first|exact Heap.sub_set htk2_3|(simp only [Heap.set_set]; exact Heap.sub_set htk2_3)
def Z96_j2  :Option Bool:=some false
def Z96_l5 (a0:Z6) (a1:Bs) :Nat->Nat->Option Bool
 | 0,_=>none
 | n5+1,s5_6=>bif (decide (((s5_6:Nat):Int)<((a0.FOps.l.length:Nat):Int))) then((a0.FOps.l[s5_6]?).bind fun x14=>(Z97 a0 x14.FSels (Sl.nil:Sl Bs)).bind fun x15=>(Z92 x15.1 a1).bind fun x17=>bif x17 then(some true) else((Z96_l5 a0 a1 n5) (s5_6+1))) else(Z96_j2   )
def Z96 (a0:Z6) (a1:Bs):Option Bool:=Z96_l5 a0 a1 (a0.FOps.l.length+1) 0
theorem Z96_walk {a0:Z6}{a1:Bs}{r:Bool}(hE:Z96 a0 a1=some r) (H:Heap) :ACalls Tryz.prog 43 [.agg (Z6.c a0),.d (.str a1)] H fun v h'=>v=.a (.d (.bool r))/\h'=H:=by
 unfold Z96 at hE;refine ACalls.oW 29 [.tmp 4] Tryz.call43 Tryz.func43 ?_;refine seqR (S BX (S As (nil ?_)));refine seqJH KeepsT.nil (fun(z:Unit)=>[]) (fun z=>H) (fun z=>Z96_j2 =some r) ?_ ?_
 ·intro K2 hK2;refine seqR (S As (nil ?_));refine block ?_;refine loopH (TA 1 (TA 2 KeepsT.nil)) (fun(z:Nat×Nat)=>[(5,.a (.d (.int .i64 ((z.2:Nat):Int))))]) (fun z=>H) (fun z=>z.1) (fun z=>Z96_l5 a0 a1 z.1 z.2=some r) ((a0.FOps.l.length+1),0) hE Weak.toA ?_;rintro ⟨n5,s5_6⟩ hE K5 hK5;try dsimp only at hE
  cases n5 with
  | zero=>cases hE
  | succ n5 =>
    rw [Z96_l5] at hE;refine seqK fun K7 hK7=>?_;refine seqR (S Mv (S Fv (S Ld ?_)));refine sLen (f:=TOp.c) (s:=a0.FOps) (TK rfl) rfl rfl rfl rfl fun hL9=>?_;refine S BI (nil ?_);refine cE hE (fun hc10 hE=>?_) (fun hc10 hE=>?_)
    ·try dsimp only at hc10
     have hf10:=of_decide_eq_true hc10;refine sk hK7 ?_;clear hK7 K7;refine seqK fun K11 hK11=>?_;refine block ?_;refine AWp.tok 1 fun tk2_13 htk2_13=>?_;refine AWp.seqD (Sd Ld (Sd Fv (Sd Ld (Sd Mv ?_))));obtain⟨x14,gx14,hE⟩:=bO hE;refine Sd (ix TOp.c s5_6 gx14) (Sd Fv (Sd Ld ?_));obtain⟨x15,gx15,hE⟩:=bO hE;refine DOps.sH (callH rfl rfl (ACalls.asArgs (.cons (.refl _) (.cons (.refl _) (.cons (AsArg.nil (k':=1) (t:=tk2_13) hpG) .nil))) (Z97_walk gx15 _ hpG))) rfl ?_
     refine DOps.Dh (H.set tk2_13 (some (.tok 1 x15.1.l.length))) ?_;refine Sd Mv (Sd EX (Sd EX (Sd As (Sd As ?_))));refine DOps.nil (by decide +kernel) ?_;refine AWp.dropTok 6 rfl ?_;refine seqR (S Mv (S Mv ?_));obtain⟨x17,gx17,hE⟩:=bO hE;refine Sc rfl rfl (Z92_walk gx17) ?_;refine nil ?_;refine cE hE (fun hc18 hE=>?_) (fun hc18 hE=>?_)
     ·refine seqR (S As (nil ?_));refine AWp.ret ?_;repeat (first|refine xBlock_ret ?_|refine xThen_ret ?_)
      obtain rfl:=Option.some.inj hE;refine retQ.retF H rfl ⟨rfl,rfl⟩ ?_
      first|exact Heap.sub_set htk2_13|(simp only [Heap.set_set]; exact Heap.sub_set htk2_13)
     refine sk hK11 ?_;clear hK11 K11;refine region ?_;refine S Mv ?_;refine SI ?_;refine S As (nil ?_);exact hK5 _ (n5,(s5_6+1)) (Weak.toFA (by(intro id_ o_ he_); (have e_tk2_13:id_≠tk2_13:=fun e_=>by rw [e_] at he_; simp [Heap.set,htk2_13] at he_); (rw [<- he_]); (simp only [Heap.set,if_neg e_tk2_13]); (first|done|rfl))) hE (Nat.lt_succ_self _)
    refine AWp.exit ?_;exact hK2 _ () Weak.toA hE
 rintro _ hE;try dsimp only at hE
 unfold Z96_j2 at hE;refine seqR (S As (nil ?_));exact rt hE
def Z85_j5  (s5_6:(Sl Z1)):Option (Sl Z1):=some s5_6
def Z85_j16 (s7_11:Nat) (k_next_9:(Sl Z1)->Nat->Option (Sl Z1)) (s5_17:(Sl Z1)):Option (Sl Z1):=k_next_9 s5_17 (s7_11+1)
def Z85_j24 (a0:TDoc) (a1:Z6) (s7_11:Nat) (x19:Z3) (k_next_9:(Sl Z1)->Nat->Option (Sl Z1)) (s5_25:(Sl Z1)):Option (Sl Z1):=(Z94 a0 x19.FOn).bind fun x26=>(Z95 a0 a1 x19.FSels x26 x19.FName).bind fun x27=>(appC 24 s5_25 x27).bind fun x28=>Z85_j16 s7_11 k_next_9 x28
def Z85_j22 (a0:TDoc) (a1:Z6) (s7_11:Nat) (x19:Z3) (k_next_9:(Sl Z1)->Nat->Option (Sl Z1)) (s5_23:(Sl Z1)):Option (Sl Z1):=(Z96 a1 x19.FName).bind fun x30=>bif (!x30) then((appC 24 s5_23 (⟨false,[(Z1.mk (26:Int) x19.FName)]⟩:Sl Z1)).bind fun x32=>Z85_j24 a0 a1 s7_11 x19 k_next_9 x32) else(Z85_j24 a0 a1 s7_11 x19 k_next_9 s5_23)
def Z85_j20 (a0:TDoc) (a1:Z6) (s7_11:Nat) (x19:Z3) (k_next_9:(Sl Z1)->Nat->Option (Sl Z1)) (s5_21:(Sl Z1)):Option (Sl Z1):=(Z89 a1 x19).bind fun x34=>bif x34 then((appC 24 s5_21 (⟨false,[(Z1.mk (24:Int) x19.FName)]⟩:Sl Z1)).bind fun x36=>Z85_j22 a0 a1 s7_11 x19 k_next_9 x36) else(Z85_j22 a0 a1 s7_11 x19 k_next_9 s5_21)
def Z85_l9 (a0:TDoc) (a1:Z6) :Nat->(Sl Z1)->Nat->Option (Sl Z1)
 | 0,_,_=>none
 | n9+1,s5_10,s7_11=>bif (decide (((s7_11:Nat):Int)<((a1.FFrags.l.length:Nat):Int))) then((a1.FFrags.l[s7_11]?).bind fun x19=>(Z94 a0 x19.FOn).bind fun x38=>bif ((x38==([]:Bs))) then((appC 24 s5_10 (⟨false,[(Z1.mk (24:Int) x19.FName)]⟩:Sl Z1)).bind fun x40=>Z85_j20 a0 a1 s7_11 x19 ((Z85_l9 a0 a1 n9)) x40) else(Z85_j20 a0 a1 s7_11 x19 ((Z85_l9 a0 a1 n9)) s5_10)) else(Z85_j5   s5_10)
def Z85_j3 (a0:TDoc) (a1:Z6)  (s5_4:(Sl Z1)):Option (Sl Z1):=Z85_l9 a0 a1 (a1.FFrags.l.length+1) s5_4 0
def Z85_l42 (a0:TDoc) (a1:Z6) :Nat->(Sl Z1)->Nat->Option (Sl Z1)
 | 0,_,_=>none
 | n42+1,s5_43,s6_44=>bif (decide (((s6_44:Nat):Int)<((a1.FOps.l.length:Nat):Int))) then((a1.FOps.l[s6_44]?).bind fun x50=>(a1.FOps.l[s6_44]?).bind fun x51=>(Z59 x51.FKind).bind fun x52=>(Z94 a0 x52).bind fun x53=>(a1.FOps.l[s6_44]?).bind fun x54=>(Z95 a0 a1 x50.FSels x53 x54.FName).bind fun x55=>(appC 24 s5_43 x55).bind fun x56=>(Z85_l42 a0 a1 n42) x56 (s6_44+1)) else(Z85_j3 a0 a1  s5_43)
def Z85 (a0:TDoc) (a1:Z6):Option (Sl Z1):=Z85_l42 a0 a1 (a1.FOps.l.length+1) (Sl.nil:Sl Z1) 0
theorem Z85_walk {a0:TDoc}{a1:Z6}{r:Sl Z1}(hE:Z85 a0 a1=some r) (H:Heap) :ACalls Tryz.prog 16 [.agg (TDoc.c a0),.agg (Z6.c a1)] H fun v h'=>v=.a (.d (Sl.d 2 Z1.c none r))/\h'=H:=by
 unfold Z85 at hE;refine ACalls.oW 99 [.tmp 4] Tryz.call16 Tryz.func16 ?_;refine AWp.tok 2 fun tk1 htk1=>?_;refine seqR (S BX (S BX ?_));refine s0 (assignNil (k':=2) rfl) rfl ?_;refine nil ?_;refine seqR (S As (nil ?_));refine AWp.nilTok 5 2 tk1 rfl hpG ?_;refine seqJH (TA 2 (TA 3 KeepsT.nil)) (fun(z:(Sl Z1))=>[(5,.a (.d (Sl.d 2 Z1.c (some tk1) z)))]) (fun z=>(H.set tk1 (some (.tok 2 z.l.length)))) (fun z=>Z85_j3 a0 a1 z=some r) ?_ ?_
 ·intro K3 hK3;refine seqR (S As (nil ?_));refine block ?_;refine loopH (TA 2 (TA 3 KeepsT.nil)) (fun(z:Nat×(Sl Z1)×Nat)=>[(5,.a (.d (Sl.d 2 Z1.c (some tk1) z.2.1))),(6,.a (.d (.int .i64 ((z.2.2:Nat):Int))))]) (fun z=>(H.set tk1 (some (.tok 2 z.2.1.l.length)))) (fun z=>z.1) (fun z=>Z85_l42 a0 a1 z.1 z.2.1 z.2.2=some r) ((a1.FOps.l.length+1),(Sl.nil:Sl Z1),0) hE Weak.toA ?_;rintro ⟨n42,s5_43,s6_44⟩ hE K42 hK42
  try dsimp only at hE
  cases n42 with
  | zero=>cases hE
  | succ n42 =>
    rw [Z85_l42] at hE;refine seqK fun K45 hK45=>?_;refine seqR (S Mv (S Fv (S Ld ?_)));refine sLen (f:=TOp.c) (s:=a1.FOps) (TK rfl) rfl rfl rfl rfl fun hL47=>?_;refine S BI (nil ?_);refine cE hE (fun hc48 hE=>?_) (fun hc48 hE=>?_)
    ·try dsimp only at hc48
     have hf48:=of_decide_eq_true hc48;refine sk hK45 ?_;clear hK45 K45;refine seqK fun K49 hK49=>?_;refine block ?_;refine AWp.draw rfl ?_;refine Sd Mv (Sd Ld (Sd Ld (Sd Fv (Sd Ld (Sd Mv ?_)))));obtain⟨x50,gx50,hE⟩:=bO hE;refine Sd (ix TOp.c s6_44 gx50) (Sd Fv (Sd Ld (Sd Ld (Sd Fv (Sd Ld (Sd Mv ?_))))));obtain⟨x51,gx51,hE⟩:=bO hE;refine Sd (ix TOp.c s6_44 gx51) (Sd Fv (Sd Ld ?_));obtain⟨x52,gx52,hE⟩:=bO hE
     refine Scd rfl rfl (Z59_walk gx52) ?_;obtain⟨x53,gx53,hE⟩:=bO hE;refine Scd rfl rfl (Z94_walk gx53) ?_;refine Sd Fv (Sd Ld (Sd Mv ?_));obtain⟨x54,gx54,hE⟩:=bO hE;refine Sd (ix TOp.c s6_44 gx54) (Sd Fv (Sd Ld ?_));obtain⟨x55,gx55,hE⟩:=bO hE;refine Scd rfl rfl (Z95_walk gx55) ?_;obtain⟨x56,gx56,hE⟩:=bO hE;refine DOps.sH (appM (f:=Z1.c) (TK rfl) rfl (TK rfl) (TK rfl) ⟨_,rfl⟩ rfl rfl (by decide) rfl rfl rfl rfl hpG rfl gx56) rfl ?_
     refine DOps.Dh (H.set tk1 (some (.tok 2 x56.l.length))) ?_;refine Sd As ?_;refine DOps.nil (by decide +kernel) ?_;refine hK49 _ ?_;clear hK49 K49;refine region ?_;refine S Mv ?_;refine SI ?_;refine S As (nil ?_);exact hK42 _ (n42,x56,(s6_44+1)) Weak.toA hE (Nat.lt_succ_self _)
    refine AWp.exit ?_;exact hK3 _ s5_43 Weak.toA hE
 rintro s5_4 hE;try dsimp only at hE
 unfold Z85_j3 at hE;refine seqJH KeepsT.nil (fun(z:(Sl Z1))=>[(5,.a (.d (Sl.d 2 Z1.c (some tk1) z)))]) (fun z=>(H.set tk1 (some (.tok 2 z.l.length)))) (fun z=>Z85_j5 z=some r) ?_ ?_
 ·intro K5 hK5;refine seqR (S As (nil ?_));refine block ?_;refine loopH (TA 2 (TA 3 KeepsT.nil)) (fun(z:Nat×(Sl Z1)×Nat)=>[(5,.a (.d (Sl.d 2 Z1.c (some tk1) z.2.1))),(7,.a (.d (.int .i64 ((z.2.2:Nat):Int))))]) (fun z=>(H.set tk1 (some (.tok 2 z.2.1.l.length)))) (fun z=>z.1) (fun z=>Z85_l9 a0 a1 z.1 z.2.1 z.2.2=some r) ((a1.FFrags.l.length+1),s5_4,0) hE Weak.toA ?_;rintro ⟨n9,s5_10,s7_11⟩ hE K9 hK9
  try dsimp only at hE
  cases n9 with
  | zero=>cases hE
  | succ n9 =>
    rw [Z85_l9] at hE;refine seqK fun K12 hK12=>?_;refine seqR (S Mv (S Fv (S Ld ?_)));refine sLen (f:=Z3.c) (s:=a1.FFrags) (TK rfl) rfl rfl rfl rfl fun hL14=>?_;refine S BI (nil ?_);refine cE hE (fun hc15 hE=>?_) (fun hc15 hE=>?_)
    ·try dsimp only at hc15
     have hf15:=of_decide_eq_true hc15;refine sk hK12 ?_;clear hK12 K12;refine seqJH (TA 2 (TA 3 (TA 7 KeepsT.nil))) (fun(z:(Sl Z1))=>[(5,.a (.d (Sl.d 2 Z1.c (some tk1) z)))]) (fun z=>(H.set tk1 (some (.tok 2 z.l.length)))) (fun z=>Z85_j16 s7_11 ((Z85_l9 a0 a1 n9)) z=some r) ?_ ?_
     ·intro K16 hK16;refine block ?_;refine seqR (S Fv (S Ld (S Mv ?_)));obtain⟨x19,gx19,hE⟩:=bO hE;refine S (ix Z3.c s7_11 gx19) (S Ld ?_);refine Sl ?_;refine Sf ?_;refine nil ?_;refine freezeA 8 _ rfl (KA 2 (KA 3 (KA 5 (KA 7 Keeps.nil)))) ?_;refine seqJH (TA 2 (TA 3 (TA 7 (TA 8 KeepsT.nil)))) (fun(z:(Sl Z1))=>[(5,.a (.d (Sl.d 2 Z1.c (some tk1) z)))]) (fun z=>(H.set tk1 (some (.tok 2 z.l.length)))) (fun z=>Z85_j20 a0 a1 s7_11 x19 ((Z85_l9 a0 a1 n9)) z=some r) ?_ ?_
      ·intro K20 hK20;refine seqR (S Ld (S Fv (S Ld ?_)));obtain⟨x38,gx38,hE⟩:=bO hE;refine Sc rfl rfl (Z94_walk gx38) ?_;refine S BS (nil ?_);refine cE hE (fun hc39 hE=>?_) (fun hc39 hE=>?_)
       ·refine region ?_;refine S Mv (S Fv (S Ld (S BU (S BV ?_))));obtain⟨x40,gx40,hE⟩:=bO hE;refine SH (am Z1.c (TK rfl) rfl (TK rfl) (TK rfl) gx40) ?_;refine hq (H.set tk1 (some (.tok 2 x40.l.length))) ?_;refine S As (nil ?_);exact hK20 _ x40 Weak.toA hE
       refine AWp.skip ?_;exact hK20 _ s5_10 Weak.toA hE
      rintro s5_21 hE;try dsimp only at hE
      unfold Z85_j20 at hE;refine seqJH (TA 2 (TA 3 (TA 7 (TA 8 KeepsT.nil)))) (fun(z:(Sl Z1))=>[(5,.a (.d (Sl.d 2 Z1.c (some tk1) z)))]) (fun z=>(H.set tk1 (some (.tok 2 z.l.length)))) (fun z=>Z85_j22 a0 a1 s7_11 x19 ((Z85_l9 a0 a1 n9)) z=some r) ?_ ?_
      ·intro K22 hK22;refine seqR (S Ld (S Ld ?_));obtain⟨x34,gx34,hE⟩:=bO hE;refine Sc rfl rfl (Z89_walk gx34) ?_;refine nil ?_;refine cE hE (fun hc35 hE=>?_) (fun hc35 hE=>?_)
       ·refine region ?_;refine S Mv (S Fv (S Ld (S BU (S BV ?_))));obtain⟨x36,gx36,hE⟩:=bO hE;refine SH (am Z1.c (TK rfl) rfl (TK rfl) (TK rfl) gx36) ?_;refine hq (H.set tk1 (some (.tok 2 x36.l.length))) ?_;refine S As (nil ?_);exact hK22 _ x36 Weak.toA hE
       refine AWp.skip ?_;exact hK22 _ s5_21 Weak.toA hE
      rintro s5_23 hE;try dsimp only at hE
      unfold Z85_j22 at hE;refine seqJH (TA 2 (TA 3 (TA 7 (TA 8 KeepsT.nil)))) (fun(z:(Sl Z1))=>[(5,.a (.d (Sl.d 2 Z1.c (some tk1) z)))]) (fun z=>(H.set tk1 (some (.tok 2 z.l.length)))) (fun z=>Z85_j24 a0 a1 s7_11 x19 ((Z85_l9 a0 a1 n9)) z=some r) ?_ ?_
      ·intro K24 hK24;refine seqR (S Ld (S Fv (S Ld ?_)));obtain⟨x30,gx30,hE⟩:=bO hE;refine Sc rfl rfl (Z96_walk gx30) ?_;refine S NB (nil ?_);refine cE hE (fun hc31 hE=>?_) (fun hc31 hE=>?_)
       ·refine region ?_;refine S Mv (S Fv (S Ld (S BU (S BV ?_))));obtain⟨x32,gx32,hE⟩:=bO hE;refine SH (am Z1.c (TK rfl) rfl (TK rfl) (TK rfl) gx32) ?_;refine hq (H.set tk1 (some (.tok 2 x32.l.length))) ?_;refine S As (nil ?_);exact hK24 _ x32 Weak.toA hE
       refine AWp.skip ?_;exact hK24 _ s5_23 Weak.toA hE
      rintro s5_25 hE;try dsimp only at hE
      unfold Z85_j24 at hE;refine AWp.draw rfl ?_;refine Sd Mv (Sd Ld (Sd Ld (Sd Fv (Sd Ld (Sd Ld (Sd Fv (Sd Ld ?_)))))));obtain⟨x26,gx26,hE⟩:=bO hE;refine Scd rfl rfl (Z94_walk gx26) ?_;refine Sd Fv (Sd Ld ?_);obtain⟨x27,gx27,hE⟩:=bO hE;refine Scd rfl rfl (Z95_walk gx27) ?_;obtain⟨x28,gx28,hE⟩:=bO hE;refine DOps.sH (appM (f:=Z1.c) (TK rfl) rfl (TK rfl) (TK rfl) ⟨_,rfl⟩ rfl rfl (by decide) rfl rfl rfl rfl hpG rfl gx28) rfl ?_
      refine DOps.Dh (H.set tk1 (some (.tok 2 x28.l.length))) ?_;refine Sd As ?_;refine DOps.nil (by decide +kernel) ?_;exact hK16 _ x28 Weak.toA hE
     rintro s5_17 hE;try dsimp only at hE
     unfold Z85_j16 at hE;refine region ?_;refine S Mv ?_;refine SI ?_;refine S As (nil ?_);exact hK9 _ (n9,s5_17,(s7_11+1)) Weak.toA hE (Nat.lt_succ_self _)
    refine AWp.exit ?_;exact hK5 _ s5_10 Weak.toA hE
 rintro s5_6 hE;try dsimp only at hE
 unfold Z85_j5 at hE;refine seqR (S Mv (S As (nil ?_)));refine AWp.dropTok 4 rfl ?_;refine AWp.ret ?_;repeat (first|refine xBlock_ret ?_|refine xThen_ret ?_)
 obtain rfl:=Option.some.inj hE;refine retQ.retF H rfl ⟨rfl,rfl⟩ ?_
 first|exact Heap.sub_set htk1|(simp only [Heap.set_set]; exact Heap.sub_set htk1)
def Z24 (a0:TDoc) (a1:Z6):Option Bool:=(Z57 a0).bind fun x3=>guardO ((!x3)) (Z87 a1) false fun x4=>guardO (((!x3)&&(!x4))) (Z43 a1) false fun x5=>guardO ((((!x3)&&(!x4))&&x5)) (Z50 a0 false) (Sl.nil:Sl Z1) fun x6=>guardO (((((!x3)&&(!x4))&&x5)&&(decide (((x6.l.length:Nat):Int)=(0:Int))))) (Z73 a0) (Sl.nil:Sl Z1) fun x7=>guardO ((((((!x3)&&(!x4))&&x5)&&(decide (((x6.l.length:Nat):Int)=(0:Int))))&&(decide (((x7.l.length:Nat):Int)=(0:Int))))) (Z85 a0 a1) (Sl.nil:Sl Z1) fun x8=>some ((((((!x3)&&(!x4))&&x5)&&(decide (((x6.l.length:Nat):Int)=(0:Int))))&&(decide (((x7.l.length:Nat):Int)=(0:Int))))&&(decide (((x8.l.length:Nat):Int)=(0:Int))))
theorem Z24_walk {a0:TDoc}{a1:Z6}{r:Bool}(hE:Z24 a0 a1=some r) (H:Heap) :ACalls Tryz.prog 5 [.agg (TDoc.c a0),.agg (Z6.c a1)] H fun v h'=>v=.a (.d (.bool r))/\h'=H:=by
 unfold Z24 at hE;refine ACalls.oW 36 [.tmp 4] Tryz.call5 Tryz.func5 ?_;refine seqR (S BX (S BX (S As (nil ?_))));refine seqR (S Ld ?_);obtain⟨x3,gx3,hE⟩:=bO hE;refine Sc rfl rfl (Z57_walk gx3) ?_;refine S NB (S Mv (G0 Ld ?_));obtain⟨x4,gx4,hE⟩:=gO hE;refine Gc1 9 rfl rfl rfl rfl rfl (fun hC=>Z87_walk (gx4 hC)) ?_;refine G1 10 rfl NB ?_;refine S PA (S Mv (G0 Ld ?_));obtain⟨x5,gx5,hE⟩:=gO hE;refine Gc1 14 rfl rfl rfl rfl rfl (fun hC=>Z43_walk (gx5 hC)) ?_
 refine S PA (S Mv (G0 Ld ?_));obtain⟨x6,gx6,hE⟩:=gO hE;refine Gc1 18 rfl rfl rfl rfl rfl (fun hC=>Z50_walk (gx6 hC)) ?_;refine gC rfl rfl (fun hC=>ungdA (k:=19) rfl (lenM' (f:=Z1.c) (s:=x6) (TK rfl) rfl rfl rfl)) rfl ?_;refine G1 20 rfl BI ?_;refine S PA (S Mv (G0 Ld ?_));obtain⟨x7,gx7,hE⟩:=gO hE;refine Gc1 24 rfl rfl rfl rfl rfl (fun hC=>Z73_walk (gx7 hC)) ?_;refine gC rfl rfl (fun hC=>ungdA (k:=25) rfl (lenM' (f:=Z1.c) (s:=x7) (TK rfl) rfl rfl rfl)) rfl ?_
 refine G1 26 rfl BI ?_;refine S PA (S Mv (G0 Ld (G0 Ld ?_)));obtain⟨x8,gx8,hE⟩:=gO hE;refine Gc2 30 31 rfl rfl rfl rfl rfl rfl (fun hC=>Z85_walk (gx8 hC)) ?_;refine gC rfl rfl (fun hC=>ungdA (k:=32) rfl (lenM' (f:=Z1.c) (s:=x8) (TK rfl) rfl rfl rfl)) rfl ?_;refine G1 33 rfl BI ?_;refine S PA (S As (nil ?_));exact rt hE
def Z18_j2  (y3_l0:Z3):Option (Z3×Bool):=some ((Z3.mk ([]:Bs) ([]:Bs) (Sl.nil:Sl TSel)),false)
def Z18_l7 (a0:Z6) (a1:Bs) :Nat->Nat->Z3->Option (Z3×Bool)
 | 0,_,_=>none
 | n7+1,s11_8,y9_l0=>bif (decide (((s11_8:Nat):Int)<((a0.FFrags.l.length:Nat):Int))) then((a0.FFrags.l[s11_8]?).bind fun x15=>bif ((x15.FName==a1)) then(some (x15,true)) else((Z18_l7 a0 a1 n7) (s11_8+1) y9_l0)) else(Z18_j2   y9_l0)
def Z18 (a0:Z6) (a1:Bs):Option (Z3×Bool):=Z18_l7 a0 a1 (a0.FFrags.l.length+1) 0 Z3.zero
theorem Z18_walk {a0:Z6}{a1:Bs}{r:Z3×Bool}(hE:Z18 a0 a1=some r) (H:Heap) :ACalls Tryz.prog 21 [.agg (Z6.c a0),.d (.str a1)] H fun v h'=>v=.tup [.agg (Z3.c r.1),.d (.bool r.2)]/\h'=H:=by
 unfold Z18 at hE;refine ACalls.oW 22 [.cell 4 65,.tmp 5] Tryz.call21 Tryz.func21 ?_;refine seqR (S BX ?_);refine Sl ?_;refine S As (nil ?_);refine seqJ (TA 4 KeepsT.nil) (fun(z:Z3)=>[]) (fun z=>[Z3.c z]) (fun z=>H) (fun z=>Z18_j2 z=some r) ?_ ?_
 ·intro K2 hK2;refine seqR (S Fv (S Ld ?_));refine sLen (f:=Z3.c) (s:=a0.FFrags) (TK rfl) rfl rfl rfl rfl fun hL6=>?_;refine S Mv (nil ?_);refine block ?_;refine loopO (TA 1 (TA 4 (TA 9 (TA 10 KeepsT.nil)))) (fun(z:Nat×Nat×Z3)=>[(11,.a (.d (.int .i64 ((z.2.1:Nat):Int))))]) (fun z=>[Z3.c z.2.2]) (fun z=>H) (fun z=>z.1) (fun z=>Z18_l7 a0 a1 z.1 z.2.1 z.2.2=some r) ((a0.FFrags.l.length+1),0,Z3.zero) hE Weak.toA ?_
  rintro ⟨n7,s11_8,y9_l0⟩ hE K7 hK7;try dsimp only at hE
  cases n7 with
  | zero=>cases hE
  | succ n7 =>
    rw [Z18_l7] at hE;refine seqR (S BI (nil ?_));refine seqK fun K11 hK11=>?_;refine cE hE (fun hc12 hE=>?_) (fun hc12 hE=>?_)
    ·try dsimp only at hc12
     have hf12:=of_decide_eq_true hc12;refine sk hK11 ?_;clear hK11 K11;refine seqK fun K13 hK13=>?_;refine block ?_;refine seqR ?_;obtain⟨x15,gx15,hE⟩:=bO hE;refine S (ix Z3.c s11_8 gx15) (S Ld ?_);refine Sl ?_;refine Sf ?_;refine nil ?_;refine freezeA 7 _ rfl (KA 1 (KA 4 (KA 9 (KA 10 (KA 11 Keeps.nil))))) ?_;refine seqR (S Fv (S Ld (S Mv (S BS (nil ?_)))));refine cE hE (fun hc17 hE=>?_) (fun hc17 hE=>?_)
     ·refine seqR (S Ld ?_);refine Sf ?_;refine S As (nil ?_);exact rt hE
     refine sk hK13 ?_;clear hK13 K13;refine region ?_;refine SI ?_;refine S Mv (nil ?_);exact hK7 _ (n7,(s11_8+1),y9_l0) Weak.toA hE (Nat.lt_succ_self _)
    refine AWp.exit ?_;exact hK2 _ y9_l0 Weak.toA hE
 rintro y3_l0 hE;try dsimp only at hE
 unfold Z18_j2 at hE;refine seqR (S BU ?_);refine Sf ?_;refine S As (nil ?_);exact rt hE
end Go.Proofs

namespace Go.Proofs
open Go Go.Ab
open AOps Cert AWp Keeps KeepsT
variable {lou:Lou}
def Z149_j2  (s1_3:(Sl Bs)):Option (Sl Bs):=some s1_3
def Z149_l15 (a0:Z7) (k_rec_56:Z7->(Sl Bs)->Option (Sl Bs)):Nat->(Sl Bs)->Nat->Option (Sl Bs)
 | 0,_,_=>none
 | n15+1,s1_16,s22_17=>bif (decide (((s22_17:Nat):Int)<((a0.FItems.l.length:Nat):Int))) then((a0.FItems.l[s22_17]?).bind fun x23=>(k_rec_56 x23 s1_16).bind fun x24=>(Z149_l15 a0 k_rec_56 n15) x24 (s22_17+1)) else(Z149_j2   s1_16)
def Z149_j10 (a0:Z7) (a1:(Sl Bs)) (k_rec_56:Z7->(Sl Bs)->Option (Sl Bs)) (s16_11:Bool):Option (Sl Bs):=bif s16_11 then(Z149_l15 a0 k_rec_56 (a0.FItems.l.length+1) a1 0) else(Z149_j2   a1)
def Z149_n:Nat->Z7->(Sl Bs)->Option (Sl Bs)
 | 0,_,_=>none
 | n+1,a0,a1=>bif (decide (a0.FKind=(7:Int))) then((appC 16 a1 (⟨false,[a0.FText]⟩:Sl Bs)).bind fun x9=>some x9) else(bif (decide (a0.FKind=(5:Int))) then(Z149_j10 a0 a1 (Z149_n n) (decide (a0.FKind=(5:Int)))) else(Z149_j10 a0 a1 (Z149_n n) (decide (a0.FKind=(6:Int)))))
theorem Z149_step (n:Nat) (ih_56:∀{a0:Z7}{a1:Sl Bs}{g1:Nat}{r:Sl Bs},Z149_n n a0 a1=some r->∀(H:Heap) (hg1:H g1=some (.tok 1 a1.l.length)),ACalls Tryz.prog 56 [.agg (Z7.c a0),.d (Sl.d 1 strE (some g1) a1)] H fun v h'=>v=.a (.d (Sl.d 1 strE (some g1) r))/\h'=(H.set g1 (some (.tok 1 r.l.length)))):∀{a0:Z7}{a1:Sl Bs}{g1:Nat}{r:Sl Bs},Z149_n (n+1) a0 a1=some r->∀(H:Heap) (hg1:H g1=some (.tok 1 a1.l.length)),ACalls Tryz.prog 56 [.agg (Z7.c a0),.d (Sl.d 1 strE (some g1) a1)] H fun v h'=>v=.a (.d (Sl.d 1 strE (some g1) r))/\h'=(H.set g1 (some (.tok 1 r.l.length))):=by
 intro a0 a1  g1 r hE H hg1;rw [Z149_n] at hE;refine ACalls.oW 31 [.tmp 4] Tryz.call56 Tryz.func56 ?_;refine AWp.heqA (h':=(H.set g1 (some (.tok 1 a1.l.length)))) (by funext n_; simp only [Heap.set]; (repeat' split)<;>simp_all) ?_;refine seqR (S BX (S As (nil ?_)));refine seqJH KeepsT.nil (fun(z:(Sl Bs))=>[(1,.a (.d (Sl.d 1 strE (some g1) z)))]) (fun z=>(H.set g1 (some (.tok 1 z.l.length)))) (fun z=>Z149_j2 z=some r) ?_ ?_
 ·intro K2 hK2;refine seqR (S Fv (S Ld (nil ?_)));refine block ?_;refine seqR (S BI (S As (nil ?_)));refine cE hE (fun hc7 hE=>?_) (fun hc7 hE=>?_)
  ·refine seqR (S Mv (S Fv (S Ld (S BV ?_))));obtain⟨x9,gx9,hE⟩:=bO hE;refine SH (am strE (TK rfl) rfl (TK rfl) (TK rfl) gx9) ?_;refine hq (H.set g1 (some (.tok 1 x9.l.length))) ?_;refine S As (nil ?_);exact rt hE
  refine seqJH (TA 1 (TA 2 KeepsT.nil)) (fun(z:Bool)=>[(16,.a (.d (.bool z)))]) (fun z=>(H.set g1 (some (.tok 1 a1.l.length)))) (fun z=>Z149_j10 a0 a1 (Z149_n n) z=some r) ?_ ?_
  ·intro K10 hK10;refine seqR (S BI (S As (nil ?_)));refine cE hE (fun hc26 hE=>?_) (fun hc26 hE=>?_)
   ·refine AWp.skip ?_;exact hK10 _ (decide (a0.FKind=(5:Int))) Weak.toA hE
   refine region ?_;refine S BI (S As (nil ?_));exact hK10 _ (decide (a0.FKind=(6:Int))) Weak.toA hE
  rintro s16_11 hE;try dsimp only at hE
  unfold Z149_j10 at hE;refine cE hE (fun hc12 hE=>?_) (fun hc12 hE=>?_)
  ·refine seqR (S Fv ?_);refine s0 (loadV (TK rfl) rfl rfl (congrArg (fun x=>some (A.d x)) (Z7.FItemsD_eq _))) rfl ?_;refine sLen (f:=Z7.c) (s:=a0.FItems) (TK rfl) rfl rfl rfl rfl fun hL14=>?_;refine S Mv (nil ?_);refine block ?_;refine loopH (TA 20 (TA 21 KeepsT.nil)) (fun(z:Nat×(Sl Bs)×Nat)=>[(1,.a (.d (Sl.d 1 strE (some g1) z.2.1))),(22,.a (.d (.int .i64 ((z.2.2:Nat):Int))))]) (fun z=>(H.set g1 (some (.tok 1 z.2.1.l.length)))) (fun z=>z.1) (fun z=>Z149_l15 a0 (Z149_n n) z.1 z.2.1 z.2.2=some r) ((a0.FItems.l.length+1),a1,0) hE Weak.toA ?_
   rintro ⟨n15,s1_16,s22_17⟩ hE K15 hK15;try dsimp only at hE
   cases n15 with
   | zero=>cases hE
   | succ n15 =>
     rw [Z149_l15] at hE;refine seqR (S BI (nil ?_));refine seqK fun K19 hK19=>?_;refine cE hE (fun hc20 hE=>?_) (fun hc20 hE=>?_)
     ·try dsimp only at hc20
      have hf20:=of_decide_eq_true hc20;refine sk hK19 ?_;clear hK19 K19;refine seqK fun K21 hK21=>?_;refine block ?_;refine seqR ?_;obtain⟨x23,gx23,hE⟩:=bO hE;refine S (ix Z7.c s22_17 gx23) (S Ld ?_);refine Sl ?_;refine Sf ?_;refine nil ?_;refine freezeA 6 _ rfl (KA 1 (KA 20 (KA 21 (KA 22 Keeps.nil)))) ?_;refine region ?_;refine S Ld (S Mv ?_);obtain⟨x24,gx24,hE⟩:=bO hE;refine sH (callH rfl rfl (ih_56 gx24 _ hpG)) rfl ?_
      refine hq (H.set g1 (some (.tok 1 x24.l.length))) ?_;refine S As (nil ?_);refine hK21 _ ?_;clear hK21 K21;refine region ?_;refine SI ?_;refine S Mv (nil ?_);exact hK15 _ (n15,x24,(s22_17+1)) Weak.toA hE (Nat.lt_succ_self _)
     refine AWp.exit ?_;exact hK2 _ s1_16 Weak.toA hE
  refine AWp.skip ?_;exact hK2 _ a1 Weak.toA hE
 rintro s1_3 hE;try dsimp only at hE
 unfold Z149_j2 at hE;refine seqR (S Mv (S As (nil ?_)));exact rt hE
theorem Z149_all:∀(n:Nat),(∀{a0:Z7}{a1:Sl Bs}{g1:Nat}{r:Sl Bs},Z149_n n a0 a1=some r->∀(H:Heap) (hg1:H g1=some (.tok 1 a1.l.length)),ACalls Tryz.prog 56 [.agg (Z7.c a0),.d (Sl.d 1 strE (some g1) a1)] H fun v h'=>v=.a (.d (Sl.d 1 strE (some g1) r))/\h'=(H.set g1 (some (.tok 1 r.l.length))))
 | 0=>fun hE=>by first|cases hE|(rw [Z149_n] at hE; cases hE)
 | n+1=>Z149_step n (Z149_all n)
def Z149 (a0:Z7) (a1:(Sl Bs)):Option (Sl Bs):=Z149_n F0 a0 a1
theorem Z149_walk {a0:Z7}{a1:Sl Bs}{g1:Nat}{r:Sl Bs}(hE:Z149 a0 a1=some r) (H:Heap) (hg1:H g1=some (.tok 1 a1.l.length)):ACalls Tryz.prog 56 [.agg (Z7.c a0),.d (Sl.d 1 strE (some g1) a1)] H fun v h'=>v=.a (.d (Sl.d 1 strE (some g1) r))/\h'=(H.set g1 (some (.tok 1 r.l.length))):=(Z149_all F0) hE H hg1
def Z150_j2  (s3_3:(Sl Bs)) (y4_c2:(List Bs)):Option ((Sl Bs)×(List Bs)):=some (s3_3,y4_c2)
def Z150_j15 (s22_10:Nat) (k_next_8:(Sl Bs)->Nat->(List Bs)->Option ((Sl Bs)×(List Bs))) (s3_16:(Sl Bs)) (y17_c2:(List Bs)):Option ((Sl Bs)×(List Bs)):=k_next_8 s3_16 (s22_10+1) y17_c2
def Z150_j25 (a0:Z6) (s22_10:Nat) (s3_23:(Sl Bs)) (k_next_8:(Sl Bs)->Nat->(List Bs)->Option ((Sl Bs)×(List Bs))) (k_rec_23:Z6->(Sl TSel)->(List Bs)->(Sl Bs)->Option ((Sl Bs)×(List Bs))) (s17_26:(Sl TSel)) (y27_c2:(List Bs)):Option ((Sl Bs)×(List Bs)):=(k_rec_23 a0 s17_26 y27_c2 s3_23).bind fun x28=>Z150_j15 s22_10 k_next_8 x28.1 x28.2
def Z150_j22 (a0:Z6) (s22_10:Nat) (y11_c2:(List Bs)) (x19:TSel) (k_next_8:(Sl Bs)->Nat->(List Bs)->Option ((Sl Bs)×(List Bs))) (k_rec_23:Z6->(Sl TSel)->(List Bs)->(Sl Bs)->Option ((Sl Bs)×(List Bs))) (s3_23:(Sl Bs)):Option ((Sl Bs)×(List Bs)):=bif (decide (x19.FKind=(2:Int))) then((Z18 a0 x19.FName).bind fun x32=>bif ((!x32.2)||(y11_c2.contains x19.FName)) then(Z150_j15 s22_10 k_next_8 s3_23 y11_c2) else(Z150_j25 a0 s22_10 s3_23 k_next_8 k_rec_23 x32.1.FSels (insS y11_c2 x19.FName))) else(Z150_j25 a0 s22_10 s3_23 k_next_8 k_rec_23 x19.FSels y11_c2)
def Z150_j45 (s41_41:Nat) (k_next_39:(Sl Bs)->Nat->Option ((Sl Bs)×(List Bs))) (s3_46:(Sl Bs)):Option ((Sl Bs)×(List Bs)):=k_next_39 s3_46 (s41_41+1)
def Z150_l51 (s41_41:Nat) (x48:TDir) (k_next_39:(Sl Bs)->Nat->Option ((Sl Bs)×(List Bs))):Nat->(Sl Bs)->Nat->Option ((Sl Bs)×(List Bs))
 | 0,_,_=>none
 | n51+1,s3_52,s48_53=>bif (decide (((s48_53:Nat):Int)<((x48.FArgs.l.length:Nat):Int))) then((x48.FArgs.l[s48_53]?).bind fun x59=>(Z149 x59.FValue s3_52).bind fun x60=>(Z150_l51 s41_41 x48 k_next_39 n51) x60 (s48_53+1)) else(Z150_j45 s41_41 k_next_39 s3_52)
def Z150_l39 (a0:Z6) (s22_10:Nat) (y11_c2:(List Bs)) (x19:TSel) (k_next_8:(Sl Bs)->Nat->(List Bs)->Option ((Sl Bs)×(List Bs))) (k_rec_23:Z6->(Sl TSel)->(List Bs)->(Sl Bs)->Option ((Sl Bs)×(List Bs))):Nat->(Sl Bs)->Nat->Option ((Sl Bs)×(List Bs))
 | 0,_,_=>none
 | n39+1,s3_40,s41_41=>bif (decide (((s41_41:Nat):Int)<((x19.FDirs.l.length:Nat):Int))) then((x19.FDirs.l[s41_41]?).bind fun x48=>Z150_l51 s41_41 x48 ((Z150_l39 a0 s22_10 y11_c2 x19 k_next_8 k_rec_23 n39)) (x48.FArgs.l.length+1) s3_40 0) else(Z150_j22 a0 s22_10 y11_c2 x19 k_next_8 k_rec_23 s3_40)
def Z150_j20 (a0:Z6) (s22_10:Nat) (y11_c2:(List Bs)) (x19:TSel) (k_next_8:(Sl Bs)->Nat->(List Bs)->Option ((Sl Bs)×(List Bs))) (k_rec_23:Z6->(Sl TSel)->(List Bs)->(Sl Bs)->Option ((Sl Bs)×(List Bs))) (s3_21:(Sl Bs)):Option ((Sl Bs)×(List Bs)):=Z150_l39 a0 s22_10 y11_c2 x19 k_next_8 k_rec_23 (x19.FDirs.l.length+1) s3_21 0
def Z150_l63 (a0:Z6) (s22_10:Nat) (y11_c2:(List Bs)) (x19:TSel) (k_next_8:(Sl Bs)->Nat->(List Bs)->Option ((Sl Bs)×(List Bs))) (k_rec_23:Z6->(Sl TSel)->(List Bs)->(Sl Bs)->Option ((Sl Bs)×(List Bs))):Nat->(Sl Bs)->Nat->Option ((Sl Bs)×(List Bs))
 | 0,_,_=>none
 | n63+1,s3_64,s29_65=>bif (decide (((s29_65:Nat):Int)<((x19.FArgs.l.length:Nat):Int))) then((x19.FArgs.l[s29_65]?).bind fun x71=>(Z149 x71.FValue s3_64).bind fun x72=>(Z150_l63 a0 s22_10 y11_c2 x19 k_next_8 k_rec_23 n63) x72 (s29_65+1)) else(Z150_j20 a0 s22_10 y11_c2 x19 k_next_8 k_rec_23 s3_64)
def Z150_l8 (a0:Z6) (a1:(Sl TSel)) (k_rec_23:Z6->(Sl TSel)->(List Bs)->(Sl Bs)->Option ((Sl Bs)×(List Bs))):Nat->(Sl Bs)->Nat->(List Bs)->Option ((Sl Bs)×(List Bs))
 | 0,_,_,_=>none
 | n8+1,s3_9,s22_10,y11_c2=>bif (decide (((s22_10:Nat):Int)<((a1.l.length:Nat):Int))) then((a1.l[s22_10]?).bind fun x19=>Z150_l63 a0 s22_10 y11_c2 x19 ((Z150_l8 a0 a1 k_rec_23 n8)) k_rec_23 (x19.FArgs.l.length+1) s3_9 0) else(Z150_j2   s3_9 y11_c2)
def Z150_n:Nat->Z6->(Sl TSel)->(List Bs)->(Sl Bs)->Option ((Sl Bs)×(List Bs))
 | 0,_,_,_,_=>none
 | n+1,a0,a1,a2,a3=>Z150_l8 a0 a1 (Z150_n n) (a1.l.length+1) a3 0 a2
theorem Z150_step (n:Nat) (ih_23:∀{a0:Z6}{a1:Sl TSel}{a2:List Bs}{a3:Sl Bs}{w1:Option Nat}{c2 g3:Nat}{r:((Sl Bs)×(List Bs))},Z150_n n a0 a1 a2 a3=some r->∀(H:Heap) (hc2:H c2=some (.map (seenM a2))) (hg3:H g3=some (.tok 1 a3.l.length)),ACalls Tryz.prog 23 [.agg (Z6.c a0),.d (Sl.d 7 TSel.c w1 a1),.d (.map c2),.d (Sl.d 1 strE (some g3) a3)] H fun v h'=>v=.a (.d (Sl.d 1 strE (some g3) r.1))/\h'=((H.set c2 (some (.map (seenM r.2)))).set g3 (some (.tok 1 r.1.l.length)))):∀{a0:Z6}{a1:Sl TSel}{a2:List Bs}{a3:Sl Bs}{w1:Option Nat}{c2 g3:Nat}{r:((Sl Bs)×(List Bs))},Z150_n (n+1) a0 a1 a2 a3=some r->∀(H:Heap) (hc2:H c2=some (.map (seenM a2))) (hg3:H g3=some (.tok 1 a3.l.length)),ACalls Tryz.prog 23 [.agg (Z6.c a0),.d (Sl.d 7 TSel.c w1 a1),.d (.map c2),.d (Sl.d 1 strE (some g3) a3)] H fun v h'=>v=.a (.d (Sl.d 1 strE (some g3) r.1))/\h'=((H.set c2 (some (.map (seenM r.2)))).set g3 (some (.tok 1 r.1.l.length))):=by
 intro a0 a1 a2 a3 w1 c2 g3 r hE H hc2 hg3;rw [Z150_n] at hE;refine ACalls.oW 90 [.tmp 8] Tryz.call23 Tryz.func23 ?_;have ne_g3_c2:g3≠c2:=fun e_=>by subst e_; simp_all
 refine AWp.heqA (h':=((H.set c2 (some (.map (seenM a2)))).set g3 (some (.tok 1 a3.l.length)))) (by funext n_; simp only [Heap.set]; (repeat' split)<;>simp_all) ?_;refine seqR (S BX (S As (nil ?_)));refine seqJH KeepsT.nil (fun(z:(Sl Bs)×(List Bs))=>[(3,.a (.d (Sl.d 1 strE (some g3) z.1)))]) (fun z=>((H.set c2 (some (.map (seenM z.2)))).set g3 (some (.tok 1 z.1.l.length)))) (fun z=>Z150_j2 z.1 z.2=some r) ?_ ?_
 ·intro K2 hK2;refine seqR (S Mv ?_);refine sLen (f:=TSel.c) (s:=a1) (TK rfl) rfl rfl rfl rfl fun hL7=>?_;refine S Mv (nil ?_);refine block ?_;refine loopH (TA 2 (TA 4 (TA 20 (TA 21 KeepsT.nil)))) (fun(z:Nat×(Sl Bs)×Nat×(List Bs))=>[(3,.a (.d (Sl.d 1 strE (some g3) z.2.1))),(22,.a (.d (.int .i64 ((z.2.2.1:Nat):Int))))]) (fun z=>((H.set c2 (some (.map (seenM z.2.2.2)))).set g3 (some (.tok 1 z.2.1.l.length)))) (fun z=>z.1) (fun z=>Z150_l8 a0 a1 (Z150_n n) z.1 z.2.1 z.2.2.1 z.2.2.2=some r) ((a1.l.length+1),a3,0,a2) hE Weak.toA ?_
  rintro ⟨n8,s3_9,s22_10,y11_c2⟩ hE K8 hK8;try dsimp only at hE
  cases n8 with
  | zero=>cases hE
  | succ n8 =>
    rw [Z150_l8] at hE;refine seqR (S BI (nil ?_));refine seqK fun K13 hK13=>?_;refine cE hE (fun hc14 hE=>?_) (fun hc14 hE=>?_)
    ·try dsimp only at hc14
     have hf14:=of_decide_eq_true hc14;refine sk hK13 ?_;clear hK13 K13;refine seqJH (TA 2 (TA 4 (TA 20 (TA 21 (TA 22 KeepsT.nil))))) (fun(z:(Sl Bs)×(List Bs))=>[(3,.a (.d (Sl.d 1 strE (some g3) z.1)))]) (fun z=>((H.set c2 (some (.map (seenM z.2)))).set g3 (some (.tok 1 z.1.l.length)))) (fun z=>Z150_j15 s22_10 ((Z150_l8 a0 a1 (Z150_n n) n8)) z.1 z.2=some r) ?_ ?_
     ·intro K15 hK15;refine block ?_;refine seqR ?_;obtain⟨x19,gx19,hE⟩:=bO hE;refine S (ix TSel.c s22_10 gx19) (S Ld ?_);refine Sl ?_;refine Sf ?_;refine nil ?_;refine freezeA 10 _ rfl (KA 2 (KA 3 (KA 4 (KA 20 (KA 21 (KA 22 Keeps.nil)))))) ?_;refine seqJH (TA 2 (TA 4 (TA 10 (TA 20 (TA 21 (TA 22 KeepsT.nil)))))) (fun(z:(Sl Bs))=>[(3,.a (.d (Sl.d 1 strE (some g3) z)))]) (fun z=>((H.set c2 (some (.map (seenM y11_c2)))).set g3 (some (.tok 1 z.l.length)))) (fun z=>Z150_j20 a0 s22_10 y11_c2 x19 ((Z150_l8 a0 a1 (Z150_n n) n8)) (Z150_n n) z=some r) ?_ ?_
      ·intro K20 hK20;refine seqR (S Fv (S Ld ?_));refine sLen (f:=TArg.c) (s:=x19.FArgs) (TK rfl) rfl rfl rfl rfl fun hL62=>?_;refine S Mv (nil ?_);refine block ?_;refine loopH (TA 2 (TA 4 (TA 10 (TA 20 (TA 21 (TA 22 (TA 27 (TA 28 KeepsT.nil)))))))) (fun(z:Nat×(Sl Bs)×Nat)=>[(3,.a (.d (Sl.d 1 strE (some g3) z.2.1))),(29,.a (.d (.int .i64 ((z.2.2:Nat):Int))))]) (fun z=>((H.set c2 (some (.map (seenM y11_c2)))).set g3 (some (.tok 1 z.2.1.l.length)))) (fun z=>z.1) (fun z=>Z150_l63 a0 s22_10 y11_c2 x19 ((Z150_l8 a0 a1 (Z150_n n) n8)) (Z150_n n) z.1 z.2.1 z.2.2=some r) ((x19.FArgs.l.length+1),s3_9,0) hE Weak.toA ?_
       rintro ⟨n63,s3_64,s29_65⟩ hE K63 hK63;try dsimp only at hE
       cases n63 with
       | zero=>cases hE
       | succ n63 =>
         rw [Z150_l63] at hE;refine seqR (S BI (nil ?_));refine seqK fun K67 hK67=>?_;refine cE hE (fun hc68 hE=>?_) (fun hc68 hE=>?_)
         ·try dsimp only at hc68
          have hf68:=of_decide_eq_true hc68;refine sk hK67 ?_;clear hK67 K67;refine seqK fun K69 hK69=>?_;refine block ?_;refine seqR ?_;obtain⟨x71,gx71,hE⟩:=bO hE;refine S (ix TArg.c s29_65 gx71) (S Ld ?_);refine Sl ?_;refine Sf ?_;refine nil ?_;refine freezeA 12 _ rfl (KA 2 (KA 3 (KA 4 (KA 10 (KA 20 (KA 21 (KA 22 (KA 27 (KA 28 (KA 29 Keeps.nil)))))))))) ?_;refine region ?_;refine S Fv (S Ld (S Mv ?_))
          obtain⟨x72,gx72,hE⟩:=bO hE;refine sH (callH rfl rfl (Z149_walk gx72 _ hpG)) rfl ?_;refine hq ((H.set c2 (some (.map (seenM y11_c2)))).set g3 (some (.tok 1 x72.l.length))) ?_;refine S As (nil ?_);refine hK69 _ ?_;clear hK69 K69;refine region ?_;refine SI ?_;refine S Mv (nil ?_);exact hK63 _ (n63,x72,(s29_65+1)) Weak.toA hE (Nat.lt_succ_self _)
         refine AWp.exit ?_;exact hK20 _ s3_64 Weak.toA hE
      rintro s3_21 hE;try dsimp only at hE
      unfold Z150_j20 at hE;refine seqJH (TA 2 (TA 4 (TA 10 (TA 20 (TA 21 (TA 22 KeepsT.nil)))))) (fun(z:(Sl Bs))=>[(3,.a (.d (Sl.d 1 strE (some g3) z)))]) (fun z=>((H.set c2 (some (.map (seenM y11_c2)))).set g3 (some (.tok 1 z.l.length)))) (fun z=>Z150_j22 a0 s22_10 y11_c2 x19 ((Z150_l8 a0 a1 (Z150_n n) n8)) (Z150_n n) z=some r) ?_ ?_
      ·intro K22 hK22;refine seqR (S Fv (S Ld ?_));refine sLen (f:=TDir.c) (s:=x19.FDirs) (TK rfl) rfl rfl rfl rfl fun hL38=>?_;refine S Mv (nil ?_);refine block ?_;refine loopH (TA 2 (TA 4 (TA 10 (TA 20 (TA 21 (TA 22 (TA 39 (TA 40 KeepsT.nil)))))))) (fun(z:Nat×(Sl Bs)×Nat)=>[(3,.a (.d (Sl.d 1 strE (some g3) z.2.1))),(41,.a (.d (.int .i64 ((z.2.2:Nat):Int))))]) (fun z=>((H.set c2 (some (.map (seenM y11_c2)))).set g3 (some (.tok 1 z.2.1.l.length)))) (fun z=>z.1) (fun z=>Z150_l39 a0 s22_10 y11_c2 x19 ((Z150_l8 a0 a1 (Z150_n n) n8)) (Z150_n n) z.1 z.2.1 z.2.2=some r) ((x19.FDirs.l.length+1),s3_21,0) hE Weak.toA ?_
       rintro ⟨n39,s3_40,s41_41⟩ hE K39 hK39;try dsimp only at hE
       cases n39 with
       | zero=>cases hE
       | succ n39 =>
         rw [Z150_l39] at hE;refine seqR (S BI (nil ?_));refine seqK fun K43 hK43=>?_;refine cE hE (fun hc44 hE=>?_) (fun hc44 hE=>?_)
         ·try dsimp only at hc44
          have hf44:=of_decide_eq_true hc44;refine sk hK43 ?_;clear hK43 K43;refine seqJH (TA 2 (TA 4 (TA 10 (TA 20 (TA 21 (TA 22 (TA 39 (TA 40 (TA 41 KeepsT.nil))))))))) (fun(z:(Sl Bs))=>[(3,.a (.d (Sl.d 1 strE (some g3) z)))]) (fun z=>((H.set c2 (some (.map (seenM y11_c2)))).set g3 (some (.tok 1 z.l.length)))) (fun z=>Z150_j45 s41_41 ((Z150_l39 a0 s22_10 y11_c2 x19 ((Z150_l8 a0 a1 (Z150_n n) n8)) (Z150_n n) n39)) z=some r) ?_ ?_
          ·intro K45 hK45;refine block ?_;refine seqR ?_;obtain⟨x48,gx48,hE⟩:=bO hE;refine S (ix TDir.c s41_41 gx48) (S Ld ?_);refine Sl ?_;refine Sf ?_;refine nil ?_;refine freezeA 14 _ rfl (KA 2 (KA 3 (KA 4 (KA 10 (KA 20 (KA 21 (KA 22 (KA 39 (KA 40 (KA 41 Keeps.nil)))))))))) ?_;refine seqR (S Fv (S Ld ?_));refine sLen (f:=TArg.c) (s:=x48.FArgs) (TK rfl) rfl rfl rfl rfl fun hL50=>?_;refine S Mv (nil ?_)
           refine block ?_;refine loopH (TA 2 (TA 4 (TA 10 (TA 20 (TA 21 (TA 22 (TA 39 (TA 40 (TA 41 (TA 46 (TA 47 KeepsT.nil))))))))))) (fun(z:Nat×(Sl Bs)×Nat)=>[(3,.a (.d (Sl.d 1 strE (some g3) z.2.1))),(48,.a (.d (.int .i64 ((z.2.2:Nat):Int))))]) (fun z=>((H.set c2 (some (.map (seenM y11_c2)))).set g3 (some (.tok 1 z.2.1.l.length)))) (fun z=>z.1) (fun z=>Z150_l51 s41_41 x48 ((Z150_l39 a0 s22_10 y11_c2 x19 ((Z150_l8 a0 a1 (Z150_n n) n8)) (Z150_n n) n39)) z.1 z.2.1 z.2.2=some r) ((x48.FArgs.l.length+1),s3_40,0) hE Weak.toA ?_
           rintro ⟨n51,s3_52,s48_53⟩ hE K51 hK51;try dsimp only at hE
           cases n51 with
           | zero=>cases hE
           | succ n51 =>
             rw [Z150_l51] at hE;refine seqR (S BI (nil ?_));refine seqK fun K55 hK55=>?_;refine cE hE (fun hc56 hE=>?_) (fun hc56 hE=>?_)
             ·try dsimp only at hc56
              have hf56:=of_decide_eq_true hc56;refine sk hK55 ?_;clear hK55 K55;refine seqK fun K57 hK57=>?_;refine block ?_;refine seqR ?_;obtain⟨x59,gx59,hE⟩:=bO hE;refine S (ix TArg.c s48_53 gx59) (S Ld ?_);refine Sl ?_;refine Sf ?_;refine nil ?_;refine freezeA 16 _ rfl (KA 2 (KA 3 (KA 4 (KA 10 (KA 20 (KA 21 (KA 22 (KA 39 (KA 40 (KA 41 (KA 46 (KA 47 (KA 48 Keeps.nil))))))))))))) ?_;refine region ?_
              refine S Fv (S Ld (S Mv ?_));obtain⟨x60,gx60,hE⟩:=bO hE;refine sH (callH rfl rfl (Z149_walk gx60 _ hpG)) rfl ?_;refine hq ((H.set c2 (some (.map (seenM y11_c2)))).set g3 (some (.tok 1 x60.l.length))) ?_;refine S As (nil ?_);refine hK57 _ ?_;clear hK57 K57;refine region ?_;refine SI ?_;refine S Mv (nil ?_);exact hK51 _ (n51,x60,(s48_53+1)) Weak.toA hE (Nat.lt_succ_self _)
             refine AWp.exit ?_;exact hK45 _ s3_52 Weak.toA hE
          rintro s3_46 hE;try dsimp only at hE
          unfold Z150_j45 at hE;refine region ?_;refine SI ?_;refine S Mv (nil ?_);exact hK39 _ (n39,s3_46,(s41_41+1)) Weak.toA hE (Nat.lt_succ_self _)
         refine AWp.exit ?_;exact hK22 _ s3_40 Weak.toA hE
      rintro s3_23 hE;try dsimp only at hE
      unfold Z150_j22 at hE;refine seqR (S Fv ?_);refine s0 (loadV (TK rfl) rfl rfl (congrArg (fun x=>some (A.d x)) (TSel.FSelsD_eq _))) rfl ?_;refine S As (nil ?_);refine seqJH (TA 2 (TA 3 (TA 4 (TA 20 (TA 21 (TA 22 KeepsT.nil)))))) (fun(z:(Sl TSel)×(List Bs))=>[(17,.a (.d (Sl.d 7 TSel.c none z.1)))]) (fun z=>((H.set c2 (some (.map (seenM z.2)))).set g3 (some (.tok 1 s3_23.l.length)))) (fun z=>Z150_j25 a0 s22_10 s3_23 ((Z150_l8 a0 a1 (Z150_n n) n8)) (Z150_n n) z.1 z.2=some r) ?_ ?_
      ·intro K25 hK25;refine seqR (S Fv (S Ld (S BI (nil ?_))));refine cE hE (fun hc30 hE=>?_) (fun hc30 hE=>?_)
       ·refine seqR (S Ld (S Fv (S Ld ?_)));obtain⟨x32,gx32,hE⟩:=bO hE;refine Sc rfl rfl (Z18_walk gx32) ?_;refine S Mv (S EX (S EX ?_));refine Sl ?_;refine Sf ?_;refine S As (nil ?_);refine freezeA 18 _ rfl (KA 2 (KA 3 (KA 4 (KA 10 (KA 19 (KA 20 (KA 21 (KA 22 Keeps.nil)))))))) ?_;refine seqK fun K33 hK33=>?_;refine seqR (S Mv (S NB (S Mv (G0 Mv (G0 Fv ?_)))));refine G1 74 rfl Ld ?_;refine gC rfl rfl (fun hC=>ungdA (k:=73) rfl (ungdA (k:=75) rfl (lookupSeen (TK rfl) rfl (TK rfl) (TK rfl) rfl rfl rfl rfl hpG))) rfl ?_
        refine S PO (nil ?_);refine cE hE (fun hc35 hE=>?_) (fun hc35 hE=>?_)
        ·refine AWp.exit ?_;exact hK15 _ (s3_23,y11_c2) Weak.toA hE
        refine sk hK33 ?_;clear hK33 K33;refine seqR (S Mv (S Fv (S Ld ?_)));refine sHn (mapUpdate (TK rfl) rfl (TK rfl) rfl rfl rfl rfl hpG (seen_upd _ _) rfl) rfl rfl ?_;refine hq ((H.set c2 (some (.map (seenM (insS y11_c2 x19.FName))))).set g3 (some (.tok 1 s3_23.l.length))) ?_;refine nil ?_;refine region ?_;refine S Fv (S Ld (S As (nil ?_)));exact hK25 _ (x32.1.FSels,(insS y11_c2 x19.FName)) Weak.toA hE
       refine AWp.skip ?_;exact hK25 _ (x19.FSels,y11_c2) Weak.toA hE
      rintro ⟨s17_26,y27_c2⟩ hE;try dsimp only at hE
      unfold Z150_j25 at hE;refine region ?_;refine S Ld (S Mv (S Mv (S Mv ?_)));obtain⟨x28,gx28,hE⟩:=bO hE;refine sH (callH rfl rfl (ih_23 gx28 _ hpG hpG)) rfl ?_;refine hq ((H.set c2 (some (.map (seenM x28.2)))).set g3 (some (.tok 1 x28.1.l.length))) ?_;refine S As (nil ?_);exact hK15 _ (x28.1,x28.2) Weak.toA hE
     rintro ⟨s3_16,y17_c2⟩ hE;try dsimp only at hE
     unfold Z150_j15 at hE;refine region ?_;refine SI ?_;refine S Mv (nil ?_);exact hK8 _ (n8,s3_16,(s22_10+1),y17_c2) Weak.toA hE (Nat.lt_succ_self _)
    refine AWp.exit ?_;exact hK2 _ (s3_9,y11_c2) Weak.toA hE
 rintro ⟨s3_3,y4_c2⟩ hE;try dsimp only at hE
 unfold Z150_j2 at hE;refine seqR (S Mv (S As (nil ?_)));exact rt hE
theorem Z150_all:∀(n:Nat),(∀{a0:Z6}{a1:Sl TSel}{a2:List Bs}{a3:Sl Bs}{w1:Option Nat}{c2 g3:Nat}{r:((Sl Bs)×(List Bs))},Z150_n n a0 a1 a2 a3=some r->∀(H:Heap) (hc2:H c2=some (.map (seenM a2))) (hg3:H g3=some (.tok 1 a3.l.length)),ACalls Tryz.prog 23 [.agg (Z6.c a0),.d (Sl.d 7 TSel.c w1 a1),.d (.map c2),.d (Sl.d 1 strE (some g3) a3)] H fun v h'=>v=.a (.d (Sl.d 1 strE (some g3) r.1))/\h'=((H.set c2 (some (.map (seenM r.2)))).set g3 (some (.tok 1 r.1.l.length))))
 | 0=>fun hE=>by first|cases hE|(rw [Z150_n] at hE; cases hE)
 | n+1=>Z150_step n (Z150_all n)
def Z150 (a0:Z6) (a1:(Sl TSel)) (a2:(List Bs)) (a3:(Sl Bs)):Option ((Sl Bs)×(List Bs)):=Z150_n F0 a0 a1 a2 a3
theorem Z150_walk {a0:Z6}{a1:Sl TSel}{a2:List Bs}{a3:Sl Bs}{w1:Option Nat}{c2 g3:Nat}{r:((Sl Bs)×(List Bs))}(hE:Z150 a0 a1 a2 a3=some r) (H:Heap) (hc2:H c2=some (.map (seenM a2))) (hg3:H g3=some (.tok 1 a3.l.length)):ACalls Tryz.prog 23 [.agg (Z6.c a0),.d (Sl.d 7 TSel.c w1 a1),.d (.map c2),.d (Sl.d 1 strE (some g3) a3)] H fun v h'=>v=.a (.d (Sl.d 1 strE (some g3) r.1))/\h'=((H.set c2 (some (.map (seenM r.2)))).set g3 (some (.tok 1 r.1.l.length))):=(Z150_all F0) hE H hc2 hg3
def Z121_j2  :Option Int:=some (-1:Int)
def Z121_l6 (a0:(Sl Bs)) (a1:Bs) :Nat->Nat->Option Int
 | 0,_=>none
 | n6+1,s8_7=>bif (decide (((s8_7:Nat):Int)<((a0.l.length:Nat):Int))) then((a0.l[s8_7]?).bind fun x14=>bif ((a1==x14)) then(some ((s8_7:Nat):Int)) else((Z121_l6 a0 a1 n6) (s8_7+1))) else(Z121_j2   )
def Z121 (a0:(Sl Bs)) (a1:Bs):Option Int:=Z121_l6 a0 a1 (a0.l.length+1) 0
theorem Z121_walk {a0:Sl Bs}{a1:Bs}{w0:Option Nat}{r:Int}(hE:Z121 a0 a1=some r) (H:Heap) :ACalls Tryz.prog 57 [.d (Sl.d 1 strE w0 a0),.d (.str a1)] H fun v h'=>v=.a (.d (.int .i64 r))/\h'=H:=by
 unfold Z121 at hE;refine ACalls.oW 19 [.tmp 4] Tryz.call57 Tryz.func57 ?_;refine seqR (S As (nil ?_));refine seqJH KeepsT.nil (fun(z:Unit)=>[]) (fun z=>H) (fun z=>Z121_j2 =some r) ?_ ?_
 ·intro K2 hK2;refine seqR (S Mv ?_);refine sLen (f:=strE) (s:=a0) (TK rfl) rfl rfl rfl rfl fun hL5=>?_;refine S Mv (nil ?_);refine block ?_;refine loopH (TA 0 (TA 1 (TA 7 KeepsT.nil))) (fun(z:Nat×Nat)=>[(8,.a (.d (.int .i64 ((z.2:Nat):Int))))]) (fun z=>H) (fun z=>z.1) (fun z=>Z121_l6 a0 a1 z.1 z.2=some r) ((a0.l.length+1),0) hE Weak.toA ?_;rintro ⟨n6,s8_7⟩ hE K6 hK6;try dsimp only at hE
  cases n6 with
  | zero=>cases hE
  | succ n6 =>
    rw [Z121_l6] at hE;refine seqR (S BI (nil ?_));refine seqK fun K9 hK9=>?_;refine cE hE (fun hc10 hE=>?_) (fun hc10 hE=>?_)
    ·try dsimp only at hc10
     have hf10:=of_decide_eq_true hc10;refine sk hK9 ?_;clear hK9 K9;refine seqK fun K11 hK11=>?_;refine block ?_;refine seqR (S Mv (S As (nil ?_)));refine seqR (S Mv (S Mv (S Mv ?_)));obtain⟨x14,gx14,hE⟩:=bO hE;refine S (ix strE s8_7 gx14) (S Ld (S BS (nil ?_)));refine cE hE (fun hc15 hE=>?_) (fun hc15 hE=>?_)
     ·refine seqR (S Mv (S As (nil ?_)));exact rt hE
     refine sk hK11 ?_;clear hK11 K11;refine region ?_;refine SI ?_;refine S Mv (nil ?_);exact hK6 _ (n6,(s8_7+1)) Weak.toA hE (Nat.lt_succ_self _)
    refine AWp.exit ?_;exact hK2 _ () Weak.toA hE
 rintro _ hE;try dsimp only at hE
 unfold Z121_j2 at hE;refine seqR (S As (nil ?_));exact rt hE
def Z116 (a0:(Sl Bs)) (a1:Bs):Option Bool:=(Z121 a0 a1).bind fun x3=>some (decide ((0:Int)<=x3))
theorem Z116_walk {a0:Sl Bs}{a1:Bs}{w0:Option Nat}{r:Bool}(hE:Z116 a0 a1=some r) (H:Heap) :ACalls Tryz.prog 24 [.d (Sl.d 1 strE w0 a0),.d (.str a1)] H fun v h'=>v=.a (.d (.bool r))/\h'=H:=by
 unfold Z116 at hE;refine ACalls.oW 9 [.tmp 4] Tryz.call24 Tryz.func24 ?_;refine seqR (S As (nil ?_));refine seqR (S Mv (S Mv ?_));obtain⟨x3,gx3,hE⟩:=bO hE;refine Sc rfl rfl (Z121_walk gx3) ?_;refine S BI (S As (nil ?_));exact rt hE
def Z141_j7  (s5_8:(Sl Bs)):Option (Sl Bs):=some s5_8
def Z141_j21 (s27_17:Int) (k_next_15:(Sl Bs)->Int->Option (Sl Bs)) (s5_22:(Sl Bs)):Option (Sl Bs):=(addC s27_17 (1:Int)).bind fun x23=>k_next_15 s5_22 x23
def Z141_l15 (x14:((Sl Bs)×(List Bs))) :Nat->(Sl Bs)->Int->Option (Sl Bs)
 | 0,_,_=>none
 | n15+1,s5_16,s27_17=>bif (decide (s27_17<((x14.1.l.length:Nat):Int))) then((idxC x14.1.l s27_17).bind fun x25=>(Z116 s5_16 x25).bind fun x27=>bif (!x27) then((appC 16 s5_16 (⟨false,[x25]⟩:Sl Bs)).bind fun x29=>Z141_j21 s27_17 ((Z141_l15 x14 n15)) x29) else(Z141_j21 s27_17 ((Z141_l15 x14 n15)) s5_16)) else(Z141_j7   s5_16)
def Z141 (a0:Z6) (a1:Int):Option (Sl Bs):=bif ((decide (a1<(0:Int)))||(decide (((a0.FOps.l.length:Nat):Int)<=a1))) then(some (Sl.nil:Sl Bs)) else((idxC a0.FOps.l a1).bind fun x13=>(Z150 a0 x13.FSels ([]:List Bs) (Sl.nil:Sl Bs)).bind fun x14=>Z141_l15 x14 F0 (Sl.nil:Sl Bs) (0:Int))
theorem Z141_walk {a0:Z6}{a1:Int}{r:Sl Bs}(hE:Z141 a0 a1=some r) (H:Heap) :ACalls Tryz.prog 8 [.agg (Z6.c a0),.d (.int .i64 a1)] H fun v h'=>v=.a (.d (Sl.d 1 strE none r))/\h'=H:=by
 unfold Z141 at hE;refine ACalls.oW 41 [.tmp 4] Tryz.call8 Tryz.func8 ?_;refine AWp.tok 1 fun tk1 htk1=>?_;refine seqR (S BX ?_);refine s0 (assignNil (k':=1) rfl) rfl ?_;refine nil ?_;refine seqK fun K2 hK2=>?_;refine seqR (S Mv (S BI (S Mv (G0 Mv (G0 Fv ?_)))));refine G1 12 rfl Ld ?_;refine gC rfl rfl (fun hC=>ungdA (k:=13) rfl (lenM' (f:=TOp.c) (s:=a0.FOps) (TK rfl) rfl rfl rfl)) rfl ?_;refine G2 11 14 rfl rfl BI ?_
 refine S PO (nil ?_);refine cE hE (fun hc4 hE=>?_) (fun hc4 hE=>?_)
 ·refine seqR ?_;refine s0 (assignNil (k':=1) rfl) rfl ?_;refine nil ?_;refine AWp.ret ?_;repeat (first|refine xBlock_ret ?_|refine xThen_ret ?_)
  obtain rfl:=Option.some.inj hE;refine retQ.retF H rfl ⟨rfl,rfl⟩ ?_
  first|exact Heap.sub_set htk1|(simp only [Heap.set_set]; exact Heap.sub_set htk1)
 refine sk hK2 ?_;clear hK2 K2;refine seqR (S As (nil ?_));refine AWp.nilTok 5 1 tk1 rfl hpG ?_;refine seqJH KeepsT.nil (fun(z:(Sl Bs))=>[(5,.a (.d (Sl.d 1 strE (some tk1) z)))]) (fun z=>(H.set tk1 (some (.tok 1 z.l.length)))) (fun z=>Z141_j7 z=some r) ?_ ?_
 ·intro K7 hK7;refine AWp.tok 0 fun id24_11 hid24_11=>?_;obtain⟨ne_id24_11_tk1,hid24_11⟩:=Heap.set_fresh hid24_11;refine AWp.tok 1 fun tk3_12 htk3_12=>?_;obtain⟨ne_tk3_12_id24_11,htk3_12⟩:=Heap.set_fresh htk3_12;obtain⟨ne_tk3_12_tk1,htk3_12⟩:=Heap.set_fresh htk3_12;refine AWp.seqD (Sd Ld (Sd Fv (Sd Ld (Sd Mv ?_))));obtain⟨x13,gx13,hE⟩:=bO hE;refine DOps.s0 (idxM (f:=TOp.c) (TK rfl) rfl (TK rfl) rfl rfl rfl gx13) rfl ?_
  refine Sd Fv (Sd Ld ?_);refine DOps.sH (makeMapT (id:=id24_11) hpG) rfl ?_;refine DOps.Dh (((H.set tk1 (some (.tok 1 0))).set id24_11 (some (.map (seenM ([]:List Bs))))).set tk3_12 (some (.tok 1 0))) ?_;obtain⟨x14,gx14,hE⟩:=bO hE;refine DOps.sH (callH rfl rfl (ACalls.asArgs (.cons (.refl _) (.cons (.refl _) (.cons (.refl _) (.cons (AsArg.nil (k':=1) (t:=tk3_12) hpG) .nil)))) (Z150_walk gx14 _ hpG hpG))) rfl ?_
  refine DOps.Dh (((H.set tk1 (some (.tok 1 0))).set id24_11 (some (.map (seenM x14.2)))).set tk3_12 (some (.tok 1 x14.1.l.length))) ?_;refine DOps.s0 (lenM' (f:=strE) (s:=x14.1) (TK rfl) rfl rfl rfl) rfl ?_;refine Sd Mv ?_;refine DOps.nil (by decide +kernel) ?_;refine AWp.dropTok 25 rfl ?_;refine block ?_;refine loopH (TA 25 (TA 26 KeepsT.nil)) (fun(z:Nat×(Sl Bs)×Int)=>[(5,.a (.d (Sl.d 1 strE (some tk1) z.2.1))),(27,.a (.d (.int .i64 z.2.2)))]) (fun z=>(((H.set tk1 (some (.tok 1 z.2.1.l.length))).set id24_11 (some (.map (seenM x14.2)))).set tk3_12 (some (.tok 1 x14.1.l.length)))) (fun z=>z.1) (fun z=>Z141_l15 x14 z.1 z.2.1 z.2.2=some r) (F0,(Sl.nil:Sl Bs),(0:Int)) hE Weak.toA ?_
  rintro ⟨n15,s5_16,s27_17⟩ hE K15 hK15;try dsimp only at hE
  cases n15 with
  | zero=>cases hE
  | succ n15 =>
    rw [Z141_l15] at hE;refine seqR (S BI (nil ?_));refine seqK fun K19 hK19=>?_;refine cE hE (fun hc20 hE=>?_) (fun hc20 hE=>?_)
    ·refine sk hK19 ?_;clear hK19 K19;refine seqJH (TA 25 (TA 26 (TA 27 KeepsT.nil))) (fun(z:(Sl Bs))=>[(5,.a (.d (Sl.d 1 strE (some tk1) z)))]) (fun z=>(((H.set tk1 (some (.tok 1 z.l.length))).set id24_11 (some (.map (seenM x14.2)))).set tk3_12 (some (.tok 1 x14.1.l.length)))) (fun z=>Z141_j21 s27_17 ((Z141_l15 x14 n15)) z=some r) ?_ ?_
     ·intro K21 hK21;refine block ?_;refine seqR ?_;obtain⟨x25,gx25,hE⟩:=bO hE;refine s0 (idxM (f:=strE) (TK rfl) rfl (TK rfl) rfl rfl rfl gx25) rfl ?_;refine S Ld (S As (nil ?_));refine seqR (S Mv (S Mv ?_));obtain⟨x27,gx27,hE⟩:=bO hE;refine Sc rfl rfl (Z116_walk gx27) ?_;refine S NB (nil ?_);refine cE hE (fun hc28 hE=>?_) (fun hc28 hE=>?_)
      ·refine region ?_;refine S Mv (S Mv (S BV ?_));obtain⟨x29,gx29,hE⟩:=bO hE;refine SH (am strE (TK rfl) rfl (TK rfl) (TK rfl) gx29) ?_;refine hq (((H.set tk1 (some (.tok 1 x29.l.length))).set id24_11 (some (.map (seenM x14.2)))).set tk3_12 (some (.tok 1 x14.1.l.length))) ?_;refine S As (nil ?_);exact hK21 _ x29 Weak.toA hE
      refine AWp.skip ?_;exact hK21 _ s5_16 Weak.toA hE
     rintro s5_22 hE;try dsimp only at hE
     unfold Z141_j21 at hE;refine region ?_;obtain⟨x23,gx23,hE⟩:=bO hE;refine s0 (addM rfl rfl gx23) rfl ?_;refine S Mv (nil ?_);exact hK15 _ (n15,s5_22,x23) Weak.toA hE (Nat.lt_succ_self _)
    refine AWp.exit ?_;exact hK7 _ s5_16 (Weak.toFA (by(intro id_ o_ he_); (have e_id24_11:id_≠id24_11:=fun e_=>by rw [e_] at he_; simp [Heap.set,hid24_11,ne_id24_11_tk1] at he_); (have e_tk3_12:id_≠tk3_12:=fun e_=>by rw [e_] at he_; simp [Heap.set,htk3_12,ne_tk3_12_tk1] at he_); (rw [<- he_]); (simp only [Heap.set,if_neg e_id24_11,if_neg e_tk3_12]); (first|done|rfl))) hE
 rintro s5_8 hE;try dsimp only at hE
 unfold Z141_j7 at hE;refine seqR (S Mv (S As (nil ?_)));refine AWp.dropTok 4 rfl ?_;refine AWp.ret ?_;repeat (first|refine xBlock_ret ?_|refine xThen_ret ?_)
 obtain rfl:=Option.some.inj hE;refine retQ.retF H rfl ⟨rfl,rfl⟩ ?_
 first|exact Heap.sub_set htk1|(simp only [Heap.set_set]; exact Heap.sub_set htk1)
end Go.Proofs

namespace Go.Proofs
open Go Go.Ab
open AOps Cert AWp Keeps KeepsT
variable {lou:Lou}
def Z119_j2  :Option Int:=some (-1:Int)
def Z119_l6 (a0:(Sl TVar)) (a1:(TVar->Option Bool)) :Nat->Nat->Option Int
 | 0,_=>none
 | n6+1,s8_7=>bif (decide (((s8_7:Nat):Int)<((a0.l.length:Nat):Int))) then((a0.l[s8_7]?).bind fun x14=>(a1 x14).bind fun x15=>bif x15 then(some ((s8_7:Nat):Int)) else((Z119_l6 a0 a1 n6) (s8_7+1))) else(Z119_j2   )
def Z119 (a0:(Sl TVar)) (a1:(TVar->Option Bool)):Option Int:=Z119_l6 a0 a1 (a0.l.length+1) 0
theorem Z119_walk {a0:Sl TVar}{a1:TVar->Option Bool}{w0:Option Nat}{cl1:List D}{k1:Nat}{r:Int}(hE:Z119 a0 a1=some r) (H:Heap) (hf1:∀x0 r,a1 x0=some r->∀H,ACalls Tryz.prog k1 ([.agg (TVar.c x0)]++cl1.map A.d) H fun v h'=>v=.a (.d (.bool r))/\h'=H):ACalls Tryz.prog 85 [.d (Sl.d 9 TVar.c w0 a0),.d (.func k1 cl1)] H fun v h'=>v=.a (.d (.int .i64 r))/\h'=H:=by
 unfold Z119 at hE;refine ACalls.oW 19 [.tmp 4] Tryz.call85 Tryz.func85 ?_;refine seqR (S As (nil ?_));refine seqJH KeepsT.nil (fun(z:Unit)=>[]) (fun z=>H) (fun z=>Z119_j2 =some r) ?_ ?_
 ·intro K2 hK2;refine seqR (S Mv ?_);refine sLen (f:=TVar.c) (s:=a0) (TK rfl) rfl rfl rfl rfl fun hL5=>?_;refine S Mv (nil ?_);refine block ?_;refine loopH (TA 0 (TA 1 (TA 7 KeepsT.nil))) (fun(z:Nat×Nat)=>[(8,.a (.d (.int .i64 ((z.2:Nat):Int))))]) (fun z=>H) (fun z=>z.1) (fun z=>Z119_l6 a0 a1 z.1 z.2=some r) ((a0.l.length+1),0) hE Weak.toA ?_;rintro ⟨n6,s8_7⟩ hE K6 hK6;try dsimp only at hE
  cases n6 with
  | zero=>cases hE
  | succ n6 =>
    rw [Z119_l6] at hE;refine seqR (S BI (nil ?_));refine seqK fun K9 hK9=>?_;refine cE hE (fun hc10 hE=>?_) (fun hc10 hE=>?_)
    ·try dsimp only at hc10
     have hf10:=of_decide_eq_true hc10;refine sk hK9 ?_;clear hK9 K9;refine seqK fun K11 hK11=>?_;refine block ?_;refine seqR (S Mv (S As (nil ?_)));refine seqR (S Mv (S Mv (S Mv ?_)));obtain⟨x14,gx14,hE⟩:=bO hE;refine S (ix TVar.c s8_7 gx14) (S Ld ?_);obtain⟨x15,gx15,hE⟩:=bO hE;refine s0 (callP rfl rfl (hf1 _ _ gx15)) rfl ?_;refine nil ?_;refine cE hE (fun hc16 hE=>?_) (fun hc16 hE=>?_)
     ·refine seqR (S Mv (S As (nil ?_)));exact rt hE
     refine sk hK11 ?_;clear hK11 K11;refine region ?_;refine SI ?_;refine S Mv (nil ?_);exact hK6 _ (n6,(s8_7+1)) Weak.toA hE (Nat.lt_succ_self _)
    refine AWp.exit ?_;exact hK2 _ () Weak.toA hE
 rintro _ hE;try dsimp only at hE
 unfold Z119_j2 at hE;refine seqR (S As (nil ?_));exact rt hE
def Z114 (a0:(Sl TVar)) (a1:(TVar->Option Bool)):Option Bool:=(Z119 a0 a1).bind fun x3=>some (decide ((0:Int)<=x3))
theorem Z114_walk {a0:Sl TVar}{a1:TVar->Option Bool}{w0:Option Nat}{cl1:List D}{k1:Nat}{r:Bool}(hE:Z114 a0 a1=some r) (H:Heap) (hf1:∀x0 r,a1 x0=some r->∀H,ACalls Tryz.prog k1 ([.agg (TVar.c x0)]++cl1.map A.d) H fun v h'=>v=.a (.d (.bool r))/\h'=H):ACalls Tryz.prog 44 [.d (Sl.d 9 TVar.c w0 a0),.d (.func k1 cl1)] H fun v h'=>v=.a (.d (.bool r))/\h'=H:=by
 unfold Z114 at hE;refine ACalls.oW 9 [.tmp 4] Tryz.call44 Tryz.func44 ?_;refine seqR (S As (nil ?_));refine seqR (S Mv (S Mv ?_));obtain⟨x3,gx3,hE⟩:=bO hE;refine s0 (callP rfl rfl (fun H=>Z119_walk gx3 H hf1)) rfl ?_;refine S BI (S As (nil ?_));exact rt hE
def Z144 (a0:TVar) (a1:TVar):Option Bool:=some ((a0.FName==a1.FName))
theorem Z144_walk {a0 a1:TVar}{r:Bool}(hE:Z144 a0 a1=some r) (H:Heap) :ACalls Tryz.prog 45 [.agg (TVar.c a0),.d (.view (TVar.c a1))] H fun v h'=>v=.a (.d (.bool r))/\h'=H:=by
 unfold Z144 at hE;refine ACalls.oW 9 [.tmp 3] Tryz.call45 Tryz.func45 ?_;refine seqR (S BX (S As (nil ?_)));refine seqR (S Fv (S Ld (S Fv (S Ld (S BS (S As (nil ?_)))))));exact rt hE
def Z142 (a0:Z8) (a1:Bool) (a2:Int) (a3:Bs):Option Z8:=bif a1 then((appC 24 a0.Fout (⟨false,[(Z1.mk a2 a3)]⟩:Sl Z1)).bind fun x3=>some (Z8.mk a0.Fd a0.Fvars x3)) else(some a0)
theorem Z142_walk {a0:Z8}{a1:Bool}{a2:Int}{a3:Bs}{c0 c0_2:Nat}{r:Z8}(hE:Z142 a0 a1 a2 a3=some r) (H:Heap) (hc0:H c0=some (.cells (Z8.cg (some c0_2) a0))) (ht0_2:H c0_2=some (.tok 2 a0.Fout.l.length)):ACalls Tryz.prog 46 [.d (.ptr c0 0),.d (.bool a1),.d (.int .i64 a2),.d (.str a3)] H fun v h'=>v=.tup []/\h'=((H.set c0_2 (some (.tok 2 r.Fout.l.length))).set c0 (some (.cells (Z8.cg (some c0_2) r)))):=by
 unfold Z142 at hE;refine ACalls.oW 21 [] Tryz.call46 Tryz.func46 ?_;have ne_c0_c0_2:c0≠c0_2:=fun e_=>by subst e_; simp_all
 refine AWp.heqA (h':=((H.set c0_2 (some (.tok 2 a0.Fout.l.length))).set c0 (some (.cells (Z8.cg (some c0_2) a0))))) (by funext n_; simp only [Heap.set]; (repeat' split)<;>simp_all) ?_;refine seqR (S Mv (nil ?_));refine cE hE (fun hc2 hE=>?_) (fun hc2 hE=>?_)
 ·refine region ?_;refine S Mv (S Mv (S NP ?_));refine s0 (fieldP (TK rfl) rfl rfl (TK rfl) rfl rfl) rfl ?_;refine s0 (loadP (TK rfl) rfl rfl hpG rfl) rfl ?_;refine S Mv (S Mv (S BU (S BV ?_)));obtain⟨x3,gx3,hE⟩:=bO hE;refine SH (am Z1.c (TK rfl) rfl (TK rfl) (TK rfl) gx3) ?_;refine hq ((H.set c0_2 (some (.tok 2 x3.l.length))).set c0 (some (.cells (Z8.cg (some c0_2) a0)))) ?_;refine S NP ?_;refine s0 (fieldP (TK rfl) rfl rfl (TK rfl) rfl rfl) rfl ?_
  refine sHn (storeP1 (TK rfl) rfl rfl hpG rfl (by repeat (first|exact SetAt.zero|apply SetAt.succ))) rfl rfl ?_;refine hq ((H.set c0_2 (some (.tok 2 x3.l.length))).set c0 (some (.cells (Z8.cg (some c0_2) (Z8.mk a0.Fd a0.Fvars x3))))) ?_;refine nil ?_;repeat (first|refine xBlock_normal ?_|refine xThen_exit ?_|refine xBlock_exit ?_)
  obtain rfl:=Option.some.inj hE;refine retQ.normalF ((H.set c0_2 (some (.tok 2 x3.l.length))).set c0 (some (.cells (Z8.cg (some c0_2) (Z8.mk a0.Fd a0.Fvars x3))))) (xs:=[]) rfl ⟨rfl,rfl⟩ ?_;exact(fun _ _ h=>h)
 refine AWp.skip ?_;repeat (first|refine xBlock_normal ?_|refine xThen_exit ?_|refine xBlock_exit ?_)
 obtain rfl:=Option.some.inj hE;refine retQ.normalF ((H.set c0_2 (some (.tok 2 a0.Fout.l.length))).set c0 (some (.cells (Z8.cg (some c0_2) a0)))) (xs:=[]) rfl ⟨rfl,rfl⟩ ?_;exact(fun _ _ h=>h)
def Z105_j2  (y3_l0:TDef):Option (TDef×Bool):=some ((TDef.mk (0:Int) ([]:Bs) (Sl.nil:Sl Bs) (Sl.nil:Sl TDir) (Sl.nil:Sl Z2) (Sl.nil:Sl Z5) (Sl.nil:Sl Z4)),false)
def Z105_l7 (a0:TDoc) (a1:Bs) :Nat->Nat->TDef->Option (TDef×Bool)
 | 0,_,_=>none
 | n7+1,s11_8,y9_l0=>bif (decide (((s11_8:Nat):Int)<((a0.FDefs.l.length:Nat):Int))) then((a0.FDefs.l[s11_8]?).bind fun x15=>bif ((x15.FName==a1)) then(some (x15,true)) else((Z105_l7 a0 a1 n7) (s11_8+1) y9_l0)) else(Z105_j2   y9_l0)
def Z105 (a0:TDoc) (a1:Bs):Option (TDef×Bool):=Z105_l7 a0 a1 (a0.FDefs.l.length+1) 0 TDef.zero
theorem Z105_walk {a0:TDoc}{a1:Bs}{r:TDef×Bool}(hE:Z105 a0 a1=some r) (H:Heap) :ACalls Tryz.prog 47 [.agg (TDoc.c a0),.d (.str a1)] H fun v h'=>v=.tup [.agg (TDef.c r.1),.d (.bool r.2)]/\h'=H:=by
 unfold Z105 at hE;refine ACalls.oW 22 [.cell 4 82,.tmp 5] Tryz.call47 Tryz.func47 ?_;refine seqR (S BX ?_);refine Sl ?_;refine S As (nil ?_);refine seqJ (TA 4 KeepsT.nil) (fun(z:TDef)=>[]) (fun z=>[TDef.c z]) (fun z=>H) (fun z=>Z105_j2 z=some r) ?_ ?_
 ·intro K2 hK2;refine seqR (S Fv (S Ld ?_));refine sLen (f:=TDef.c) (s:=a0.FDefs) (TK rfl) rfl rfl rfl rfl fun hL6=>?_;refine S Mv (nil ?_);refine block ?_;refine loopO (TA 1 (TA 4 (TA 9 (TA 10 KeepsT.nil)))) (fun(z:Nat×Nat×TDef)=>[(11,.a (.d (.int .i64 ((z.2.1:Nat):Int))))]) (fun z=>[TDef.c z.2.2]) (fun z=>H) (fun z=>z.1) (fun z=>Z105_l7 a0 a1 z.1 z.2.1 z.2.2=some r) ((a0.FDefs.l.length+1),0,TDef.zero) hE Weak.toA ?_
  rintro ⟨n7,s11_8,y9_l0⟩ hE K7 hK7;try dsimp only at hE
  cases n7 with
  | zero=>cases hE
  | succ n7 =>
    rw [Z105_l7] at hE;refine seqR (S BI (nil ?_));refine seqK fun K11 hK11=>?_;refine cE hE (fun hc12 hE=>?_) (fun hc12 hE=>?_)
    ·try dsimp only at hc12
     have hf12:=of_decide_eq_true hc12;refine sk hK11 ?_;clear hK11 K11;refine seqK fun K13 hK13=>?_;refine block ?_;refine seqR ?_;obtain⟨x15,gx15,hE⟩:=bO hE;refine S (ix TDef.c s11_8 gx15) (S Ld ?_);refine Sl ?_;refine Sf ?_;refine nil ?_;refine freezeA 7 _ rfl (KA 1 (KA 4 (KA 9 (KA 10 (KA 11 Keeps.nil))))) ?_;refine seqR (S Fv (S Ld (S Mv (S BS (nil ?_)))));refine cE hE (fun hc17 hE=>?_) (fun hc17 hE=>?_)
     ·refine seqR (S Ld ?_);refine Sf ?_;refine S As (nil ?_);exact rt hE
     refine sk hK13 ?_;clear hK13 K13;refine region ?_;refine SI ?_;refine S Mv (nil ?_);exact hK7 _ (n7,(s11_8+1),y9_l0) Weak.toA hE (Nat.lt_succ_self _)
    refine AWp.exit ?_;exact hK2 _ y9_l0 Weak.toA hE
 rintro y3_l0 hE;try dsimp only at hE
 unfold Z105_j2 at hE;refine seqR (S BU ?_);refine Sf ?_;refine S As (nil ?_);exact rt hE
def Z110 (a0:Bs):Option Bool:=some (((((a0==([73,110,116]:Bs)))||((a0==([83,116,114,105,110,103]:Bs))))||((a0==([66,111,111,108,101,97,110]:Bs))))||((a0==([73,68]:Bs))))
theorem Z110_walk {a0:Bs}{r:Bool}(hE:Z110 a0=some r) (H:Heap) :ACalls Tryz.prog 48 [.d (.str a0)] H fun v h'=>v=.a (.d (.bool r))/\h'=H:=by
 unfold Z110 at hE;refine ACalls.oW 17 [.tmp 2] Tryz.call48 Tryz.func48 ?_;refine seqR (S As (nil ?_));refine seqR (S Mv (S BS (S Mv (G0 Mv ?_))));refine G1 6 rfl BS ?_;refine S PO (S Mv (G0 Mv ?_));refine G1 10 rfl BS ?_;refine S PO (S Mv (G0 Mv ?_));refine G1 14 rfl BS ?_;refine S PO (S As (nil ?_));exact rt hE
def Z111 (a0:TDoc) (a1:Bs):Option Int:=(Z105 a0 a1).bind fun x3=>some x3.1.FKind
theorem Z111_walk {a0:TDoc}{a1:Bs}{r:Int}(hE:Z111 a0 a1=some r) (H:Heap) :ACalls Tryz.prog 87 [.agg (TDoc.c a0),.d (.str a1)] H fun v h'=>v=.a (.d (.int .i64 r))/\h'=H:=by
 unfold Z111 at hE;refine ACalls.oW 15 [.tmp 4] Tryz.call87 Tryz.func87 ?_;refine seqR (S BX (S As (nil ?_)));refine seqR (S Ld (S Mv ?_));obtain⟨x3,gx3,hE⟩:=bO hE;refine Sc rfl rfl (Z105_walk gx3) ?_;refine S Mv (S EX (S EX ?_));refine Sl ?_;refine Sf ?_;refine S As (nil ?_);refine freezeA 5 _ rfl Keeps.nil ?_;refine seqR (S Fv (S Ld (S As (nil ?_))));exact rt hE
def Z108 (a0:TDoc) (a1:Bs):Option Bool:=(Z110 a1).bind fun x3=>guardO (!x3) (Z111 a0 a1) (0:Int) fun x4=>some (x3||(decide (x4=(4:Int))))
theorem Z108_walk {a0:TDoc}{a1:Bs}{r:Bool}(hE:Z108 a0 a1=some r) (H:Heap) :ACalls Tryz.prog 86 [.agg (TDoc.c a0),.d (.str a1)] H fun v h'=>v=.a (.d (.bool r))/\h'=H:=by
 unfold Z108 at hE;refine ACalls.oW 13 [.tmp 4] Tryz.call86 Tryz.func86 ?_;refine seqR (S BX (S As (nil ?_)));refine seqR (S Mv ?_);obtain⟨x3,gx3,hE⟩:=bO hE;refine Sc rfl rfl (Z110_walk gx3) ?_;refine S Mv (G0 Ld (G0 Mv ?_));obtain⟨x4,gx4,hE⟩:=gO hE;refine Gc2 8 9 rfl rfl rfl rfl rfl rfl (fun hC=>Z111_walk (gx4 hC)) ?_;refine G1 10 rfl BI ?_;refine S PO (S As (nil ?_));exact rt hE
def Z107 (a0:TDoc) (a1:Bs):Option Bool:=(Z108 a0 a1).bind fun x3=>guardO (!x3) (Z111 a0 a1) (0:Int) fun x4=>some (x3||(decide (x4=(5:Int))))
theorem Z107_walk {a0:TDoc}{a1:Bs}{r:Bool}(hE:Z107 a0 a1=some r) (H:Heap) :ACalls Tryz.prog 49 [.agg (TDoc.c a0),.d (.str a1)] H fun v h'=>v=.a (.d (.bool r))/\h'=H:=by
 unfold Z107 at hE;refine ACalls.oW 14 [.tmp 4] Tryz.call49 Tryz.func49 ?_;refine seqR (S BX (S As (nil ?_)));refine seqR (S Ld (S Mv ?_));obtain⟨x3,gx3,hE⟩:=bO hE;refine Sc rfl rfl (Z108_walk gx3) ?_;refine S Mv (G0 Ld (G0 Mv ?_));obtain⟨x4,gx4,hE⟩:=gO hE;refine Gc2 9 10 rfl rfl rfl rfl rfl rfl (fun hC=>Z111_walk (gx4 hC)) ?_;refine G1 11 rfl BI ?_;refine S PO (S As (nil ?_));exact rt hE
def Z113 (a0:(Sl Bs)):Option (Sl Bs):=bif a0.nl then(some (Sl.nil:Sl Bs)) else((appC 16 (⟨false,[]⟩:Sl Bs) a0).bind fun x7=>some x7)
theorem Z113_walk {a0:Sl Bs}{w0:Option Nat}{r:Sl Bs}(hE:Z113 a0=some r) (H:Heap) :ACalls Tryz.prog 134 [.d (Sl.d 1 strE w0 a0)] H fun v h'=>v=.a (.d (Sl.d 1 strE none r))/\h'=H:=by
 unfold Z113 at hE;refine ACalls.oW 8 [.tmp 2] Tryz.call134 Tryz.func134 ?_;refine seqR ?_;refine s0 (assignNil (k':=1) rfl) rfl ?_;refine nil ?_;refine seqK fun K2 hK2=>?_;refine seqR (S Mv ?_);refine s0 (eqNil (TK rfl) rfl rfl) rfl ?_;refine nil ?_;refine cE hE (fun hc4 hE=>?_) (fun hc4 hE=>?_)
 ·refine seqR ?_;refine s0 (assignNil (k':=1) rfl) rfl ?_;refine nil ?_;exact rt hE
 refine sk hK2 ?_;clear hK2 K2;refine seqR ?_;refine s0 (buildSliceF (TK rfl) rfl (TK rfl) rfl rfl rfl rfl rfl rfl) rfl ?_;refine S Mv ?_;obtain⟨x7,gx7,hE⟩:=bO hE;refine s0 (appFM (f:=strE) (TK rfl) rfl (TK rfl) (TK rfl) ⟨_,rfl⟩ rfl rfl (by decide) rfl rfl rfl (by intro q h; cases h<;>decide) rfl rfl gx7) rfl ?_;refine S As (nil ?_);exact rt hE
def Z138_j3  (s3_4:(Sl Z7)):Option (Sl Z7):=some s3_4
def Z138_l8 (a0:(Sl Z7)) (k_rec_113:Z7->Option Z7):Nat->(Sl Z7)->Nat->Option (Sl Z7)
 | 0,_,_=>none
 | n8+1,s3_9,s8_10=>bif (decide (((s8_10:Nat):Int)<((a0.l.length:Nat):Int))) then((a0.l[s8_10]?).bind fun x16=>(k_rec_113 x16).bind fun x17=>(appC 80 s3_9 (⟨false,[x17]⟩:Sl Z7)).bind fun x18=>(Z138_l8 a0 k_rec_113 n8) x18 (s8_10+1)) else(Z138_j3   s3_9)
mutual
def value_Copy_n:Nat->Z7->Option Z7
 | 0,_=>none
 | n+1,a0=>((Z138_n n) a0.FItems).bind fun x3=>(Z113 a0.FKeys).bind fun x5=>some (Z7.mk a0.FKind a0.FInt a0.FText x3.nl x3.l x5)
def Z138_n:Nat->(Sl Z7)->Option (Sl Z7)
 | 0,_=>none
 | n+1,a0=>Z138_l8 a0 (value_Copy_n n) (a0.l.length+1) (Sl.nil:Sl Z7) 0
end
theorem value_Copy_step (n:Nat) (ih_113:∀{a0 r:Z7},value_Copy_n n a0=some r->∀(H:Heap),ACalls Tryz.prog 113 [.agg (Z7.c a0)] H fun v h'=>v=.a (.agg (Z7.c r))/\h'=H) (ih_133:∀{a0:Sl Z7}{w0:Option Nat}{r:Sl Z7},Z138_n n a0=some r->∀(H:Heap),ACalls Tryz.prog 133 [.d (Sl.d 5 Z7.c w0 a0)] H fun v h'=>v=.a (.d (Sl.d 5 Z7.c none r))/\h'=H):∀{a0 r:Z7},value_Copy_n (n+1) a0=some r->∀(H:Heap),ACalls Tryz.prog 113 [.agg (Z7.c a0)] H fun v h'=>v=.a (.agg (Z7.c r))/\h'=H:=by
 intro a0   r hE H ;rw [value_Copy_n] at hE;refine ACalls.oW 12 [.cell 2 44] Tryz.call113 Tryz.func113 ?_;refine seqR ?_;refine sL (boxL rfl (by repeat (first|exact Snoc.nil|apply Snoc.cons))) rfl ?_;refine Sl ?_;refine nil ?_;refine seqR (S FL ?_);refine AOps.relocal 0 (Z7.cu a0) rfl (fun j w cs hh hx=>by rw [<- Z7.cu_eq]; exact hx) ?_;refine S LL ?_;obtain⟨x3,gx3,hE⟩:=bO hE;refine Sc rfl rfl (ih_133 gx3) ?_
 refine S FL ?_;refine Sf ?_;refine AOps.relocal 0 (Z7.c (Z7.mk a0.FKind a0.FInt a0.FText x3.nl x3.l a0.FKeys)) rfl (fun j w cs hh hx=>by rw [Z7.cu_eq]; exact hx) ?_;refine nil ?_;refine seqR (S FL (S LL ?_));obtain⟨x5,gx5,hE⟩:=bO hE;refine Sc rfl rfl (Z113_walk gx5) ?_;refine S FL ?_;refine AOps.relocal 0 (Z7.cu (Z7.mk a0.FKind a0.FInt a0.FText x3.nl x3.l a0.FKeys)) rfl (fun j w cs hh hx=>by rw [<- Z7.cu_eq]; exact hx) ?_
 refine Sf ?_;refine AOps.relocal 0 (Z7.c (Z7.mk a0.FKind a0.FInt a0.FText x3.nl x3.l x5)) rfl (fun j w cs hh hx=>by rw [Z7.cu_eq]; exact hx) ?_;refine nil ?_;refine seqR (S LL ?_);refine Sf ?_;refine nil ?_;exact rt hE
theorem Z138_step (n:Nat) (ih_113:∀{a0 r:Z7},value_Copy_n n a0=some r->∀(H:Heap),ACalls Tryz.prog 113 [.agg (Z7.c a0)] H fun v h'=>v=.a (.agg (Z7.c r))/\h'=H) (ih_133:∀{a0:Sl Z7}{w0:Option Nat}{r:Sl Z7},Z138_n n a0=some r->∀(H:Heap),ACalls Tryz.prog 133 [.d (Sl.d 5 Z7.c w0 a0)] H fun v h'=>v=.a (.d (Sl.d 5 Z7.c none r))/\h'=H):∀{a0:Sl Z7}{w0:Option Nat}{r:Sl Z7},Z138_n (n+1) a0=some r->∀(H:Heap),ACalls Tryz.prog 133 [.d (Sl.d 5 Z7.c w0 a0)] H fun v h'=>v=.a (.d (Sl.d 5 Z7.c none r))/\h'=H:=by
 intro a0 w0  r hE H ;rw [Z138_n] at hE;refine ACalls.oW 19 [.tmp 2] Tryz.call133 Tryz.func133 ?_;refine AWp.tok 5 fun tk1 htk1=>?_;refine seqR ?_;refine s0 (assignNil (k':=5) rfl) rfl ?_;refine nil ?_;refine seqR (S As (nil ?_));refine AWp.nilTok 3 5 tk1 rfl hpG ?_;refine seqJH KeepsT.nil (fun(z:(Sl Z7))=>[(3,.a (.d (Sl.d 5 Z7.c (some tk1) z)))]) (fun z=>(H.set tk1 (some (.tok 5 z.l.length)))) (fun z=>Z138_j3 z=some r) ?_ ?_
 ·intro K3 hK3;refine seqR (S Mv ?_);refine sLen (f:=Z7.c) (s:=a0) (TK rfl) rfl rfl rfl rfl fun hL7=>?_;refine S Mv (nil ?_);refine block ?_;refine loopH (TA 6 (TA 7 KeepsT.nil)) (fun(z:Nat×(Sl Z7)×Nat)=>[(3,.a (.d (Sl.d 5 Z7.c (some tk1) z.2.1))),(8,.a (.d (.int .i64 ((z.2.2:Nat):Int))))]) (fun z=>(H.set tk1 (some (.tok 5 z.2.1.l.length)))) (fun z=>z.1) (fun z=>Z138_l8 a0 (value_Copy_n n) z.1 z.2.1 z.2.2=some r) ((a0.l.length+1),(Sl.nil:Sl Z7),0) hE Weak.toA ?_
  rintro ⟨n8,s3_9,s8_10⟩ hE K8 hK8;try dsimp only at hE
  cases n8 with
  | zero=>cases hE
  | succ n8 =>
    rw [Z138_l8] at hE;refine seqR (S BI (nil ?_));refine seqK fun K12 hK12=>?_;refine cE hE (fun hc13 hE=>?_) (fun hc13 hE=>?_)
    ·try dsimp only at hc13
     have hf13:=of_decide_eq_true hc13;refine sk hK12 ?_;clear hK12 K12;refine seqK fun K14 hK14=>?_;refine block ?_;refine seqR ?_;obtain⟨x16,gx16,hE⟩:=bO hE;refine S (ix Z7.c s8_10 gx16) (S Ld ?_);refine Sl ?_;refine Sf ?_;refine nil ?_;refine freezeA 5 _ rfl (KA 3 (KA 6 (KA 7 (KA 8 Keeps.nil)))) ?_;refine region ?_;refine S Mv (S Ld ?_);obtain⟨x17,gx17,hE⟩:=bO hE;refine Sc rfl rfl (ih_113 gx17) ?_
     refine S BV ?_;obtain⟨x18,gx18,hE⟩:=bO hE;refine SH (am Z7.c (TK rfl) rfl (TK rfl) (TK rfl) gx18) ?_;refine hq (H.set tk1 (some (.tok 5 x18.l.length))) ?_;refine S As (nil ?_);refine hK14 _ ?_;clear hK14 K14;refine region ?_;refine SI ?_;refine S Mv (nil ?_);exact hK8 _ (n8,x18,(s8_10+1)) Weak.toA hE (Nat.lt_succ_self _)
    refine AWp.exit ?_;exact hK3 _ s3_9 Weak.toA hE
 rintro s3_4 hE;try dsimp only at hE
 unfold Z138_j3 at hE;refine seqR (S Mv (S As (nil ?_)));refine AWp.dropTok 2 rfl ?_;refine AWp.ret ?_;repeat (first|refine xBlock_ret ?_|refine xThen_ret ?_)
 obtain rfl:=Option.some.inj hE;refine retQ.retF H rfl ⟨rfl,rfl⟩ ?_
 first|exact Heap.sub_set htk1|(simp only [Heap.set_set]; exact Heap.sub_set htk1)
theorem value_Copy_all:∀(n:Nat),(∀{a0 r:Z7},value_Copy_n n a0=some r->∀(H:Heap),ACalls Tryz.prog 113 [.agg (Z7.c a0)] H fun v h'=>v=.a (.agg (Z7.c r))/\h'=H)/\(∀{a0:Sl Z7}{w0:Option Nat}{r:Sl Z7},Z138_n n a0=some r->∀(H:Heap),ACalls Tryz.prog 133 [.d (Sl.d 5 Z7.c w0 a0)] H fun v h'=>v=.a (.d (Sl.d 5 Z7.c none r))/\h'=H)
 | 0=>⟨fun hE=>by first|cases hE|(rw [value_Copy_n] at hE; cases hE),fun hE=>by first|cases hE|(rw [Z138_n] at hE; cases hE)⟩
 | n+1=>⟨value_Copy_step n (value_Copy_all n).1 (value_Copy_all n).2,Z138_step n (value_Copy_all n).1 (value_Copy_all n).2⟩
def value_Copy (a0:Z7):Option Z7:=value_Copy_n F0 a0
theorem value_Copy_walk {a0 r:Z7}(hE:value_Copy a0=some r) (H:Heap) :ACalls Tryz.prog 113 [.agg (Z7.c a0)] H fun v h'=>v=.a (.agg (Z7.c r))/\h'=H:=(value_Copy_all F0).1 hE H 
def Z136 (a0:Z7) (a1:Bs):Option (Z7×Bool):=(Z121 a0.FKeys a1).bind fun x3=>bif (((!decide (a0.FKind=(6:Int)))||(decide (x3<(0:Int))))||(decide (((a0.FItems.l.length:Nat):Int)<=x3))) then(some ((Z7.mk (0:Int) (0:Int) ([]:Bs) true ([]) (Sl.nil:Sl Bs)),false)) else((idxC a0.FItems.l x3).bind fun x9=>(value_Copy x9).bind fun x10=>some (x10,true))
theorem Z136_walk {a0:Z7}{a1:Bs}{r:Z7×Bool}(hE:Z136 a0 a1=some r) (H:Heap) :ACalls Tryz.prog 112 [.agg (Z7.c a0),.d (.str a1)] H fun v h'=>v=.tup [.agg (Z7.c r.1),.d (.bool r.2)]/\h'=H:=by
 unfold Z136 at hE;refine ACalls.oW 32 [.cell 4 44,.tmp 5] Tryz.call112 Tryz.func112 ?_;refine seqR (S BX ?_);refine Sl ?_;refine S As (nil ?_);refine seqR (S Fv (S Ld (S Mv ?_)));obtain⟨x3,gx3,hE⟩:=bO hE;refine Sc rfl rfl (Z121_walk gx3) ?_;refine S As (nil ?_);refine seqK fun K4 hK4=>?_;refine seqR (S Fv (S Ld (S BI (S Mv (G0 Mv ?_)))));refine G1 15 rfl BI ?_;refine S PO (S Mv (G0 Mv (G0 Fv ?_)))
 refine gC rfl rfl (fun hC=>ungdA (k:=20) rfl (loadV (TK rfl) rfl rfl (congrArg (fun x=>some (A.d x)) (Z7.FItemsD_eq _)))) rfl ?_;refine gC rfl rfl (fun hC=>ungdA (k:=21) rfl (lenM' (f:=Z7.c) (s:=a0.FItems) (TK rfl) rfl rfl rfl)) rfl ?_;refine G2 19 22 rfl rfl BI ?_;refine S PO (nil ?_);refine cE hE (fun hc6 hE=>?_) (fun hc6 hE=>?_)
 ·refine seqR (S BU ?_);refine Sf ?_;refine S As (nil ?_);exact rt hE
 refine sk hK4 ?_;clear hK4 K4;refine seqR (S Fv ?_);refine s0 (loadV (TK rfl) rfl rfl (congrArg (fun x=>some (A.d x)) (Z7.FItemsD_eq _))) rfl ?_;refine S Mv ?_;obtain⟨x9,gx9,hE⟩:=bO hE;refine s0 (idxM (f:=Z7.c) (TK rfl) rfl (TK rfl) rfl rfl rfl gx9) rfl ?_;refine S Ld ?_;obtain⟨x10,gx10,hE⟩:=bO hE;refine Sc rfl rfl (value_Copy_walk gx10) ?_;refine Sf ?_;refine S As (nil ?_);exact rt hE
def Z13 (a0:Z0) (a1:Z7):Option Bool:=bif ((!decide (a1.FKind=(7:Int)))||(!a0.Fliteral)) then(some false) else((Z136 a0.Fvars a1.FText).bind fun x7=>some (!x7.2))
theorem Z13_walk {a0:Z0}{a1:Z7}{c0:Nat}{r:Bool}(hE:Z13 a0 a1=some r) (H:Heap) (hc0:H c0=some (.cells (Z0.c a0))):ACalls Tryz.prog 88 [.d (.ptr c0 0),.agg (Z7.c a1)] H fun v h'=>v=.a (.d (.bool r))/\h'=H:=by
 unfold Z13 at hE;refine ACalls.oW 29 [.tmp 4] Tryz.call88 Tryz.func88 ?_;refine seqR (S BX (S As (nil ?_)));refine seqK fun K2 hK2=>?_;refine seqR (S Fv (S Ld (S BI (S Mv (G0 Mv ?_)))));refine G1 11 rfl NP ?_;refine gC rfl rfl (fun hC=>ungdA (k:=12) rfl (fieldP (TK rfl) rfl rfl (TK rfl) rfl rfl)) rfl ?_;refine gC rfl rfl (fun hC=>ungdA (k:=13) rfl (loadP (TK rfl) rfl rfl hpG rfl)) rfl ?_;refine G1 14 rfl NB ?_
 refine S PO (nil ?_);refine cE hE (fun hc4 hE=>?_) (fun hc4 hE=>?_)
 ·refine seqR (S As (nil ?_));exact rt hE
 refine sk hK2 ?_;clear hK2 K2;refine AWp.seqD (Sd Mv (Sd NP ?_));refine DOps.s0 (fieldP (TK rfl) rfl rfl (TK rfl) rfl rfl) rfl ?_;refine DOps.s0 (loadP (TK rfl) rfl rfl hpG rfl) rfl ?_;refine Sd Fv (Sd Ld ?_);obtain⟨x7,gx7,hE⟩:=bO hE;refine Scd rfl rfl (Z136_walk gx7) ?_;refine Sd Mv (Sd EX (Sd EX ?_));refine DOps.sB (TK rfl) rfl rfl ?_ (by repeat (first|exact Snoc.nil|apply Snoc.cons));refine DOps.sLn (storeLFA (TK rfl) rfl rfl rfl rfl rfl) ?_
 refine Sd As ?_;refine DOps.nil (by decide +kernel) ?_;refine freezeA 5 _ rfl (KA 6 Keeps.nil) ?_;refine seqR (S Mv (S NB (S As (nil ?_))));exact rt hE
def Z17 (a0:Z7) (a1:Int):Option (Z7×Int):=bif (!decide (a1=(0:Int))) then(some ((Z7.mk (0:Int) (0:Int) ([]:Bs) true ([]) (Sl.nil:Sl Bs)),a1)) else((value_Copy a0).bind fun x7=>some (x7,(0:Int)))
theorem Z17_walk {a0:Z7}{a1:Int}{r:Z7×Int}(hE:Z17 a0 a1=some r) (H:Heap) :ACalls Tryz.prog 89 [.agg (Z7.c a0),.d (.int .i64 a1)] H fun v h'=>v=.tup [.agg (Z7.c r.1),.d (.int .i64 r.2)]/\h'=H:=by
 unfold Z17 at hE;refine ACalls.oW 12 [.cell 4 44,.tmp 5] Tryz.call89 Tryz.func89 ?_;refine seqR (S BX ?_);refine Sl ?_;refine S As (nil ?_);refine seqK fun K2 hK2=>?_;refine seqR (S Mv (S BI (nil ?_)));refine cE hE (fun hc4 hE=>?_) (fun hc4 hE=>?_)
 ·refine seqR (S BU (S Mv ?_));refine Sf ?_;refine S As (nil ?_);exact rt hE
 refine sk hK2 ?_;clear hK2 K2;refine seqR (S Ld ?_);obtain⟨x7,gx7,hE⟩:=bO hE;refine Sc rfl rfl (value_Copy_walk gx7) ?_;refine Sf ?_;refine S As (nil ?_);exact rt hE
end Go.Proofs

namespace Go.Proofs
open Go Go.Ab
open AOps Cert AWp Keeps KeepsT
variable {lou:Lou}
def Z10 (a0:Z0) (a1:Int):Option (Int×Z0):=bif (decide ((24:Int)<a1)) then(some ((5:Int),a0)) else((addC a0.Fnodes (1:Int)).bind fun x7=>bif (decide ((4096:Int)<x7)) then(some ((4:Int),(Z0.mk a0.Fd a0.Fvars a0.Fliteral x7))) else(some ((0:Int),(Z0.mk a0.Fd a0.Fvars a0.Fliteral x7))))
theorem Z10_walk {a0:Z0}{a1:Int}{c0:Nat}{r:Int×Z0}(hE:Z10 a0 a1=some r) (H:Heap) (hc0:H c0=some (.cells (Z0.c a0))):ACalls Tryz.prog 115 [.d (.ptr c0 0),.d (.int .i64 a1)] H fun v h'=>v=.a (.d (.int .i64 r.1))/\h'=(H.set c0 (some (.cells (Z0.c r.2)))):=by
 unfold Z10 at hE;refine ACalls.oW 19 [.tmp 4] Tryz.call115 Tryz.func115 ?_;refine AWp.heqA (h':=(H.set c0 (some (.cells (Z0.c a0))))) (by funext n_; simp only [Heap.set]; (repeat' split)<;>simp_all) ?_;refine seqR (S As (nil ?_));refine seqK fun K2 hK2=>?_;refine seqR (S Mv (S BI (nil ?_)));refine cE hE (fun hc4 hE=>?_) (fun hc4 hE=>?_)
 ·refine seqR (S As (nil ?_));exact rt hE
 refine sk hK2 ?_;clear hK2 K2;refine seqR (S Mv (S NP ?_));refine s0 (fieldP (TK rfl) rfl rfl (TK rfl) rfl rfl) rfl ?_;refine s0 (loadP (TK rfl) rfl rfl hpG rfl) rfl ?_;obtain⟨x7,gx7,hE⟩:=bO hE;refine s0 (addM rfl rfl gx7) rfl ?_;refine S NP ?_;refine s0 (fieldP (TK rfl) rfl rfl (TK rfl) rfl rfl) rfl ?_;refine sHn (storeP1 (TK rfl) rfl rfl hpG rfl (by repeat (first|exact SetAt.zero|apply SetAt.succ))) rfl rfl ?_
 refine hq (H.set c0 (some (.cells (Z0.c (Z0.mk a0.Fd a0.Fvars a0.Fliteral x7))))) ?_;refine nil ?_;refine seqK fun K8 hK8=>?_;refine seqR (S Mv (S NP ?_));refine s0 (fieldP (TK rfl) rfl rfl (TK rfl) rfl rfl) rfl ?_;refine s0 (loadP (TK rfl) rfl rfl hpG rfl) rfl ?_;refine S BI (nil ?_);refine cE hE (fun hc10 hE=>?_) (fun hc10 hE=>?_)
 ·refine seqR (S As (nil ?_));exact rt hE
 refine sk hK8 ?_;clear hK8 K8;refine seqR (S As (nil ?_));exact rt hE
def Z16_j8  (y9_c0:Z0):Option (Int×Z0):=some ((0:Int),y9_c0)
def Z16_l13 (a1:Z7) (a2:Int) (k_rec_114:Z0->Z7->Int->Option (Int×Z0)):Nat->Nat->Z0->Option (Int×Z0)
 | 0,_,_=>none
 | n13+1,s20_14,y15_c0=>bif (decide (((s20_14:Nat):Int)<((a1.FItems.l.length:Nat):Int))) then((a1.FItems.l[s20_14]?).bind fun x21=>(addC a2 (1:Int)).bind fun x23=>(k_rec_114 y15_c0 x21 x23).bind fun x24=>bif (!decide (x24.1=(0:Int))) then(some (x24.1,x24.2)) else((Z16_l13 a1 a2 k_rec_114 n13) (s20_14+1) x24.2)) else(Z16_j8   y15_c0)
def Z16_n:Nat->Z0->Z7->Int->Option (Int×Z0)
 | 0,_,_,_=>none
 | n+1,a0,a1,a2=>(Z10 a0 a2).bind fun x4=>bif (!decide (x4.1=(0:Int))) then(some (x4.1,x4.2)) else(Z16_l13 a1 a2 (Z16_n n) (a1.FItems.l.length+1) 0 x4.2)
theorem Z16_step (n:Nat) (ih_114:∀{a0:Z0}{a1:Z7}{a2:Int}{c0:Nat}{r:Int×Z0},Z16_n n a0 a1 a2=some r->∀(H:Heap) (hc0:H c0=some (.cells (Z0.c a0))),ACalls Tryz.prog 114 [.d (.ptr c0 0),.agg (Z7.c a1),.d (.int .i64 a2)] H fun v h'=>v=.a (.d (.int .i64 r.1))/\h'=(H.set c0 (some (.cells (Z0.c r.2))))):∀{a0:Z0}{a1:Z7}{a2:Int}{c0:Nat}{r:Int×Z0},Z16_n (n+1) a0 a1 a2=some r->∀(H:Heap) (hc0:H c0=some (.cells (Z0.c a0))),ACalls Tryz.prog 114 [.d (.ptr c0 0),.agg (Z7.c a1),.d (.int .i64 a2)] H fun v h'=>v=.a (.d (.int .i64 r.1))/\h'=(H.set c0 (some (.cells (Z0.c r.2)))):=by
 intro a0 a1 a2  c0 r hE H hc0;rw [Z16_n] at hE;refine ACalls.oW 33 [.tmp 6] Tryz.call114 Tryz.func114 ?_;refine AWp.heqA (h':=(H.set c0 (some (.cells (Z0.c a0))))) (by funext n_; simp only [Heap.set]; (repeat' split)<;>simp_all) ?_;refine seqR (S BX (S As (nil ?_)));refine seqK fun K2 hK2=>?_;refine seqR (S Mv (S Mv ?_));obtain⟨x4,gx4,hE⟩:=bO hE;refine sH (callH rfl rfl (Z10_walk gx4 _ hpG)) rfl ?_
 refine hq (H.set c0 (some (.cells (Z0.c x4.2)))) ?_;refine S As (nil ?_);refine seqR (S Mv (S BI (nil ?_)));refine cE hE (fun hc6 hE=>?_) (fun hc6 hE=>?_)
 ·refine seqR (S Mv (S As (nil ?_)));exact rt hE
 refine sk hK2 ?_;clear hK2 K2;refine seqJH KeepsT.nil (fun(z:Z0)=>[]) (fun z=>(H.set c0 (some (.cells (Z0.c z))))) (fun z=>Z16_j8 z=some r) ?_ ?_
 ·intro K8 hK8;refine seqR (S Fv ?_);refine s0 (loadV (TK rfl) rfl rfl (congrArg (fun x=>some (A.d x)) (Z7.FItemsD_eq _))) rfl ?_;refine sLen (f:=Z7.c) (s:=a1.FItems) (TK rfl) rfl rfl rfl rfl fun hL12=>?_;refine S Mv (nil ?_);refine block ?_;refine loopH (TA 0 (TA 2 (TA 18 (TA 19 KeepsT.nil)))) (fun(z:Nat×Nat×Z0)=>[(20,.a (.d (.int .i64 ((z.2.1:Nat):Int))))]) (fun z=>(H.set c0 (some (.cells (Z0.c z.2.2))))) (fun z=>z.1) (fun z=>Z16_l13 a1 a2 (Z16_n n) z.1 z.2.1 z.2.2=some r) ((a1.FItems.l.length+1),0,x4.2) hE Weak.toA ?_
  rintro ⟨n13,s20_14,y15_c0⟩ hE K13 hK13;try dsimp only at hE
  cases n13 with
  | zero=>cases hE
  | succ n13 =>
    rw [Z16_l13] at hE;refine seqR (S BI (nil ?_));refine seqK fun K17 hK17=>?_;refine cE hE (fun hc18 hE=>?_) (fun hc18 hE=>?_)
    ·try dsimp only at hc18
     have hf18:=of_decide_eq_true hc18;refine sk hK17 ?_;clear hK17 K17;refine seqK fun K19 hK19=>?_;refine block ?_;refine seqR ?_;obtain⟨x21,gx21,hE⟩:=bO hE;refine S (ix Z7.c s20_14 gx21) (S Ld ?_);refine Sl ?_;refine Sf ?_;refine nil ?_;refine freezeA 9 _ rfl (KA 0 (KA 2 (KA 18 (KA 19 (KA 20 Keeps.nil))))) ?_;refine seqR (S Mv (S Ld (S Mv ?_)));obtain⟨x23,gx23,hE⟩:=bO hE;refine s0 (addM rfl rfl gx23) rfl ?_
     obtain⟨x24,gx24,hE⟩:=bO hE;refine sH (callH rfl rfl (ih_114 gx24 _ hpG)) rfl ?_;refine hq (H.set c0 (some (.cells (Z0.c x24.2)))) ?_;refine S As (nil ?_);refine seqR (S Mv (S BI (nil ?_)));refine cE hE (fun hc26 hE=>?_) (fun hc26 hE=>?_)
     ·refine seqR (S Mv (S As (nil ?_)));exact rt hE
     refine sk hK19 ?_;clear hK19 K19;refine region ?_;refine SI ?_;refine S Mv (nil ?_);exact hK13 _ (n13,(s20_14+1),x24.2) Weak.toA hE (Nat.lt_succ_self _)
    refine AWp.exit ?_;exact hK8 _ y15_c0 Weak.toA hE
 rintro y9_c0 hE;try dsimp only at hE
 unfold Z16_j8 at hE;refine seqR (S As (nil ?_));exact rt hE
theorem Z16_all:∀(n:Nat),(∀{a0:Z0}{a1:Z7}{a2:Int}{c0:Nat}{r:Int×Z0},Z16_n n a0 a1 a2=some r->∀(H:Heap) (hc0:H c0=some (.cells (Z0.c a0))),ACalls Tryz.prog 114 [.d (.ptr c0 0),.agg (Z7.c a1),.d (.int .i64 a2)] H fun v h'=>v=.a (.d (.int .i64 r.1))/\h'=(H.set c0 (some (.cells (Z0.c r.2)))))
 | 0=>fun hE=>by first|cases hE|(rw [Z16_n] at hE; cases hE)
 | n+1=>Z16_step n (Z16_all n)
def Z16 (a0:Z0) (a1:Z7) (a2:Int):Option (Int×Z0):=Z16_n F0 a0 a1 a2
theorem Z16_walk {a0:Z0}{a1:Z7}{a2:Int}{c0:Nat}{r:Int×Z0}(hE:Z16 a0 a1 a2=some r) (H:Heap) (hc0:H c0=some (.cells (Z0.c a0))):ACalls Tryz.prog 114 [.d (.ptr c0 0),.agg (Z7.c a1),.d (.int .i64 a2)] H fun v h'=>v=.a (.d (.int .i64 r.1))/\h'=(H.set c0 (some (.cells (Z0.c r.2)))):=(Z16_all F0) hE H hc0
def Z127 (a0:TRef):Option Bool:=guardO ((decide ((0:Int)<((a0.FWraps.l.length:Nat):Int)))) (a0.FWraps.l[0]?) (0:Int) fun x4=>some ((decide ((0:Int)<((a0.FWraps.l.length:Nat):Int)))&&(decide (x4=(1:Int))))
theorem Z127_walk {a0:TRef}{r:Bool}(hE:Z127 a0=some r) (H:Heap) :ACalls Tryz.prog 116 [.agg (TRef.c a0)] H fun v h'=>v=.a (.d (.bool r))/\h'=H:=by
 unfold Z127 at hE;refine ACalls.oW 14 [.tmp 2] Tryz.call116 Tryz.func116 ?_;refine seqR (S BX (S As (nil ?_)));refine seqR (S Fv (S Ld ?_));refine sLen (f:=(intE .i64)) (s:=a0.FWraps) (TK rfl) rfl rfl rfl rfl fun hL3=>?_;refine S BI (S Mv (G0 Fv ?_));refine G1 8 rfl Ld ?_;obtain⟨x4,gx4,hE⟩:=gO hE;refine gC rfl rfl (fun hC=>ungdA (k:=9) rfl (idxMn (f:=(intE .i64)) (n:=0) (TK rfl) rfl (TK rfl) rfl rfl rfl (gx4 hC))) rfl ?_
 refine G1 10 rfl Ld ?_;refine G1 11 rfl BI ?_;refine S PA (S As (nil ?_));exact rt hE
def Z112 (a0:(Sl Int)):Option (Sl Int):=bif a0.nl then(some (Sl.nil:Sl Int)) else((appC 8 (⟨false,[]⟩:Sl Int) a0).bind fun x7=>some x7)
theorem Z112_walk {a0:Sl Int}{w0:Option Nat}{r:Sl Int}(hE:Z112 a0=some r) (H:Heap) :ACalls Tryz.prog 122 [.d (Sl.d 1 (intE .i64) w0 a0)] H fun v h'=>v=.a (.d (Sl.d 1 (intE .i64) none r))/\h'=H:=by
 unfold Z112 at hE;refine ACalls.oW 8 [.tmp 2] Tryz.call122 Tryz.func122 ?_;refine seqR ?_;refine s0 (assignNil (k':=1) rfl) rfl ?_;refine nil ?_;refine seqK fun K2 hK2=>?_;refine seqR (S Mv ?_);refine s0 (eqNil (TK rfl) rfl rfl) rfl ?_;refine nil ?_;refine cE hE (fun hc4 hE=>?_) (fun hc4 hE=>?_)
 ·refine seqR ?_;refine s0 (assignNil (k':=1) rfl) rfl ?_;refine nil ?_;exact rt hE
 refine sk hK2 ?_;clear hK2 K2;refine seqR ?_;refine s0 (buildSliceF (TK rfl) rfl (TK rfl) rfl rfl rfl rfl rfl rfl) rfl ?_;refine S Mv ?_;obtain⟨x7,gx7,hE⟩:=bO hE;refine s0 (appFM (f:=(intE .i64)) (TK rfl) rfl (TK rfl) (TK rfl) ⟨_,rfl⟩ rfl rfl (by decide) rfl rfl rfl (by intro q h; cases h<;>decide) rfl rfl gx7) rfl ?_;refine S As (nil ?_);exact rt hE
theorem Z112_arr {a0:Sl Int}{w0:Option Nat}{ar0:Nat}{r:Sl Int}(hE:Z112 a0=some r) (H:Heap) (har0:H ar0=some (.arr 1 [])) :ACalls Tryz.prog 122 [.d (Sl.d 1 (intE .i64) w0 a0)] H fun v h'=>v=.a (.d (.arr 1 ar0 r.nl r.l.length))/\h'=H.set ar0 (some (.arr 1 (r.l.map (intE .i64)))):=by
 unfold Z112 at hE;refine ACalls.oW 8 [.tmp 2] Tryz.call122 Tryz.func122 ?_;refine AWp.heqA (h':=(H.set ar0 (some (.arr 1 [])))) (by funext n_; simp only [Heap.set]; (repeat' split)<;>simp_all) ?_;refine seqR ?_;refine s0 (assignNil (k':=1) rfl) rfl ?_;refine AOps.nilR 2 1 ar0 rfl hpG ?_;refine nil ?_;refine seqK fun K2 hK2=>?_;refine seqR (S Mv ?_);refine s0 (eqNil (TK rfl) rfl rfl) rfl ?_;refine nil ?_
 refine cE hE (fun hc4 hE=>?_) (fun hc4 hE=>?_)
 ·refine seqR ?_;refine s0 (assignNil (k':=1) rfl) rfl ?_;refine AOps.nilR 2 1 ar0 rfl hpG ?_;refine nil ?_;exact rt hE
 refine sk hK2 ?_;clear hK2 K2;refine seqR ?_;refine s0 (buildSliceF (TK rfl) rfl (TK rfl) rfl rfl rfl rfl rfl rfl) rfl ?_;refine AOps.fullR 5 1 ar0 rfl hpG ?_;refine S Mv ?_;obtain⟨x7,gx7,hE⟩:=bO hE;refine sH (appR (f:=(intE .i64)) (s:=(⟨false,[]⟩:Sl Int)) (TK rfl) rfl (TK rfl) (TK rfl) ⟨_,rfl⟩ rfl rfl rfl rfl rfl rfl hpG (by first|rfl|simp [Sl.setL,Sl.nil,sortL_len]) rfl gx7) rfl ?_;refine hq (H.set ar0 (some (.arr 1 (x7.l.map (intE .i64))))) ?_
 refine S As (nil ?_);exact rt hE
def Z130_j3 (a0:TRef)  (s3_4:(Sl Int)):Option TRef:=(Z112 s3_4).bind fun x6=>some (TRef.mk a0.FName x6)
def Z130 (a0:TRef):Option TRef:=(Z127 a0).bind fun x8=>bif x8 then((partC a0.FWraps (some (1:Int)) none).bind fun x10=>Z130_j3 a0  x10) else(Z130_j3 a0  a0.FWraps)
theorem Z130_walk {a0 r:TRef}(hE:Z130 a0=some r) (H:Heap) :ACalls Tryz.prog 136 [.agg (TRef.c a0)] H fun v h'=>v=.a (.agg (TRef.c r))/\h'=H:=by
 unfold Z130 at hE;refine ACalls.oW 15 [.cell 2 41] Tryz.call136 Tryz.func136 ?_;refine seqR (S BX ?_);refine Sl ?_;refine nil ?_;refine seqR (S Fv (S Ld (S As (nil ?_))));refine seqJH (TA 1 (TA 2 KeepsT.nil)) (fun(z:(Sl Int))=>[(3,.a (.d (Sl.d 1 (intE .i64) none z)))]) (fun z=>H) (fun z=>Z130_j3 a0 z=some r) ?_ ?_
 ·intro K3 hK3;refine seqR (S Ld ?_);obtain⟨x8,gx8,hE⟩:=bO hE;refine Sc rfl rfl (Z127_walk gx8) ?_;refine nil ?_;refine cE hE (fun hc9 hE=>?_) (fun hc9 hE=>?_)
  ·refine region ?_;refine S Mv ?_;obtain⟨x10,gx10,hE⟩:=bO hE;refine s0 (partM (f:=(intE .i64)) (l:=(some (1:Int))) (r:=none) (TK rfl) rfl (TK rfl) rfl rfl rfl trivial gx10) rfl ?_;refine S As (nil ?_);exact hK3 _ x10 Weak.toA hE
  refine AWp.skip ?_;exact hK3 _ a0.FWraps Weak.toA hE
 rintro s3_4 hE;try dsimp only at hE
 unfold Z130_j3 at hE;refine AWp.seqD (Sd Fv (Sd Ld (Sd Mv ?_)));obtain⟨x6,gx6,hE⟩:=bO hE;refine Scd rfl rfl (Z112_walk gx6) ?_;refine Sd BU ?_;refine DOps.sLn (storeLFA (TK rfl) rfl rfl rfl rfl rfl) ?_;refine DOps.nil (by decide +kernel) ?_;exact rt hE
def Z126 (a0:TRef):Option Bool:=(Z130 a0).bind fun x3=>guardO ((decide ((0:Int)<((x3.FWraps.l.length:Nat):Int)))) (x3.FWraps.l[0]?) (0:Int) fun x6=>some ((decide ((0:Int)<((x3.FWraps.l.length:Nat):Int)))&&(decide (x6=(2:Int))))
theorem Z126_walk {a0:TRef}{r:Bool}(hE:Z126 a0=some r) (H:Heap) :ACalls Tryz.prog 135 [.agg (TRef.c a0)] H fun v h'=>v=.a (.d (.bool r))/\h'=H:=by
 unfold Z126 at hE;refine ACalls.oW 16 [.tmp 2] Tryz.call135 Tryz.func135 ?_;refine seqR ?_;refine sL (boxL rfl (by repeat (first|exact Snoc.nil|apply Snoc.cons))) rfl ?_;refine S As (nil ?_);refine seqR (S LL ?_);obtain⟨x3,gx3,hE⟩:=bO hE;refine Sc rfl rfl (Z130_walk gx3) ?_;refine Sf ?_;refine nil ?_;refine seqR (S FL (S LL ?_));refine sLen (f:=(intE .i64)) (s:=x3.FWraps) (TK rfl) rfl rfl rfl rfl fun hL5=>?_
 refine S BI (S Mv (G0 FL ?_));refine gC rfl rfl (fun hC=>ungdLA (k:=10) rfl (loadL (TK rfl) rfl rfl rfl rfl)) rfl ?_;obtain⟨x6,gx6,hE⟩:=gO hE;refine gC rfl rfl (fun hC=>ungdA (k:=11) rfl (idxMn (f:=(intE .i64)) (n:=0) (TK rfl) rfl (TK rfl) rfl rfl rfl (gx6 hC))) rfl ?_;refine G1 12 rfl Ld ?_;refine G1 13 rfl BI ?_;refine S PA (S As (nil ?_));exact rt hE
def Z125 (a0:TRef):Option (TRef×Bool):=(Z126 a0).bind fun x4=>bif (!x4) then(some ((TRef.mk ([]:Bs) (Sl.nil:Sl Int)),false)) else((Z130 a0).bind fun x8=>(partC x8.FWraps (some (1:Int)) none).bind fun x10=>some ((TRef.mk x8.FName x10),true))
theorem Z125_walk {a0:TRef}{r:TRef×Bool}(hE:Z125 a0=some r) (H:Heap) :ACalls Tryz.prog 117 [.agg (TRef.c a0)] H fun v h'=>v=.tup [.agg (TRef.c r.1),.d (.bool r.2)]/\h'=H:=by
 unfold Z125 at hE;refine ACalls.oW 15 [.cell 2 41,.tmp 3] Tryz.call117 Tryz.func117 ?_;refine seqR ?_;refine sL (boxL rfl (by repeat (first|exact Snoc.nil|apply Snoc.cons))) rfl ?_;refine Sl ?_;refine S As (nil ?_);refine seqK fun K2 hK2=>?_;refine seqR (S LL ?_);obtain⟨x4,gx4,hE⟩:=bO hE;refine Sc rfl rfl (Z126_walk gx4) ?_;refine S NB (nil ?_);refine cE hE (fun hc5 hE=>?_) (fun hc5 hE=>?_)
 ·refine seqR (S BU ?_);refine Sf ?_;refine S As (nil ?_);exact rt hE
 refine sk hK2 ?_;clear hK2 K2;refine seqR (S LL ?_);obtain⟨x8,gx8,hE⟩:=bO hE;refine Sc rfl rfl (Z130_walk gx8) ?_;refine Sf ?_;refine nil ?_;refine seqR (S FL (S LL ?_));obtain⟨x10,gx10,hE⟩:=bO hE;refine s0 (partM (f:=(intE .i64)) (l:=(some (1:Int))) (r:=none) (TK rfl) rfl (TK rfl) rfl rfl rfl trivial gx10) rfl ?_;refine S FL ?_;refine Sf ?_;refine nil ?_;refine seqR (S LL ?_);refine Sf ?_;refine S As (nil ?_)
 exact rt hE
def Z106_j2  (y3_l0:Z4):Option (Z4×Bool):=some ((Z4.mk ([]:Bs) TRef.zero false Z7.zero (Sl.nil:Sl TDir)),false)
def Z106_l7 (a0:(Sl Z4)) (a1:Bs) :Nat->Nat->Z4->Option (Z4×Bool)
 | 0,_,_=>none
 | n7+1,s10_8,y9_l0=>bif (decide (((s10_8:Nat):Int)<((a0.l.length:Nat):Int))) then((a0.l[s10_8]?).bind fun x15=>bif ((x15.FName==a1)) then(some (x15,true)) else((Z106_l7 a0 a1 n7) (s10_8+1) y9_l0)) else(Z106_j2   y9_l0)
def Z106 (a0:(Sl Z4)) (a1:Bs):Option (Z4×Bool):=Z106_l7 a0 a1 (a0.l.length+1) 0 Z4.zero
theorem Z106_walk {a0:Sl Z4}{a1:Bs}{w0:Option Nat}{r:Z4×Bool}(hE:Z106 a0 a1=some r) (H:Heap) :ACalls Tryz.prog 96 [.d (Sl.d 10 Z4.c w0 a0),.d (.str a1)] H fun v h'=>v=.tup [.agg (Z4.c r.1),.d (.bool r.2)]/\h'=H:=by
 unfold Z106 at hE;refine ACalls.oW 21 [.cell 4 75,.tmp 5] Tryz.call96 Tryz.func96 ?_;refine seqR ?_;refine Sl ?_;refine S As (nil ?_);refine seqJ (TA 4 KeepsT.nil) (fun(z:Z4)=>[]) (fun z=>[Z4.c z]) (fun z=>H) (fun z=>Z106_j2 z=some r) ?_ ?_
 ·intro K2 hK2;refine seqR (S Mv ?_);refine sLen (f:=Z4.c) (s:=a0) (TK rfl) rfl rfl rfl rfl fun hL6=>?_;refine S Mv (nil ?_);refine block ?_;refine loopO (TA 1 (TA 4 (TA 8 (TA 9 KeepsT.nil)))) (fun(z:Nat×Nat×Z4)=>[(10,.a (.d (.int .i64 ((z.2.1:Nat):Int))))]) (fun z=>[Z4.c z.2.2]) (fun z=>H) (fun z=>z.1) (fun z=>Z106_l7 a0 a1 z.1 z.2.1 z.2.2=some r) ((a0.l.length+1),0,Z4.zero) hE Weak.toA ?_;rintro ⟨n7,s10_8,y9_l0⟩ hE K7 hK7
  try dsimp only at hE
  cases n7 with
  | zero=>cases hE
  | succ n7 =>
    rw [Z106_l7] at hE;refine seqR (S BI (nil ?_));refine seqK fun K11 hK11=>?_;refine cE hE (fun hc12 hE=>?_) (fun hc12 hE=>?_)
    ·try dsimp only at hc12
     have hf12:=of_decide_eq_true hc12;refine sk hK11 ?_;clear hK11 K11;refine seqK fun K13 hK13=>?_;refine block ?_;refine seqR ?_;obtain⟨x15,gx15,hE⟩:=bO hE;refine S (ix Z4.c s10_8 gx15) (S Ld ?_);refine Sl ?_;refine Sf ?_;refine nil ?_;refine freezeA 7 _ rfl (KA 1 (KA 4 (KA 8 (KA 9 (KA 10 Keeps.nil))))) ?_;refine seqR (S Fv (S Ld (S Mv (S BS (nil ?_)))));refine cE hE (fun hc17 hE=>?_) (fun hc17 hE=>?_)
     ·refine seqR (S Ld ?_);refine Sf ?_;refine S As (nil ?_);exact rt hE
     refine sk hK13 ?_;clear hK13 K13;refine region ?_;refine SI ?_;refine S Mv (nil ?_);exact hK7 _ (n7,(s10_8+1),y9_l0) Weak.toA hE (Nat.lt_succ_self _)
    refine AWp.exit ?_;exact hK2 _ y9_l0 Weak.toA hE
 rintro y3_l0 hE;try dsimp only at hE
 unfold Z106_j2 at hE;refine seqR (S BU ?_);refine Sf ?_;refine S As (nil ?_);exact rt hE
def Z15 (a0:Z7) (a1:Bool) (a2:Z0):Option Z0:=some (Z0.mk a2.Fd a0 a1 a2.Fnodes)
theorem Z15_walk {a0:Z7}{a1:Bool}{a2:Z0}{c2:Nat}{r:Z0}(hE:Z15 a0 a1 a2=some r) (H:Heap) (hc2:H c2=some (.cells (Z0.c a2))):ACallsD Tryz.prog 147 [.d (.view (Z7.c a0)),.d (.view (boolE a1)),.d (.view [.ptr c2 0])] H fun v h'=>v=.tup []/\h'=(H.set c2 (some (.cells (Z0.c r)))):=by
 unfold Z15 at hE;refine ACallsD.of_wp (fn:=Tryz.f147) (c:=_) Tryz.tab_ok (fun _ _=>Tryz.call147 _ _) Tryz.func147 rfl (n:=11) rfl (rs:=[]) rfl rfl ?_;refine AWp.heqA (h':=(H.set c2 (some (.cells (Z0.c a2))))) (by funext n_; simp only [Heap.set]; (repeat' split)<;>simp_all) ?_;refine region ?_;refine S Ld (S Ld (S Ld (S Ld (S NP ?_))));refine s0 (fieldP (TK rfl) rfl rfl (TK rfl) rfl rfl) rfl ?_;refine sHn (storeP' (TK rfl) rfl rfl hpG rfl (Nat.le_of_ble_eq_true rfl) rfl rfl) rfl rfl ?_
 refine hq (H.set c2 (some (.cells (Z0.c (Z0.mk a2.Fd a0 a2.Fliteral a2.Fnodes))))) ?_;refine S NP ?_;refine s0 (fieldP (TK rfl) rfl rfl (TK rfl) rfl rfl) rfl ?_;refine sHn (storeP1 (TK rfl) rfl rfl hpG rfl (by repeat (first|exact SetAt.zero|apply SetAt.succ))) rfl rfl ?_;refine hq (H.set c2 (some (.cells (Z0.c (Z0.mk a2.Fd a0 a1 a2.Fnodes))))) ?_;refine nil ?_;repeat (first|refine xBlock_normal ?_|refine xThen_exit ?_|refine xBlock_exit ?_)
 obtain rfl:=Option.some.inj hE;refine retQ.normalF (H.set c2 (some (.cells (Z0.c (Z0.mk a2.Fd a0 a1 a2.Fnodes))))) (xs:=[]) rfl ⟨rfl,rfl⟩ ?_;exact(fun _ _ h=>h)
def Z137 (a0:Bs):Option Z7:=some (Z7.mk (3:Int) (0:Int) a0 true ([]) (Sl.nil:Sl Bs))
theorem Z137_walk {a0:Bs}{r:Z7}(hE:Z137 a0=some r) (H:Heap) :ACalls Tryz.prog 138 [.d (.str a0)] H fun v h'=>v=.a (.agg (Z7.c r))/\h'=H:=by
 unfold Z137 at hE;refine ACalls.oW 5 [.cell 2 44] Tryz.call138 Tryz.func138 ?_;refine seqR ?_;refine Sl ?_;refine nil ?_;refine seqR (S Mv (S BU ?_));refine Sf ?_;refine nil ?_;exact rt hE
def Tryz.lay148_ren:Go.Shelf.Ren:=⟨fun|171=>148|243=>152|246=>154|283=>155|284=>156|285=>157|286=>158|129=>160|317=>159|318=>161|319=>162|320=>163|337=>164|338=>165|n=>n,fun|3=>3|9=>9|2=>2|4=>4|171=>179|0=>0|53=>180|37=>183|5=>5|173=>184|212=>188|51=>189|20=>20|213=>190|46=>191|232=>194|233=>195|n=>n,fun|17=>0|18=>1|19=>2|n=>n⟩
theorem Tryz.lay148:Go.Proofs.LaysM.n171 Tryz.prog Tryz.lay148_ren:={
 mixed:=by kernel_rfl
 f129:=Tryz.func160.trans (congrArg some (by kernel_rfl))
 f171:=Tryz.func148.trans (congrArg some (by kernel_rfl))
 f243:=Tryz.func152.trans (congrArg some (by kernel_rfl))
 f246:=Tryz.func154.trans (congrArg some (by kernel_rfl))
 f283:=Tryz.func155.trans (congrArg some (by kernel_rfl))
 f284:=Tryz.func156.trans (congrArg some (by kernel_rfl))
 f285:=Tryz.func157.trans (congrArg some (by kernel_rfl))
 f286:=Tryz.func158.trans (congrArg some (by kernel_rfl))
 f317:=Tryz.func159.trans (congrArg some (by kernel_rfl))
 f318:=Tryz.func161.trans (congrArg some (by kernel_rfl))
 f319:=Tryz.func162.trans (congrArg some (by kernel_rfl))
 f320:=Tryz.func163.trans (congrArg some (by kernel_rfl))
 f337:=Tryz.func164.trans (congrArg some (by kernel_rfl))
 f338:=Tryz.func165.trans (congrArg some (by kernel_rfl))
 t0:=Tryz.underlying0
 a0:=Tryz.isAgg0
 z0:=Tryz.sizeOf0
 v0:=Tryz.zeroValue0
 t2:=Tryz.underlying2
 a2:=Tryz.isAgg2
 z2:=Tryz.sizeOf2
 v2:=Tryz.zeroValue2
 t3:=Tryz.underlying3
 a3:=Tryz.isAgg3
 z3:=Tryz.sizeOf3
 v3:=Tryz.zeroValue3
 t4:=Tryz.underlying4
 a4:=Tryz.isAgg4
 z4:=Tryz.sizeOf4
 v4:=Tryz.zeroValue4
 t5:=Tryz.underlying5
 a5:=Tryz.isAgg5
 z5:=Tryz.sizeOf5
 v5:=Tryz.zeroValue5
 t9:=Tryz.underlying9
 a9:=Tryz.isAgg9
 z9:=Tryz.sizeOf9
 v9:=Tryz.zeroValue9
 t20:=Tryz.underlying20
 a20:=Tryz.isAgg20
 z20:=Tryz.sizeOf20
 v20:=Tryz.zeroValue20
 t37:=Tryz.underlying183
 a37:=Tryz.isAgg183
 z37:=Tryz.sizeOf183
 v37:=Tryz.zeroValue183
 t46:=Tryz.underlying191
 a46:=Tryz.isAgg191
 z46:=Tryz.sizeOf191
 v46:=Tryz.zeroValue191
 t51:=Tryz.underlying189
 a51:=Tryz.isAgg189
 z51:=Tryz.sizeOf189
 v51:=Tryz.zeroValue189
 t53:=Tryz.underlying180
 a53:=Tryz.isAgg180
 z53:=Tryz.sizeOf180
 v53:=Tryz.zeroValue180
 t171:=Tryz.underlying179
 a171:=Tryz.isAgg179
 z171:=Tryz.sizeOf179
 v171:=Tryz.zeroValue179
 t173:=Tryz.underlying184
 a173:=Tryz.isAgg184
 z173:=Tryz.sizeOf184
 v173:=Tryz.zeroValue184
 t212:=Tryz.underlying188
 a212:=Tryz.isAgg188
 z212:=Tryz.sizeOf188
 v212:=Tryz.zeroValue188
 t213:=Tryz.underlying190
 a213:=Tryz.isAgg190
 z213:=Tryz.sizeOf190
 t232:=Tryz.underlying194
 a232:=Tryz.isAgg194
 z232:=Tryz.sizeOf194
 v232:=Tryz.zeroValue194
 t233:=Tryz.underlying195
 a233:=Tryz.isAgg195
 z233:=Tryz.sizeOf195
 v233:=Tryz.zeroValue195
 g17:=by kernel_rfl
 g18:=by kernel_rfl
 g19:=by kernel_rfl
 i0:=by kernel_rfl
 i2:=by kernel_rfl
 i3:=by kernel_rfl
 i4:=by kernel_rfl
 i5:=by kernel_rfl
 i9:=by kernel_rfl
 i20:=by kernel_rfl
 i37:=by kernel_rfl
 i46:=by kernel_rfl
 i51:=by kernel_rfl
 i53:=by kernel_rfl
 i171:=by kernel_rfl
 i173:=by kernel_rfl
 i212:=by kernel_rfl
 i232:=by kernel_rfl
 i233:=by kernel_rfl
 m17:=by kernel_rfl
 m18:=by kernel_rfl
 m19:=by kernel_rfl }
def Z122 (n:Int):Option Bs:=if -9223372036854775808<=n/\n<=9223372036854775807/\(Lib.itoa n).length<=maxS then some (Lib.itoa n) else none
def Z122_q (n:Int):Option Bs:=Z122 n
theorem Z122_eq (n:Int):Z122 n=Z122_q n:=rfl
theorem Z122_walk {a0:Int}{oT:Ab.Obj}{gT:Nat}{r:Bs}(hE:Z122 a0=some r) (H:Heap) (hgT:H gT=some oT) (hoT:IsTab Tryz.prog oT):ACalls Tryz.prog 148 [.d (.int .i64 a0)] H fun v h'=>v=.a (.d (.str r))/\h'=H:=by
 unfold Z122 at hE
 split at hE
 ·rename_i h
  obtain rfl:=Option.some.inj hE;exact itoa_calls Tryz.lay148 h.1 h.2.1 rfl hgT hoT h.2.2
 cases hE
def Z123 (a0:Int):Option Bs:=(Z122 a0).bind fun x3=>some x3
theorem Z123_walk {a0:Int}{oT:Ab.Obj}{gT:Nat}{r:Bs}(hE:Z123 a0=some r) (H:Heap) (hgT:H gT=some oT) (hoT:IsTab Tryz.prog oT):ACalls Tryz.prog 139 [.d (.int .i64 a0)] H fun v h'=>v=.a (.d (.str r))/\h'=H:=by
 unfold Z123 at hE;refine ACalls.oW 5 [.tmp 2] Tryz.call139 Tryz.func139 ?_;refine seqR (S As (nil ?_));refine seqR (S Mv ?_);obtain⟨x3,gx3,hE⟩:=bO hE;refine s0 (callR rfl rfl (Z122_walk (gT:=gT) (oT:=oT) gx3 _ hpG (by assumption))) rfl ?_;refine S As (nil ?_);exact rt hE
end Go.Proofs

namespace Go.Proofs
open Go Go.Ab
open AOps Cert AWp Keeps KeepsT
variable {lou:Lou}
def Z120_j2  :Option Int:=some (-1:Int)
def Z120_l6 (a0:(Sl Z5)) (a1:(Z5->Option Bool)) :Nat->Nat->Option Int
 | 0,_=>none
 | n6+1,s8_7=>bif (decide (((s8_7:Nat):Int)<((a0.l.length:Nat):Int))) then((a0.l[s8_7]?).bind fun x14=>(a1 x14).bind fun x15=>bif x15 then(some ((s8_7:Nat):Int)) else((Z120_l6 a0 a1 n6) (s8_7+1))) else(Z120_j2   )
def Z120 (a0:(Sl Z5)) (a1:(Z5->Option Bool)):Option Int:=Z120_l6 a0 a1 (a0.l.length+1) 0
theorem Z120_walk {a0:Sl Z5}{a1:Z5->Option Bool}{w0:Option Nat}{cl1:List D}{k1:Nat}{r:Int}(hE:Z120 a0 a1=some r) (H:Heap) (hf1:∀x0 r,a1 x0=some r->∀H,ACalls Tryz.prog k1 ([.agg (Z5.c x0)]++cl1.map A.d) H fun v h'=>v=.a (.d (.bool r))/\h'=H):ACalls Tryz.prog 149 [.d (Sl.d 2 Z5.c w0 a0),.d (.func k1 cl1)] H fun v h'=>v=.a (.d (.int .i64 r))/\h'=H:=by
 unfold Z120 at hE;refine ACalls.oW 19 [.tmp 4] Tryz.call149 Tryz.func149 ?_;refine seqR (S As (nil ?_));refine seqJH KeepsT.nil (fun(z:Unit)=>[]) (fun z=>H) (fun z=>Z120_j2 =some r) ?_ ?_
 ·intro K2 hK2;refine seqR (S Mv ?_);refine sLen (f:=Z5.c) (s:=a0) (TK rfl) rfl rfl rfl rfl fun hL5=>?_;refine S Mv (nil ?_);refine block ?_;refine loopH (TA 0 (TA 1 (TA 7 KeepsT.nil))) (fun(z:Nat×Nat)=>[(8,.a (.d (.int .i64 ((z.2:Nat):Int))))]) (fun z=>H) (fun z=>z.1) (fun z=>Z120_l6 a0 a1 z.1 z.2=some r) ((a0.l.length+1),0) hE Weak.toA ?_;rintro ⟨n6,s8_7⟩ hE K6 hK6;try dsimp only at hE
  cases n6 with
  | zero=>cases hE
  | succ n6 =>
    rw [Z120_l6] at hE;refine seqR (S BI (nil ?_));refine seqK fun K9 hK9=>?_;refine cE hE (fun hc10 hE=>?_) (fun hc10 hE=>?_)
    ·try dsimp only at hc10
     have hf10:=of_decide_eq_true hc10;refine sk hK9 ?_;clear hK9 K9;refine seqK fun K11 hK11=>?_;refine block ?_;refine seqR (S Mv (S As (nil ?_)));refine seqR (S Mv (S Mv (S Mv ?_)));obtain⟨x14,gx14,hE⟩:=bO hE;refine S (ix Z5.c s8_7 gx14) (S Ld ?_);obtain⟨x15,gx15,hE⟩:=bO hE;refine s0 (callP rfl rfl (hf1 _ _ gx15)) rfl ?_;refine nil ?_;refine cE hE (fun hc16 hE=>?_) (fun hc16 hE=>?_)
     ·refine seqR (S Mv (S As (nil ?_)));exact rt hE
     refine sk hK11 ?_;clear hK11 K11;refine region ?_;refine SI ?_;refine S Mv (nil ?_);exact hK6 _ (n6,(s8_7+1)) Weak.toA hE (Nat.lt_succ_self _)
    refine AWp.exit ?_;exact hK2 _ () Weak.toA hE
 rintro _ hE;try dsimp only at hE
 unfold Z120_j2 at hE;refine seqR (S As (nil ?_));exact rt hE
def Z115 (a0:(Sl Z5)) (a1:(Z5->Option Bool)):Option Bool:=(Z120 a0 a1).bind fun x3=>some (decide ((0:Int)<=x3))
theorem Z115_walk {a0:Sl Z5}{a1:Z5->Option Bool}{w0:Option Nat}{cl1:List D}{k1:Nat}{r:Bool}(hE:Z115 a0 a1=some r) (H:Heap) (hf1:∀x0 r,a1 x0=some r->∀H,ACalls Tryz.prog k1 ([.agg (Z5.c x0)]++cl1.map A.d) H fun v h'=>v=.a (.d (.bool r))/\h'=H):ACalls Tryz.prog 140 [.d (Sl.d 2 Z5.c w0 a0),.d (.func k1 cl1)] H fun v h'=>v=.a (.d (.bool r))/\h'=H:=by
 unfold Z115 at hE;refine ACalls.oW 9 [.tmp 4] Tryz.call140 Tryz.func140 ?_;refine seqR (S As (nil ?_));refine seqR (S Mv (S Mv ?_));obtain⟨x3,gx3,hE⟩:=bO hE;refine s0 (callP rfl rfl (fun H=>Z120_walk gx3 H hf1)) rfl ?_;refine S BI (S As (nil ?_));exact rt hE
def Z12 (a0:Z5) (a1:Z7):Option Bool:=some ((a0.FName==a1.FText))
theorem Z12_walk {a0:Z5}{a1:Z7}{r:Bool}(hE:Z12 a0 a1=some r) (H:Heap) :ACalls Tryz.prog 141 [.agg (Z5.c a0),.d (.view (Z7.c a1))] H fun v h'=>v=.a (.d (.bool r))/\h'=H:=by
 unfold Z12 at hE;refine ACalls.oW 9 [.tmp 3] Tryz.call141 Tryz.func141 ?_;refine seqR (S BX (S As (nil ?_)));refine seqR (S Fv (S Ld (S Fv (S Ld (S BS (S As (nil ?_)))))));exact rt hE
def Z11_j3  (s8_4:Bool) (y5_l0:Z7):Option (Z7×Int):=bif (!s8_4) then(some ((Z7.mk (0:Int) (0:Int) ([]:Bs) true ([]) (Sl.nil:Sl Bs)),(23:Int))) else(some (y5_l0,(0:Int)))
def Z11_j20  (y21_l0:Z7):Option (Z7×Int):=Z11_j3   (decide (y21_l0.FKind=(3:Int))) y21_l0
def Z11_j26 (a0:Z0) (a1:Bs)  (y27_l0:Z7):Option (Z7×Int):=(Z105 a0.Fd a1).bind fun x29=>guardO ((decide (y27_l0.FKind=(4:Int)))) (Z115 x29.1.FMembers (fun y0=>Z12 y0 y27_l0)) false fun x30=>bif (!((decide (y27_l0.FKind=(4:Int)))&&x30)) then(some ((Z7.mk (0:Int) (0:Int) ([]:Bs) true ([]) (Sl.nil:Sl Bs)),(23:Int))) else(some (y27_l0,(0:Int)))
def Z11 (a0:Z0) (a1:Bs) (a2:Z7):Option (Z7×Int):=bif ((a1==([73,110,116]:Bs))) then(Z11_j3   (((decide (a2.FKind=(2:Int)))&&(decide ((-2147483648:Int)<=a2.FInt)))&&(decide (a2.FInt<(2147483648:Int)))) a2) else(bif ((a1==([83,116,114,105,110,103]:Bs))) then(Z11_j3   (decide (a2.FKind=(3:Int))) a2) else(bif ((a1==([66,111,111,108,101,97,110]:Bs))) then(Z11_j3   (decide (a2.FKind=(1:Int))) a2) else(bif ((a1==([73,68]:Bs))) then(bif (decide (a2.FKind=(2:Int))) then((Z123 a2.FInt).bind fun x24=>(Z137 x24).bind fun x25=>Z11_j20   x25) else(Z11_j20   a2)) else(bif ((decide (a2.FKind=(3:Int)))&&(!a0.Fliteral)) then(Z11_j26 a0 a1  (Z7.mk (4:Int) a2.FInt a2.FText a2.FItems.nl a2.FItems.l a2.FKeys)) else(Z11_j26 a0 a1  a2)))))
theorem Z11_walk {a0:Z0}{a1:Bs}{a2:Z7}{oT:Ab.Obj}{c0 gT:Nat}{r:Z7×Int}(hE:Z11 a0 a1 a2=some r) (H:Heap) (hc0:H c0=some (.cells (Z0.c a0))) (hgT:H gT=some oT) (hoT:IsTab Tryz.prog oT):ACalls Tryz.prog 120 [.d (.ptr c0 0),.d (.str a1),.agg (Z7.c a2)] H fun v h'=>v=.tup [.agg (Z7.c r.1),.d (.int .i64 r.2)]/\h'=H:=by
 unfold Z11 at hE;refine ACalls.oW 82 [.cell 6 44,.tmp 7] Tryz.call120 Tryz.func120 ?_;refine seqR ?_;refine sL (boxL rfl (by repeat (first|exact Snoc.nil|apply Snoc.cons))) rfl ?_;refine Sl ?_;refine S As (nil ?_);refine seqR (S As (nil ?_));refine AWp.seqJD (TA 5 (TA 6 KeepsT.nil)) (fun(z:Bool×Z7)=>[(8,.a (.d (.bool z.1)))]) (fun z=>[Z7.c z.2,Z7.c Z7.zero]) (fun z=>H) (fun z=>Z11_j3 z.1 z.2=some r) ?_ ?_
 ·intro K3 hK3 hD3;refine seqR (S Mv (nil ?_));refine block ?_;refine seqR (S BS (S As (nil ?_)));refine cE hE (fun hc13 hE=>?_) (fun hc13 hE=>?_)
  ·refine region ?_;refine S FL (S LL (S BI (S Mv (G0 FL ?_))));refine gC rfl rfl (fun hC=>ungdLA (k:=47) rfl (loadL (TK rfl) rfl rfl rfl rfl)) rfl ?_;refine G1 48 rfl BI ?_;refine S PA (S Mv (G0 FL ?_));refine gC rfl rfl (fun hC=>ungdLA (k:=52) rfl (loadL (TK rfl) rfl rfl rfl rfl)) rfl ?_;refine G1 53 rfl BI ?_;refine S PA (S As (nil ?_));exact hK3 _ ((((decide (a2.FKind=(2:Int)))&&(decide ((-2147483648:Int)<=a2.FInt)))&&(decide (a2.FInt<(2147483648:Int)))),a2) Weak.toA hE
  refine seqR (S BS (S As (nil ?_)));refine cE hE (fun hc15 hE=>?_) (fun hc15 hE=>?_)
  ·refine region ?_;refine S FL (S LL (S BI (S As (nil ?_))));exact hK3 _ ((decide (a2.FKind=(3:Int))),a2) Weak.toA hE
  refine seqR (S BS (S As (nil ?_)));refine cE hE (fun hc17 hE=>?_) (fun hc17 hE=>?_)
  ·refine region ?_;refine S FL (S LL (S BI (S As (nil ?_))));exact hK3 _ ((decide (a2.FKind=(1:Int))),a2) Weak.toA hE
  refine seqR (S BS (S As (nil ?_)));refine cE hE (fun hc19 hE=>?_) (fun hc19 hE=>?_)
  ·refine seqJ (TA 5 (TA 6 KeepsT.nil)) (fun(z:Z7)=>[]) (fun z=>[Z7.c z,Z7.c Z7.zero]) (fun z=>H) (fun z=>Z11_j20 z=some r) ?_ ?_
   ·intro K20 hK20;refine seqR (S FL (S LL (S BI (nil ?_))));refine cE hE (fun hc23 hE=>?_) (fun hc23 hE=>?_)
    ·refine region ?_;refine S FL (S LL ?_);obtain⟨x24,gx24,hE⟩:=bO hE;refine s0 (callR rfl rfl (Z123_walk (gT:=gT) (oT:=oT) gx24 _ hpG (by assumption))) rfl ?_;obtain⟨x25,gx25,hE⟩:=bO hE;refine Sc rfl rfl (Z137_walk gx25) ?_;refine Sf ?_;refine nil ?_;exact hK20 _ x25 Weak.toA hE
    refine AWp.skip ?_;exact hK20 _ a2 Weak.toA hE
   rintro y21_l0 hE;try dsimp only at hE
   unfold Z11_j20 at hE;refine region ?_;refine S FL (S LL (S BI (S As (nil ?_))));exact hK3 _ ((decide (y21_l0.FKind=(3:Int))),y21_l0) Weak.toA hE
  refine seqJ (TA 0 (TA 1 (TA 5 (TA 6 KeepsT.nil)))) (fun(z:Z7)=>[]) (fun z=>[Z7.c z,Z7.c Z7.zero]) (fun z=>H) (fun z=>Z11_j26 a0 a1 z=some r) ?_ ?_
  ·intro K26 hK26;refine seqR (S FL (S LL (S BI (S Mv (G0 Mv ?_)))));refine G1 16 rfl NP ?_;refine gC rfl rfl (fun hC=>ungdA (k:=17) rfl (fieldP (TK rfl) rfl rfl (TK rfl) rfl rfl)) rfl ?_;refine gC rfl rfl (fun hC=>ungdA (k:=18) rfl (loadP (TK rfl) rfl rfl hpG rfl)) rfl ?_;refine G1 19 rfl NB ?_;refine S PA (nil ?_);refine cE hE (fun hc37 hE=>?_) (fun hc37 hE=>?_)
   ·refine region ?_;refine S FL ?_;refine AOps.relocal 0 (Z7.cu a2) rfl (fun j w cs hh hx=>by rw [<- Z7.cu_eq]; exact hx) ?_;refine Sf ?_;refine AOps.relocal 0 (Z7.c (Z7.mk (4:Int) a2.FInt a2.FText a2.FItems.nl a2.FItems.l a2.FKeys)) rfl (fun j w cs hh hx=>by rw [Z7.cu_eq]; exact hx) ?_;refine nil ?_;exact hK26 _ (Z7.mk (4:Int) a2.FInt a2.FText a2.FItems.nl a2.FItems.l a2.FKeys) Weak.toA hE
   refine AWp.skip ?_;exact hK26 _ a2 Weak.toA hE
  rintro y27_l0 hE;try dsimp only at hE
  unfold Z11_j26 at hE;refine seqR (S Mv (S NP ?_));refine s0 (fieldP (TK rfl) rfl rfl (TK rfl) rfl rfl) rfl ?_;refine s0 (loadP (TK rfl) rfl rfl hpG rfl) rfl ?_;refine S Mv ?_;obtain⟨x29,gx29,hE⟩:=bO hE;refine Sc rfl rfl (Z105_walk gx29) ?_;refine S Mv (S EX (S EX ?_));refine Sl ?_;refine Sf ?_;refine S As (nil ?_);refine freezeA 9 _ rfl (KA 5 (KA 6 Keeps.nil)) ?_;refine AWp.freezeAt 5 _ rfl rfl ?_
  refine region ?_;refine S Fv (S Ld (S BI (S Mv (G0 Fv ?_))));refine G1 36 rfl Ld ?_;refine gC rfl rfl (fun hC=>makeFunc rfl) rfl ?_;obtain⟨x30,gx30,hE⟩:=gO hE;refine gC rfl rfl (fun hC=>ungdA (k:=37) rfl (ungdA (k:=38) rfl (callP rfl rfl (fun H=>Z115_walk (gx30 hC) H (fun _ _ hx=>Z12_walk hx))))) rfl ?_;refine S PA (S As (nil ?_));refine hD3 _ ?_;refine seqK fun K31 hK31=>?_;refine seqR (S Mv (S NB (nil ?_)))
  refine cE hE (fun hc33 hE=>?_) (fun hc33 hE=>?_)
  ·refine seqR (S BU ?_);refine Sf ?_;refine S As (nil ?_);exact rt hE
  refine sk hK31 ?_;clear hK31 K31;refine seqR (S Ld ?_);refine Sf ?_;refine S As (nil ?_);exact rt hE
 rintro ⟨s8_4,y5_l0⟩ hE;try dsimp only at hE
 unfold Z11_j3 at hE;refine seqK fun K6 hK6=>?_;refine seqR (S Mv (S NB (nil ?_)));refine cE hE (fun hc8 hE=>?_) (fun hc8 hE=>?_)
 ·refine seqR (S BU ?_);refine Sf ?_;refine S As (nil ?_);exact rt hE
 refine sk hK6 ?_;clear hK6 K6;refine seqR (S LL ?_);refine Sf ?_;refine S As (nil ?_);exact rt hE
end Go.Proofs
