import Derived.Test.YtimiconoebjfbaaGreatDoorV5
set_option maxRecDepth 100000
set_option maxHeartbeats 2000000
set_option linter.unusedVariables false
set_option linter.unusedSimpArgs false
namespace Go.Proofs
open Go Go.Ab
open AOps Cert AWp Keeps KeepsT
variable {lou:Lou}
def Z79 (a0:TDoc) (a1:Bs) (a2:Bs) (a3:Bs):Option (Sl TFault):=guardO (!(((a1==([]:Bs)))||((a2==([]:Bs))))) (Z66 a0 a1 a2) false fun x4=>bif ((((a1==([]:Bs)))||((a2==([]:Bs))))||x4) then(some (Sl.nil:Sl TFault)) else(some (⟨false,[(TFault.mk (25:Int) a3)]⟩:Sl TFault))
theorem Z79_walk {a0:TDoc}{a1 a2 a3:Bs}{r:Sl TFault}(hE:Z79 a0 a1 a2 a3=some r) (H:Heap) :ACalls Tryz.prog 79 [.agg (TDoc.c a0),.d (.str a1),.d (.str a2),.d (.str a3)] H fun v h'=>v=.a (.d (Sl.d 2 TFault.c none r))/\h'=H:=by
 unfold Z79 at hE;refine ACalls.oW 24 [.tmp 8] Tryz.call79 Tryz.func79 ?_;refine seqR ?_;refine S BX ?_;refine s0 (assignNil (k':=2) rfl) rfl ?_;refine nil ?_;refine seqK fun K2 hK2=>?_;refine seqR ?_;refine S Mv (S BS (S Mv (g0 Mv ?_)));refine g1 12 rfl BS ?_;refine S PO (S Mv (g0 Ld (g0 Mv (g0 Mv ?_))));obtain⟨x4,gx4,hE⟩:=gO hE;refine gC rfl rfl (fun hC=>ungdA (k:=16) rfl (ungdA (k:=17) rfl (ungdA (k:=18) rfl (callP rfl rfl (fun H=>Z66_walk (gx4 hC) H))))) rfl ?_
 refine S PO ?_;refine nil ?_;refine cE hE (fun hc5 hE=>?_) (fun hc5 hE=>?_)
 ·refine seqR ?_;refine s0 (assignNil (k':=2) rfl) rfl ?_;refine nil ?_;exact rt hE
 refine sk hK2 ?_;clear hK2 K2;refine seqR ?_;refine S Mv (S BU (S BV (S As ?_)));refine nil ?_;exact rt hE
def Z89 (a0:TDoc) (a1:Bs) (a2:Bs):Option Bs:=(Z45 a0 a1).bind fun x3=>(Z44 x3.1 a2).bind fun x5=>bif ((((a1==([]:Bs)))||(!x3.2))||(!x5.2)) then(some ([]:Bs)) else((Z85 a0 x5.1.FType.FName).bind fun x11=>some x11)
theorem Z89_walk {a0:TDoc}{a1 a2 r:Bs}(hE:Z89 a0 a1 a2=some r) (H:Heap) :ACalls Tryz.prog 80 [.agg (TDoc.c a0),.d (.str a1),.d (.str a2)] H fun v h'=>v=.a (.d (.str r))/\h'=H:=by
 unfold Z89 at hE;refine ACalls.oW 38 [.tmp 6] Tryz.call80 Tryz.func80 ?_;refine seqR ?_;refine S BX (S As ?_);refine nil ?_;refine seqR ?_;refine S Ld (S Mv ?_);obtain⟨x3,gx3,hE⟩:=bO hE;refine Sc rfl rfl (Z45_walk gx3) ?_;refine S Mv (S EX (S EX ?_));refine Sl ?_;refine Sf ?_;refine S As ?_;refine nil ?_;refine freezeA 7 _ rfl (KA 1 (KA 2 (KA 3 (KA 8 Keeps.nil)))) ?_;refine seqR ?_;refine S Ld (S Mv ?_)
 obtain⟨x5,gx5,hE⟩:=bO hE;refine Sc rfl rfl (Z44_walk gx5) ?_;refine S Mv (S EX (S EX ?_));refine Sl ?_;refine Sf ?_;refine S As ?_;refine nil ?_;refine freezeA 9 _ rfl (KA 1 (KA 3 (KA 8 (KA 10 Keeps.nil)))) ?_;refine seqK fun K6 hK6=>?_;refine seqR ?_;refine S Mv (S BS (S Mv (g0 Mv ?_)));refine g1 26 rfl NB ?_;refine S PO (S Mv (g0 Mv ?_));refine g1 30 rfl NB ?_;refine S PO ?_;refine nil ?_;refine cE hE (fun hc8 hE=>?_) (fun hc8 hE=>?_)
 ·refine seqR ?_;refine S As ?_;refine nil ?_;exact rt hE
 refine sk hK6 ?_;clear hK6 K6;refine seqR ?_;refine S Ld (S Fv (S Fv (S Ld ?_)));obtain⟨x11,gx11,hE⟩:=bO hE;refine Sc rfl rfl (Z85_walk gx11) ?_;refine S As ?_;refine nil ?_;exact rt hE
def Z84 (a0:TSel):Option Bs:=bif (!(a0.FAlias==([]:Bs))) then(some a0.FAlias) else(some a0.FName)
theorem Z84_walk {a0:TSel}{r:Bs}(hE:Z84 a0=some r) (H:Heap) :ACalls Tryz.prog 81 [.agg (TSel.c a0)] H fun v h'=>v=.a (.d (.str r))/\h'=H:=by
 unfold Z84 at hE;refine ACalls.oW 10 [.tmp 2] Tryz.call81 Tryz.func81 ?_;refine seqR ?_;refine S BX (S As ?_);refine nil ?_;refine seqK fun K2 hK2=>?_;refine seqR ?_;refine S Fv (S Ld (S BS ?_));refine nil ?_;refine cE hE (fun hc4 hE=>?_) (fun hc4 hE=>?_)
 ·refine seqR ?_;refine S Fv (S Ld (S As ?_));refine nil ?_;exact rt hE
 refine sk hK2 ?_;clear hK2 K2;refine seqR ?_;refine S Fv (S Ld (S As ?_));refine nil ?_;exact rt hE
def Z86_j3  (s11_4:(Sl TFault)):Option (Sl TFault):=some s11_4
def Z86_j14 (s12_9:Nat) (k_next_7:(Sl TFault)->Nat->Option (Sl TFault)) (s11_15:(Sl TFault)):Option (Sl TFault):=k_next_7 s11_15 (s12_9+1)
def Z86_j32 (a0:TDoc) (a1:TQuery) (a4:Bs) (s12_9:Nat) (x17:TSel) (k_next_7:(Sl TFault)->Nat->Option (Sl TFault)) (k_rec_39:TDoc->TQuery->(Sl TSel)->Bs->Bs->Option (Sl TFault)) (s11_33:(Sl TFault)) (s16_34:Bs):Option (Sl TFault):=(k_rec_39 a0 a1 x17.FSels s16_34 a4).bind fun x35=>(appC 24 s11_33 x35).bind fun x36=>Z86_j14 s12_9 k_next_7 x36
def Z86_j41 (a0:TDoc) (a1:TQuery) (a3:Bs) (a4:Bs) (s12_9:Nat) (x17:TSel) (x40:Bs) (k_next_7:(Sl TFault)->Nat->Option (Sl TFault)) (k_rec_39:TDoc->TQuery->(Sl TSel)->Bs->Bs->Option (Sl TFault)) (s11_42:(Sl TFault)):Option (Sl TFault):=(Z79 a0 a3 x40 a4).bind fun x43=>(appC 24 s11_42 x43).bind fun x44=>Z86_j32 a0 a1 a4 s12_9 x17 k_next_7 k_rec_39 x44 x40
def Z86_l7 (a0:TDoc) (a1:TQuery) (a2:(Sl TSel)) (a3:Bs) (a4:Bs) (k_rec_39:TDoc->TQuery->(Sl TSel)->Bs->Bs->Option (Sl TFault)):Nat->(Sl TFault)->Nat->Option (Sl TFault)
 | 0,_,_=>none
 | n7+1,s11_8,s12_9=>bif (decide (((s12_9:Nat):Int)<((a2.l.length:Nat):Int))) then((a2.l[s12_9]?).bind fun x17=>bif (decide (x17.FKind=(2:Int))) then((Z77 a1 x17.FName).bind fun x22=>bif (!x22.2) then((appC 24 s11_8 (⟨false,[(TFault.mk (24:Int) a4)]⟩:Sl TFault)).bind fun x25=>Z86_j14 s12_9 ((Z86_l7 a0 a1 a2 a3 a4 k_rec_39 n7)) x25) else((Z85 a0 x22.1.FOn).bind fun x26=>(Z79 a0 a3 x26 a4).bind fun x27=>(appC 24 s11_8 x27).bind fun x28=>Z86_j14 s12_9 ((Z86_l7 a0 a1 a2 a3 a4 k_rec_39 n7)) x28)) else(bif (decide (x17.FKind=(3:Int))) then(bif (!(x17.FOn==([]:Bs))) then((Z85 a0 x17.FOn).bind fun x40=>bif ((x40==([]:Bs))) then((appC 24 s11_8 (⟨false,[(TFault.mk (24:Int) a4)]⟩:Sl TFault)).bind fun x47=>Z86_j41 a0 a1 a3 a4 s12_9 x17 x40 ((Z86_l7 a0 a1 a2 a3 a4 k_rec_39 n7)) k_rec_39 x47) else(Z86_j41 a0 a1 a3 a4 s12_9 x17 x40 ((Z86_l7 a0 a1 a2 a3 a4 k_rec_39 n7)) k_rec_39 s11_8)) else(Z86_j32 a0 a1 a4 s12_9 x17 ((Z86_l7 a0 a1 a2 a3 a4 k_rec_39 n7)) k_rec_39 s11_8 a3)) else((Z89 a0 a3 x17.FName).bind fun x48=>(catC a4 ([47]:Bs)).bind fun x49=>(Z84 x17).bind fun x50=>(catC x49 x50).bind fun x51=>(k_rec_39 a0 a1 x17.FSels x48 x51).bind fun x52=>(appC 24 s11_8 x52).bind fun x53=>Z86_j14 s12_9 ((Z86_l7 a0 a1 a2 a3 a4 k_rec_39 n7)) x53))) else(Z86_j3   s11_8)
def Z86_n:Nat->TDoc->TQuery->(Sl TSel)->Bs->Bs->Option (Sl TFault)
 | 0,_,_,_,_,_=>none
 | n+1,a0,a1,a2,a3,a4=>Z86_l7 a0 a1 a2 a3 a4 (Z86_n n) (a2.l.length+1) (Sl.nil:Sl TFault) 0
theorem Z86_step (n:Nat) (ih_39:∀{a0:TDoc}{a1:TQuery}{a2:Sl TSel}{a3 a4:Bs}{w2:Option Nat}{r:Sl TFault},Z86_n n a0 a1 a2 a3 a4=some r->∀(H:Heap),ACalls Tryz.prog 39 [.agg (TDoc.c a0),.agg (TQuery.c a1),.d (Sl.d 7 TSel.c w2 a2),.d (.str a3),.d (.str a4)] H fun v h'=>v=.a (.d (Sl.d 2 TFault.c none r))/\h'=H):∀{a0:TDoc}{a1:TQuery}{a2:Sl TSel}{a3 a4:Bs}{w2:Option Nat}{r:Sl TFault},Z86_n (n+1) a0 a1 a2 a3 a4=some r->∀(H:Heap),ACalls Tryz.prog 39 [.agg (TDoc.c a0),.agg (TQuery.c a1),.d (Sl.d 7 TSel.c w2 a2),.d (.str a3),.d (.str a4)] H fun v h'=>v=.a (.d (Sl.d 2 TFault.c none r))/\h'=H:=by
 intro a0 a1 a2 a3 a4 w2  r hE H ;rw [Z86_n] at hE;refine ACalls.oW 106 [.tmp 10] Tryz.call39 Tryz.func39 ?_;refine AWp.tok 2 fun tk1 htk1=>?_;refine seqR ?_;refine S BX (S BX ?_);refine s0 (assignNil (k':=2) rfl) rfl ?_;refine nil ?_;refine seqR ?_;refine S As ?_;refine nil ?_;refine AWp.nilTok 11 2 tk1 rfl hpG ?_;refine seqJH KeepsT.nil (fun(z:(Sl TFault))=>[(11,.a (.d (Sl.d 2 TFault.c (some tk1) z)))]) (fun z=>(H.set tk1 (some (.tok 2 z.l.length)))) (fun z=>Z86_j3 z=some r) ?_ ?_
 ·intro K3 hK3;refine seqR ?_;refine S As ?_;refine nil ?_;refine block ?_;refine loopH (TA 2 (TA 3 (TA 4 (TA 5 (TA 6 KeepsT.nil))))) (fun(z:Nat×(Sl TFault)×Nat)=>[(11,.a (.d (Sl.d 2 TFault.c (some tk1) z.2.1))),(12,.a (.d (.int .i64 ((z.2.2:Nat):Int))))]) (fun z=>(H.set tk1 (some (.tok 2 z.2.1.l.length)))) (fun z=>z.1) (fun z=>Z86_l7 a0 a1 a2 a3 a4 (Z86_n n) z.1 z.2.1 z.2.2=some r) ((a2.l.length+1),(Sl.nil:Sl TFault),0) hE Weak.toA ?_
  rintro ⟨n7,s11_8,s12_9⟩ hE K7 hK7;try dsimp only at hE
  cases n7 with
  | zero=>cases hE
  | succ n7 =>
    rw [Z86_l7] at hE;refine seqK fun K10 hK10=>?_;refine seqR ?_;refine S Mv (S Mv ?_);refine sLen (f:=TSel.c) (s:=a2) (TK rfl) rfl rfl rfl rfl fun hL12=>?_;refine S BI ?_;refine nil ?_;refine cE hE (fun hc13 hE=>?_) (fun hc13 hE=>?_)
    ·try dsimp only at hc13
     have hf13:=of_decide_eq_true hc13;refine sk hK10 ?_;clear hK10 K10;refine seqJH (TA 2 (TA 3 (TA 4 (TA 5 (TA 6 (TA 12 KeepsT.nil)))))) (fun(z:(Sl TFault))=>[(11,.a (.d (Sl.d 2 TFault.c (some tk1) z)))]) (fun z=>(H.set tk1 (some (.tok 2 z.l.length)))) (fun z=>Z86_j14 s12_9 ((Z86_l7 a0 a1 a2 a3 a4 (Z86_n n) n7)) z=some r) ?_ ?_
     ·intro K14 hK14;refine block ?_;refine seqR ?_;refine S Mv (S Mv ?_);obtain⟨x17,gx17,hE⟩:=bO hE;refine s0 (idxMn (f:=TSel.c) (n:=s12_9) (TK rfl) rfl (TK rfl) rfl rfl rfl gx17) rfl ?_;refine S Ld ?_;refine Sl ?_;refine Sf ?_;refine nil ?_;refine freezeA 13 _ rfl (KA 2 (KA 3 (KA 4 (KA 5 (KA 6 (KA 11 (KA 12 Keeps.nil))))))) ?_;refine seqR ?_;refine S Fv (S Ld ?_);refine nil ?_;refine block ?_;refine seqR ?_
      refine S BI (S As ?_);refine nil ?_;refine cE hE (fun hc20 hE=>?_) (fun hc20 hE=>?_)
      ·refine seqR ?_;refine S Ld (S Fv (S Ld ?_));obtain⟨x22,gx22,hE⟩:=bO hE;refine Sc rfl rfl (Z77_walk gx22) ?_;refine S Mv (S EX (S EX ?_));refine Sl ?_;refine Sf ?_;refine S As ?_;refine nil ?_;refine freezeA 14 _ rfl (KA 2 (KA 3 (KA 4 (KA 5 (KA 6 (KA 11 (KA 12 (KA 15 Keeps.nil)))))))) ?_;refine seqR ?_;refine S Mv (S NB ?_);refine nil ?_;refine cE hE (fun hc24 hE=>?_) (fun hc24 hE=>?_)
       ·refine region ?_;refine S Mv (S Mv (S BU (S BV ?_)));obtain⟨x25,gx25,hE⟩:=bO hE;refine sH (appM (f:=TFault.c) (TK rfl) rfl (TK rfl) (TK rfl) ⟨_,rfl⟩ rfl rfl (by decide) rfl rfl rfl rfl hpG rfl gx25) rfl ?_;refine hq (H.set tk1 (some (.tok 2 x25.l.length))) ?_;refine S As ?_;refine nil ?_;exact hK14 _ x25 Weak.toA hE
       refine AWp.draw rfl ?_;refine Sd Mv (Sd Ld (Sd Mv (Sd Ld (Sd Fv (Sd Ld ?_)))));obtain⟨x26,gx26,hE⟩:=bO hE;refine DOps.s0 (callP rfl rfl (fun H=>Z85_walk gx26 H)) rfl ?_;refine Sd Mv ?_;obtain⟨x27,gx27,hE⟩:=bO hE;refine DOps.s0 (callP rfl rfl (fun H=>Z79_walk gx27 H)) rfl ?_;obtain⟨x28,gx28,hE⟩:=bO hE;refine DOps.sH (appM (f:=TFault.c) (TK rfl) rfl (TK rfl) (TK rfl) ⟨_,rfl⟩ rfl rfl (by decide) rfl rfl rfl rfl hpG rfl gx28) rfl ?_
       refine DOps.Dh (H.set tk1 (some (.tok 2 x28.l.length))) ?_;refine Sd As ?_;refine DOps.nil (by decide +kernel) ?_;exact hK14 _ x28 Weak.toA hE
      refine seqR ?_;refine S BI (S As ?_);refine nil ?_;refine cE hE (fun hc30 hE=>?_) (fun hc30 hE=>?_)
      ·refine seqR ?_;refine S Mv (S As ?_);refine nil ?_;refine seqJH (TA 2 (TA 3 (TA 4 (TA 5 (TA 6 (TA 12 (TA 13 KeepsT.nil))))))) (fun(z:(Sl TFault)×Bs)=>[(11,.a (.d (Sl.d 2 TFault.c (some tk1) z.1))),(16,.a (.d (.str z.2)))]) (fun z=>(H.set tk1 (some (.tok 2 z.1.l.length)))) (fun z=>Z86_j32 a0 a1 a4 s12_9 x17 ((Z86_l7 a0 a1 a2 a3 a4 (Z86_n n) n7)) (Z86_n n) z.1 z.2=some r) ?_ ?_
       ·intro K32 hK32;refine seqR ?_;refine S Fv (S Ld (S BS ?_));refine nil ?_;refine cE hE (fun hc38 hE=>?_) (fun hc38 hE=>?_)
        ·refine seqR ?_;refine S Ld (S Fv (S Ld ?_));obtain⟨x40,gx40,hE⟩:=bO hE;refine Sc rfl rfl (Z85_walk gx40) ?_;refine S As ?_;refine nil ?_;refine seqJH (TA 2 (TA 3 (TA 4 (TA 5 (TA 6 (TA 12 (TA 13 (TA 16 KeepsT.nil)))))))) (fun(z:(Sl TFault))=>[(11,.a (.d (Sl.d 2 TFault.c (some tk1) z)))]) (fun z=>(H.set tk1 (some (.tok 2 z.l.length)))) (fun z=>Z86_j41 a0 a1 a3 a4 s12_9 x17 x40 ((Z86_l7 a0 a1 a2 a3 a4 (Z86_n n) n7)) (Z86_n n) z=some r) ?_ ?_
         ·intro K41 hK41;refine seqR ?_;refine S Mv (S BS ?_);refine nil ?_;refine cE hE (fun hc46 hE=>?_) (fun hc46 hE=>?_)
          ·refine region ?_;refine S Mv (S Mv (S BU (S BV ?_)));obtain⟨x47,gx47,hE⟩:=bO hE;refine sH (appM (f:=TFault.c) (TK rfl) rfl (TK rfl) (TK rfl) ⟨_,rfl⟩ rfl rfl (by decide) rfl rfl rfl rfl hpG rfl gx47) rfl ?_;refine hq (H.set tk1 (some (.tok 2 x47.l.length))) ?_;refine S As ?_;refine nil ?_;exact hK41 _ x47 Weak.toA hE
          refine AWp.skip ?_;exact hK41 _ s11_8 Weak.toA hE
         rintro s11_42 hE;try dsimp only at hE
         unfold Z86_j41 at hE;refine region ?_;refine S Mv (S Ld (S Mv (S Mv (S Mv ?_))));obtain⟨x43,gx43,hE⟩:=bO hE;refine Sc rfl rfl (Z79_walk gx43) ?_;obtain⟨x44,gx44,hE⟩:=bO hE;refine sH (appM (f:=TFault.c) (TK rfl) rfl (TK rfl) (TK rfl) ⟨_,rfl⟩ rfl rfl (by decide) rfl rfl rfl rfl hpG rfl gx44) rfl ?_;refine hq (H.set tk1 (some (.tok 2 x44.l.length))) ?_;refine S As ?_;refine nil ?_;exact hK32 _ (x44,x40) Weak.toA hE
        refine AWp.skip ?_;exact hK32 _ (s11_8,a3) Weak.toA hE
       rintro ⟨s11_33,s16_34⟩ hE;try dsimp only at hE
       unfold Z86_j32 at hE;refine region ?_;refine S Mv (S Ld (S Ld (S Fv ?_)));refine s0 (loadV (TK rfl) rfl rfl (congrArg (fun x=>some (A.d x)) (TSel.FSelsD_eq _))) rfl ?_;refine S Mv (S Mv ?_);obtain⟨x35,gx35,hE⟩:=bO hE;refine Sc rfl rfl (ih_39 gx35) ?_;obtain⟨x36,gx36,hE⟩:=bO hE;refine sH (appM (f:=TFault.c) (TK rfl) rfl (TK rfl) (TK rfl) ⟨_,rfl⟩ rfl rfl (by decide) rfl rfl rfl rfl hpG rfl gx36) rfl ?_
       refine hq (H.set tk1 (some (.tok 2 x36.l.length))) ?_;refine S As ?_;refine nil ?_;exact hK14 _ x36 Weak.toA hE
      refine AWp.draw rfl ?_;refine Sd Mv (Sd Ld (Sd Ld (Sd Fv ?_)));refine DOps.s0 (loadV (TK rfl) rfl rfl (congrArg (fun x=>some (A.d x)) (TSel.FSelsD_eq _))) rfl ?_;refine Sd Ld (Sd Mv (Sd Fv (Sd Ld ?_)));obtain⟨x48,gx48,hE⟩:=bO hE;refine DOps.s0 (callP rfl rfl (fun H=>Z89_walk gx48 H)) rfl ?_;refine Sd Mv ?_;obtain⟨x49,gx49,hE⟩:=bO hE;refine DOps.s0 (catM rfl rfl gx49) rfl ?_;refine Sd Ld ?_;obtain⟨x50,gx50,hE⟩:=bO hE
      refine DOps.s0 (callP rfl rfl (fun H=>Z84_walk gx50 H)) rfl ?_;obtain⟨x51,gx51,hE⟩:=bO hE;refine DOps.s0 (catM rfl rfl gx51) rfl ?_;obtain⟨x52,gx52,hE⟩:=bO hE;refine DOps.s0 (callP rfl rfl (fun H=>ih_39 gx52 H)) rfl ?_;obtain⟨x53,gx53,hE⟩:=bO hE;refine DOps.sH (appM (f:=TFault.c) (TK rfl) rfl (TK rfl) (TK rfl) ⟨_,rfl⟩ rfl rfl (by decide) rfl rfl rfl rfl hpG rfl gx53) rfl ?_;refine DOps.Dh (H.set tk1 (some (.tok 2 x53.l.length))) ?_
      refine Sd As ?_;refine DOps.nil (by decide +kernel) ?_;exact hK14 _ x53 Weak.toA hE
     rintro s11_15 hE;try dsimp only at hE
     unfold Z86_j14 at hE;refine region ?_;refine S Mv ?_;refine SI ?_;refine S As ?_;refine nil ?_;exact hK7 _ (n7,s11_15,(s12_9+1)) Weak.toA hE (Nat.lt_succ_self _)
    refine AWp.exit ?_;exact hK3 _ s11_8 Weak.toA hE
 rintro s11_4 hE;try dsimp only at hE
 unfold Z86_j3 at hE;refine seqR ?_;refine S Mv (S As ?_);refine nil ?_;refine AWp.dropTok 10 rfl ?_;refine AWp.ret ?_;repeat (first|refine xBlock_ret ?_|refine xThen_ret ?_)
 obtain rfl:=Option.some.inj hE;refine retQ.retF H rfl ⟨rfl,rfl⟩ ?_
 first|exact Heap.sub_set htk1|(simp only [Heap.set_set]; exact Heap.sub_set htk1)
theorem Z86_all:∀(n:Nat),(∀{a0:TDoc}{a1:TQuery}{a2:Sl TSel}{a3 a4:Bs}{w2:Option Nat}{r:Sl TFault},Z86_n n a0 a1 a2 a3 a4=some r->∀(H:Heap),ACalls Tryz.prog 39 [.agg (TDoc.c a0),.agg (TQuery.c a1),.d (Sl.d 7 TSel.c w2 a2),.d (.str a3),.d (.str a4)] H fun v h'=>v=.a (.d (Sl.d 2 TFault.c none r))/\h'=H)
 | 0=>fun hE=>by first|cases hE|(rw [Z86_n] at hE; cases hE)
 | n+1=>Z86_step n (Z86_all n)
def Z86 (a0:TDoc) (a1:TQuery) (a2:(Sl TSel)) (a3:Bs) (a4:Bs):Option (Sl TFault):=Z86_n F0 a0 a1 a2 a3 a4
theorem Z86_walk {a0:TDoc}{a1:TQuery}{a2:Sl TSel}{a3 a4:Bs}{w2:Option Nat}{r:Sl TFault}(hE:Z86 a0 a1 a2 a3 a4=some r) (H:Heap) :ACalls Tryz.prog 39 [.agg (TDoc.c a0),.agg (TQuery.c a1),.d (Sl.d 7 TSel.c w2 a2),.d (.str a3),.d (.str a4)] H fun v h'=>v=.a (.d (Sl.d 2 TFault.c none r))/\h'=H:=(Z86_all F0) hE H 
def Z50 (a0:Int):Option Bs:=bif (decide (a0=(1:Int))) then(some ([81,117,101,114,121]:Bs)) else(bif (decide (a0=(2:Int))) then(some ([77,117,116,97,116,105,111,110]:Bs)) else(bif (decide (a0=(3:Int))) then(some ([83,117,98,115,99,114,105,112,116,105,111,110]:Bs)) else(some ([]:Bs))))
theorem Z50_walk {a0:Int}{r:Bs}(hE:Z50 a0=some r) (H:Heap) :ACalls Tryz.prog 41 [.d (.int .i64 a0)] H fun v h'=>v=.a (.d (.str r))/\h'=H:=by
 unfold Z50 at hE;refine ACalls.oW 10 [.tmp 2] Tryz.call41 Tryz.func41 ?_;refine seqR ?_;refine S As ?_;refine nil ?_;refine seqK fun K2 hK2=>?_;refine seqR ?_;refine S Mv ?_;refine nil ?_;refine block ?_;refine seqR ?_;refine S BI (S As ?_);refine nil ?_;refine cE hE (fun hc5 hE=>?_) (fun hc5 hE=>?_)
 ·refine seqR ?_;refine S As ?_;refine nil ?_;exact rt hE
 refine seqR ?_;refine S BI (S As ?_);refine nil ?_;refine cE hE (fun hc8 hE=>?_) (fun hc8 hE=>?_)
 ·refine seqR ?_;refine S As ?_;refine nil ?_;exact rt hE
 refine seqR ?_;refine S BI (S As ?_);refine nil ?_;refine cE hE (fun hc11 hE=>?_) (fun hc11 hE=>?_)
 ·refine seqR ?_;refine S As ?_;refine nil ?_;exact rt hE
 refine sk hK2 ?_;clear hK2 K2;refine seqR ?_;refine S As ?_;refine nil ?_;exact rt hE
def Z83_j2  :Option Bool:=some false
def Z83_l5 (a0:(Sl Bs)) (a1:Bs) :Nat->Nat->Option Bool
 | 0,_=>none
 | n5+1,s5_6=>bif (decide (((s5_6:Nat):Int)<((a0.l.length:Nat):Int))) then((a0.l[s5_6]?).bind fun x13=>bif ((x13==a1)) then(some true) else((Z83_l5 a0 a1 n5) (s5_6+1))) else(Z83_j2   )
def Z83 (a0:(Sl Bs)) (a1:Bs):Option Bool:=Z83_l5 a0 a1 (a0.l.length+1) 0
theorem Z83_walk {a0:Sl Bs}{a1:Bs}{w0:Option Nat}{r:Bool}(hE:Z83 a0 a1=some r) (H:Heap) :ACalls Tryz.prog 84 [.d (Sl.d 1 strE w0 a0),.d (.str a1)] H fun v h'=>v=.a (.d (.bool r))/\h'=H:=by
 unfold Z83 at hE;refine ACalls.oW 18 [.tmp 4] Tryz.call84 Tryz.func84 ?_;refine seqR ?_;refine S As ?_;refine nil ?_;refine seqJH KeepsT.nil (fun(z:Unit)=>[]) (fun z=>H) (fun z=>Z83_j2 =some r) ?_ ?_
 ·intro K2 hK2;refine seqR ?_;refine S As ?_;refine nil ?_;refine block ?_;refine loopH (TA 0 (TA 1 KeepsT.nil)) (fun(z:Nat×Nat)=>[(5,.a (.d (.int .i64 ((z.2:Nat):Int))))]) (fun z=>H) (fun z=>z.1) (fun z=>Z83_l5 a0 a1 z.1 z.2=some r) ((a0.l.length+1),0) hE Weak.toA ?_;rintro ⟨n5,s5_6⟩ hE K5 hK5;try dsimp only at hE
  cases n5 with
  | zero=>cases hE
  | succ n5 =>
    rw [Z83_l5] at hE;refine seqK fun K7 hK7=>?_;refine seqR ?_;refine S Mv (S Mv ?_);refine sLen (f:=strE) (s:=a0) (TK rfl) rfl rfl rfl rfl fun hL9=>?_;refine S BI ?_;refine nil ?_;refine cE hE (fun hc10 hE=>?_) (fun hc10 hE=>?_)
    ·try dsimp only at hc10
     have hf10:=of_decide_eq_true hc10;refine sk hK7 ?_;clear hK7 K7;refine seqK fun K11 hK11=>?_;refine block ?_;refine seqR ?_;refine S Mv (S Mv ?_);obtain⟨x13,gx13,hE⟩:=bO hE;refine s0 (idxMn (f:=strE) (n:=s5_6) (TK rfl) rfl (TK rfl) rfl rfl rfl gx13) rfl ?_;refine S Ld (S Mv (S BS ?_));refine nil ?_;refine cE hE (fun hc14 hE=>?_) (fun hc14 hE=>?_)
     ·refine seqR ?_;refine S As ?_;refine nil ?_;exact rt hE
     refine sk hK11 ?_;clear hK11 K11;refine region ?_;refine S Mv ?_;refine SI ?_;refine S As ?_;refine nil ?_;exact hK5 _ (n5,(s5_6+1)) Weak.toA hE (Nat.lt_succ_self _)
    refine AWp.exit ?_;exact hK2 _ () Weak.toA hE
 rintro _ hE;try dsimp only at hE
 unfold Z83_j2 at hE;refine seqR ?_;refine S As ?_;refine nil ?_;exact rt hE
end Go.Proofs

namespace Go.Proofs
open Go Go.Ab
open AOps Cert AWp Keeps KeepsT
variable {lou:Lou}
def Z88_j3  (s2_4:(Sl Bs)) (s8_5:Bool):Option ((Sl Bs)×Bool):=some (s2_4,s8_5)
def Z88_j16 (s9_11:Nat) (k_next_8:(Sl Bs)->Bool->Nat->Option ((Sl Bs)×Bool)) (s2_17:(Sl Bs)) (s8_18:Bool):Option ((Sl Bs)×Bool):=k_next_8 s2_17 s8_18 (s9_11+1)
def Z88_j21 (a0:TQuery) (s9_11:Nat) (k_next_8:(Sl Bs)->Bool->Nat->Option ((Sl Bs)×Bool)) (k_rec_83:TQuery->(Sl TSel)->(Sl Bs)->Option ((Sl Bs)×Bool)) (s2_22:(Sl Bs)) (s8_23:Bool) (s10_24:(Sl TSel)):Option ((Sl Bs)×Bool):=(k_rec_83 a0 s10_24 s2_22).bind fun x26=>Z88_j16 s9_11 k_next_8 x26.1 (s8_23&&x26.2)
def Z88_j34 (a0:TQuery) (s2_9:(Sl Bs)) (s9_11:Nat) (x33:(TFrag×Bool)) (k_next_8:(Sl Bs)->Bool->Nat->Option ((Sl Bs)×Bool)) (k_rec_83:TQuery->(Sl TSel)->(Sl Bs)->Option ((Sl Bs)×Bool)) (s8_35:Bool):Option ((Sl Bs)×Bool):=guardO (!(!x33.2)) (Z83 s2_9 x33.1.FName) false fun x38=>bif ((!x33.2)||x38) then(Z88_j16 s9_11 k_next_8 s2_9 s8_35) else((appC 16 s2_9 (⟨false,[x33.1.FName]⟩:Sl Bs)).bind fun x41=>Z88_j21 a0 s9_11 k_next_8 k_rec_83 x41 s8_35 x33.1.FSels)
def Z88_l8 (a0:TQuery) (a1:(Sl TSel)) (k_rec_83:TQuery->(Sl TSel)->(Sl Bs)->Option ((Sl Bs)×Bool)):Nat->(Sl Bs)->Bool->Nat->Option ((Sl Bs)×Bool)
 | 0,_,_,_=>none
 | n8+1,s2_9,s8_10,s9_11=>bif (decide (((s9_11:Nat):Int)<((a1.l.length:Nat):Int))) then((a1.l[s9_11]?).bind fun x20=>(a1.l[s9_11]?).bind fun x29=>bif (decide (x29.FKind=(2:Int))) then((a1.l[s9_11]?).bind fun x32=>(Z77 a0 x32.FName).bind fun x33=>bif (!x33.2) then(Z88_j34 a0 s2_9 s9_11 x33 ((Z88_l8 a0 a1 k_rec_83 n8)) k_rec_83 false) else(Z88_j34 a0 s2_9 s9_11 x33 ((Z88_l8 a0 a1 k_rec_83 n8)) k_rec_83 s8_10)) else(Z88_j21 a0 s9_11 ((Z88_l8 a0 a1 k_rec_83 n8)) k_rec_83 s2_9 s8_10 x20.FSels)) else(Z88_j3   s2_9 s8_10)
def Z88_n:Nat->TQuery->(Sl TSel)->(Sl Bs)->Option ((Sl Bs)×Bool)
 | 0,_,_,_=>none
 | n+1,a0,a1,a2=>Z88_l8 a0 a1 (Z88_n n) (a1.l.length+1) a2 true 0
theorem Z88_step (n:Nat) (ih_83:∀{a0:TQuery}{a1:Sl TSel}{a2:Sl Bs}{w1:Option Nat}{g2:Nat}{r:((Sl Bs)×Bool)},Z88_n n a0 a1 a2=some r->∀(H:Heap) (hg2:H g2=some (.tok 1 a2.l.length)),ACalls Tryz.prog 83 [.agg (TQuery.c a0),.d (Sl.d 7 TSel.c w1 a1),.d (Sl.d 1 strE (some g2) a2)] H fun v h'=>v=.tup [.d (Sl.d 1 strE (some g2) r.1),.d (.bool r.2)]/\h'=(H.set g2 (some (.tok 1 r.1.l.length)))):∀{a0:TQuery}{a1:Sl TSel}{a2:Sl Bs}{w1:Option Nat}{g2:Nat}{r:((Sl Bs)×Bool)},Z88_n (n+1) a0 a1 a2=some r->∀(H:Heap) (hg2:H g2=some (.tok 1 a2.l.length)),ACalls Tryz.prog 83 [.agg (TQuery.c a0),.d (Sl.d 7 TSel.c w1 a1),.d (Sl.d 1 strE (some g2) a2)] H fun v h'=>v=.tup [.d (Sl.d 1 strE (some g2) r.1),.d (.bool r.2)]/\h'=(H.set g2 (some (.tok 1 r.1.l.length))):=by
 intro a0 a1 a2 w1 g2 r hE H hg2;rw [Z88_n] at hE;refine ACalls.oW 73 [.tmp 6,.tmp 7] Tryz.call83 Tryz.func83 ?_;refine AWp.heqA (h':=(H.set g2 (some (.tok 1 a2.l.length)))) (by funext n_; simp only [Heap.set]; (repeat' split)<;>simp_all) ?_;refine seqR ?_;refine S BX (S As (S As ?_));refine nil ?_;refine seqR ?_;refine S As ?_;refine nil ?_;refine seqJH KeepsT.nil (fun(z:(Sl Bs)×Bool)=>[(2,.a (.d (Sl.d 1 strE (some g2) z.1))),(8,.a (.d (.bool z.2)))]) (fun z=>(H.set g2 (some (.tok 1 z.1.l.length)))) (fun z=>Z88_j3 z.1 z.2=some r) ?_ ?_
 ·intro K3 hK3;refine seqR ?_;refine S As ?_;refine nil ?_;refine block ?_;refine loopH (TA 1 (TA 3 KeepsT.nil)) (fun(z:Nat×(Sl Bs)×Bool×Nat)=>[(2,.a (.d (Sl.d 1 strE (some g2) z.2.1))),(8,.a (.d (.bool z.2.2.1))),(9,.a (.d (.int .i64 ((z.2.2.2:Nat):Int))))]) (fun z=>(H.set g2 (some (.tok 1 z.2.1.l.length)))) (fun z=>z.1) (fun z=>Z88_l8 a0 a1 (Z88_n n) z.1 z.2.1 z.2.2.1 z.2.2.2=some r) ((a1.l.length+1),a2,true,0) hE Weak.toA ?_
  rintro ⟨n8,s2_9,s8_10,s9_11⟩ hE K8 hK8;try dsimp only at hE
  cases n8 with
  | zero=>cases hE
  | succ n8 =>
    rw [Z88_l8] at hE;refine seqK fun K12 hK12=>?_;refine seqR ?_;refine S Mv (S Mv ?_);refine sLen (f:=TSel.c) (s:=a1) (TK rfl) rfl rfl rfl rfl fun hL14=>?_;refine S BI ?_;refine nil ?_;refine cE hE (fun hc15 hE=>?_) (fun hc15 hE=>?_)
    ·try dsimp only at hc15
     have hf15:=of_decide_eq_true hc15;refine sk hK12 ?_;clear hK12 K12;refine seqJH (TA 1 (TA 3 (TA 9 KeepsT.nil))) (fun(z:(Sl Bs)×Bool)=>[(2,.a (.d (Sl.d 1 strE (some g2) z.1))),(8,.a (.d (.bool z.2)))]) (fun z=>(H.set g2 (some (.tok 1 z.1.l.length)))) (fun z=>Z88_j16 s9_11 ((Z88_l8 a0 a1 (Z88_n n) n8)) z.1 z.2=some r) ?_ ?_
     ·intro K16 hK16;refine block ?_;refine seqR ?_;refine S Mv (S Mv ?_);obtain⟨x20,gx20,hE⟩:=bO hE;refine s0 (idxMn (f:=TSel.c) (n:=s9_11) (TK rfl) rfl (TK rfl) rfl rfl rfl gx20) rfl ?_;refine S Fv ?_;refine s0 (loadV (TK rfl) rfl rfl (congrArg (fun x=>some (A.d x)) (TSel.FSelsD_eq _))) rfl ?_;refine S As ?_;refine nil ?_;refine seqJH (TA 1 (TA 3 (TA 9 KeepsT.nil))) (fun(z:(Sl Bs)×Bool×(Sl TSel))=>[(2,.a (.d (Sl.d 1 strE (some g2) z.1))),(8,.a (.d (.bool z.2.1))),(10,.a (.d (Sl.d 7 TSel.c none z.2.2)))]) (fun z=>(H.set g2 (some (.tok 1 z.1.l.length)))) (fun z=>Z88_j21 a0 s9_11 ((Z88_l8 a0 a1 (Z88_n n) n8)) (Z88_n n) z.1 z.2.1 z.2.2=some r) ?_ ?_
      ·intro K21 hK21;refine seqR ?_;refine S Mv (S Mv ?_);obtain⟨x29,gx29,hE⟩:=bO hE;refine s0 (idxMn (f:=TSel.c) (n:=s9_11) (TK rfl) rfl (TK rfl) rfl rfl rfl gx29) rfl ?_;refine S Fv (S Ld (S BI ?_));refine nil ?_;refine cE hE (fun hc30 hE=>?_) (fun hc30 hE=>?_)
       ·refine AWp.seqD ?_;refine Sd Ld (Sd Mv (Sd Mv ?_));obtain⟨x32,gx32,hE⟩:=bO hE;refine DOps.s0 (idxMn (f:=TSel.c) (n:=s9_11) (TK rfl) rfl (TK rfl) rfl rfl rfl gx32) rfl ?_;refine Sd Fv (Sd Ld ?_);obtain⟨x33,gx33,hE⟩:=bO hE;refine DOps.s0 (callP rfl rfl (fun H=>Z77_walk gx33 H)) rfl ?_;refine Sd Mv (Sd EX (Sd EX ?_));refine DOps.sB (TK rfl) rfl rfl ?_ (by repeat (first|exact Snoc.nil|apply Snoc.cons))
        refine DOps.sLn (storeLFA (TK rfl) rfl rfl rfl rfl rfl) ?_;refine Sd As ?_;refine DOps.nil (by decide +kernel) ?_;refine freezeA 11 _ rfl (KA 1 (KA 2 (KA 3 (KA 8 (KA 9 (KA 12 Keeps.nil)))))) ?_;refine seqJH (TA 1 (TA 2 (TA 3 (TA 9 (TA 11 (TA 12 KeepsT.nil)))))) (fun(z:Bool)=>[(8,.a (.d (.bool z)))]) (fun z=>(H.set g2 (some (.tok 1 s2_9.l.length)))) (fun z=>Z88_j34 a0 s2_9 s9_11 x33 ((Z88_l8 a0 a1 (Z88_n n) n8)) (Z88_n n) z=some r) ?_ ?_
        ·intro K34 hK34;refine seqR ?_;refine S Mv (S NB ?_);refine nil ?_;refine cE hE (fun hc43 hE=>?_) (fun hc43 hE=>?_)
         ·refine region ?_;refine S As ?_;refine nil ?_;exact hK34 _ false Weak.toA hE
         refine AWp.skip ?_;exact hK34 _ s8_10 Weak.toA hE
        rintro s8_35 hE;try dsimp only at hE
        unfold Z88_j34 at hE;refine seqK fun K36 hK36=>?_;refine seqR ?_;refine S Mv (S NB (S Mv (g0 Mv (g0 Fv ?_))));refine g1 48 rfl Ld ?_;obtain⟨x38,gx38,hE⟩:=gO hE;refine gc2 47 49 rfl rfl rfl rfl rfl rfl (fun hC=>Z83_walk (gx38 hC)) ?_;refine S PO ?_;refine nil ?_;refine cE hE (fun hc39 hE=>?_) (fun hc39 hE=>?_)
        ·refine AWp.exit ?_;exact hK16 _ (s2_9,s8_35) Weak.toA hE
        refine sk hK36 ?_;clear hK36 K36;refine seqR ?_;refine S Mv (S Fv (S Ld (S BV ?_)));obtain⟨x41,gx41,hE⟩:=bO hE;refine sH (appM (f:=strE) (TK rfl) rfl (TK rfl) (TK rfl) ⟨_,rfl⟩ rfl rfl (by decide) rfl rfl rfl rfl hpG rfl gx41) rfl ?_;refine hq (H.set g2 (some (.tok 1 x41.l.length))) ?_;refine S As ?_;refine nil ?_;refine region ?_;refine S Fv (S Ld (S As ?_));refine nil ?_;exact hK21 _ (x41,s8_35,x33.1.FSels) Weak.toA hE
       refine AWp.skip ?_;exact hK21 _ (s2_9,s8_10,x20.FSels) Weak.toA hE
      rintro ⟨s2_22,s8_23,s10_24⟩ hE;try dsimp only at hE
      unfold Z88_j21 at hE;refine seqR ?_;refine S Ld (S Mv (S Mv ?_));obtain⟨x26,gx26,hE⟩:=bO hE;refine sH (callH rfl rfl (ih_83 gx26 _ hpG)) rfl ?_;refine hq (H.set g2 (some (.tok 1 x26.1.l.length))) ?_;refine S Mv (S EX (S EX (S As (S As ?_))));refine nil ?_;refine seqR ?_;refine S Mv (S As ?_);refine nil ?_;refine region ?_;refine S Mv (S Mv (g0 Mv (S PA (S As ?_))));refine nil ?_;exact hK16 _ (x26.1,(s8_23&&x26.2)) Weak.toA hE
     rintro ⟨s2_17,s8_18⟩ hE;try dsimp only at hE
     unfold Z88_j16 at hE;refine region ?_;refine S Mv ?_;refine SI ?_;refine S As ?_;refine nil ?_;exact hK8 _ (n8,s2_17,s8_18,(s9_11+1)) Weak.toA hE (Nat.lt_succ_self _)
    refine AWp.exit ?_;exact hK3 _ (s2_9,s8_10) Weak.toA hE
 rintro ⟨s2_4,s8_5⟩ hE;try dsimp only at hE
 unfold Z88_j3 at hE;refine seqR ?_;refine S Mv (S Mv (S As (S As ?_)));refine nil ?_;exact rt hE
theorem Z88_all:∀(n:Nat),(∀{a0:TQuery}{a1:Sl TSel}{a2:Sl Bs}{w1:Option Nat}{g2:Nat}{r:((Sl Bs)×Bool)},Z88_n n a0 a1 a2=some r->∀(H:Heap) (hg2:H g2=some (.tok 1 a2.l.length)),ACalls Tryz.prog 83 [.agg (TQuery.c a0),.d (Sl.d 7 TSel.c w1 a1),.d (Sl.d 1 strE (some g2) a2)] H fun v h'=>v=.tup [.d (Sl.d 1 strE (some g2) r.1),.d (.bool r.2)]/\h'=(H.set g2 (some (.tok 1 r.1.l.length))))
 | 0=>fun hE=>by first|cases hE|(rw [Z88_n] at hE; cases hE)
 | n+1=>Z88_step n (Z88_all n)
def Z88 (a0:TQuery) (a1:(Sl TSel)) (a2:(Sl Bs)):Option ((Sl Bs)×Bool):=Z88_n F0 a0 a1 a2
theorem Z88_walk {a0:TQuery}{a1:Sl TSel}{a2:Sl Bs}{w1:Option Nat}{g2:Nat}{r:((Sl Bs)×Bool)}(hE:Z88 a0 a1 a2=some r) (H:Heap) (hg2:H g2=some (.tok 1 a2.l.length)):ACalls Tryz.prog 83 [.agg (TQuery.c a0),.d (Sl.d 7 TSel.c w1 a1),.d (Sl.d 1 strE (some g2) a2)] H fun v h'=>v=.tup [.d (Sl.d 1 strE (some g2) r.1),.d (.bool r.2)]/\h'=(H.set g2 (some (.tok 1 r.1.l.length))):=(Z88_all F0) hE H hg2
def Z80 (a0:TQuery) (a1:TFrag):Option Bool:=(Z88 a0 a1.FSels (Sl.nil:Sl Bs)).bind fun x4=>(Z83 x4.1 a1.FName).bind fun x6=>some x6
theorem Z80_walk {a0:TQuery}{a1:TFrag}{r:Bool}(hE:Z80 a0 a1=some r) (H:Heap) :ACalls Tryz.prog 42 [.agg (TQuery.c a0),.agg (TFrag.c a1)] H fun v h'=>v=.a (.d (.bool r))/\h'=H:=by
 unfold Z80 at hE;refine ACalls.oW 18 [.tmp 4] Tryz.call42 Tryz.func42 ?_;refine seqR ?_;refine S BX (S BX (S As ?_));refine nil ?_;refine AWp.tok 1 fun tk2_3 htk2_3=>?_;refine seqR ?_;refine S Ld (S Fv (S Ld ?_));obtain⟨x4,gx4,hE⟩:=bO hE;refine sH (callH rfl rfl (ACalls.asArgs (.cons (.refl _) (.cons (.refl _) (.cons (AsArg.nil (k':=1) (t:=tk2_3) hpG) .nil))) (Z88_walk gx4 _ hpG))) rfl ?_;refine hq (H.set tk2_3 (some (.tok 1 x4.1.l.length))) ?_
 refine S Mv (S EX (S EX (S As (S As ?_))));refine nil ?_;refine AWp.dropTok 5 rfl ?_;refine seqR ?_;refine S Mv (S Fv (S Ld ?_));obtain⟨x6,gx6,hE⟩:=bO hE;refine Sc rfl rfl (Z83_walk gx6) ?_;refine S As ?_;refine nil ?_;refine AWp.ret ?_;repeat (first|refine xBlock_ret ?_|refine xThen_ret ?_)
 obtain rfl:=Option.some.inj hE;refine retQ.retF H rfl ⟨rfl,rfl⟩ ?_
 first|exact Heap.sub_set htk2_3|(simp only [Heap.set_set]; exact Heap.sub_set htk2_3)
def Z87_j2  :Option Bool:=some false
def Z87_l5 (a0:TQuery) (a1:Bs) :Nat->Nat->Option Bool
 | 0,_=>none
 | n5+1,s5_6=>bif (decide (((s5_6:Nat):Int)<((a0.FOps.l.length:Nat):Int))) then((a0.FOps.l[s5_6]?).bind fun x14=>(Z88 a0 x14.FSels (Sl.nil:Sl Bs)).bind fun x15=>(Z83 x15.1 a1).bind fun x17=>bif x17 then(some true) else((Z87_l5 a0 a1 n5) (s5_6+1))) else(Z87_j2   )
def Z87 (a0:TQuery) (a1:Bs):Option Bool:=Z87_l5 a0 a1 (a0.FOps.l.length+1) 0
theorem Z87_walk {a0:TQuery}{a1:Bs}{r:Bool}(hE:Z87 a0 a1=some r) (H:Heap) :ACalls Tryz.prog 43 [.agg (TQuery.c a0),.d (.str a1)] H fun v h'=>v=.a (.d (.bool r))/\h'=H:=by
 unfold Z87 at hE;refine ACalls.oW 29 [.tmp 4] Tryz.call43 Tryz.func43 ?_;refine seqR ?_;refine S BX (S As ?_);refine nil ?_;refine seqJH KeepsT.nil (fun(z:Unit)=>[]) (fun z=>H) (fun z=>Z87_j2 =some r) ?_ ?_
 ·intro K2 hK2;refine seqR ?_;refine S As ?_;refine nil ?_;refine block ?_;refine loopH (TA 1 (TA 2 KeepsT.nil)) (fun(z:Nat×Nat)=>[(5,.a (.d (.int .i64 ((z.2:Nat):Int))))]) (fun z=>H) (fun z=>z.1) (fun z=>Z87_l5 a0 a1 z.1 z.2=some r) ((a0.FOps.l.length+1),0) hE Weak.toA ?_;rintro ⟨n5,s5_6⟩ hE K5 hK5;try dsimp only at hE
  cases n5 with
  | zero=>cases hE
  | succ n5 =>
    rw [Z87_l5] at hE;refine seqK fun K7 hK7=>?_;refine seqR ?_;refine S Mv (S Fv (S Ld ?_));refine sLen (f:=TOp.c) (s:=a0.FOps) (TK rfl) rfl rfl rfl rfl fun hL9=>?_;refine S BI ?_;refine nil ?_;refine cE hE (fun hc10 hE=>?_) (fun hc10 hE=>?_)
    ·try dsimp only at hc10
     have hf10:=of_decide_eq_true hc10;refine sk hK7 ?_;clear hK7 K7;refine seqK fun K11 hK11=>?_;refine block ?_;refine AWp.tok 1 fun tk2_13 htk2_13=>?_;refine AWp.seqD ?_;refine Sd Ld (Sd Fv (Sd Ld (Sd Mv ?_)));obtain⟨x14,gx14,hE⟩:=bO hE;refine DOps.s0 (idxMn (f:=TOp.c) (n:=s5_6) (TK rfl) rfl (TK rfl) rfl rfl rfl gx14) rfl ?_;refine Sd Fv (Sd Ld ?_);obtain⟨x15,gx15,hE⟩:=bO hE;refine DOps.sH (callH rfl rfl (ACalls.asArgs (.cons (.refl _) (.cons (.refl _) (.cons (AsArg.nil (k':=1) (t:=tk2_13) hpG) .nil))) (Z88_walk gx15 _ hpG))) rfl ?_
     refine DOps.Dh (H.set tk2_13 (some (.tok 1 x15.1.l.length))) ?_;refine Sd Mv (Sd EX (Sd EX (Sd As (Sd As ?_))));refine DOps.nil (by decide +kernel) ?_;refine AWp.dropTok 6 rfl ?_;refine seqR ?_;refine S Mv (S Mv ?_);obtain⟨x17,gx17,hE⟩:=bO hE;refine Sc rfl rfl (Z83_walk gx17) ?_;refine nil ?_;refine cE hE (fun hc18 hE=>?_) (fun hc18 hE=>?_)
     ·refine seqR ?_;refine S As ?_;refine nil ?_;refine AWp.ret ?_;repeat (first|refine xBlock_ret ?_|refine xThen_ret ?_)
      obtain rfl:=Option.some.inj hE;refine retQ.retF H rfl ⟨rfl,rfl⟩ ?_
      first|exact Heap.sub_set htk2_13|(simp only [Heap.set_set]; exact Heap.sub_set htk2_13)
     refine sk hK11 ?_;clear hK11 K11;refine region ?_;refine S Mv ?_;refine SI ?_;refine S As ?_;refine nil ?_;exact hK5 _ (n5,(s5_6+1)) (Weak.toFA (by(intro id_ o_ he_); (have e_tk2_13:id_≠tk2_13:=fun e_=>by rw [e_] at he_; simp [Heap.set,htk2_13] at he_); (rw [<- he_]); (simp only [Heap.set,if_neg e_tk2_13]); (first|done|rfl))) hE (Nat.lt_succ_self _)
    refine AWp.exit ?_;exact hK2 _ () Weak.toA hE
 rintro _ hE;try dsimp only at hE
 unfold Z87_j2 at hE;refine seqR ?_;refine S As ?_;refine nil ?_;exact rt hE
def Z76_j5  (s5_6:(Sl TFault)):Option (Sl TFault):=some s5_6
def Z76_j16 (s7_11:Nat) (k_next_9:(Sl TFault)->Nat->Option (Sl TFault)) (s5_17:(Sl TFault)):Option (Sl TFault):=k_next_9 s5_17 (s7_11+1)
def Z76_j24 (a0:TDoc) (a1:TQuery) (s7_11:Nat) (x19:TFrag) (k_next_9:(Sl TFault)->Nat->Option (Sl TFault)) (s5_25:(Sl TFault)):Option (Sl TFault):=(Z85 a0 x19.FOn).bind fun x26=>(Z86 a0 a1 x19.FSels x26 x19.FName).bind fun x27=>(appC 24 s5_25 x27).bind fun x28=>Z76_j16 s7_11 k_next_9 x28
def Z76_j22 (a0:TDoc) (a1:TQuery) (s7_11:Nat) (x19:TFrag) (k_next_9:(Sl TFault)->Nat->Option (Sl TFault)) (s5_23:(Sl TFault)):Option (Sl TFault):=(Z87 a1 x19.FName).bind fun x30=>bif (!x30) then((appC 24 s5_23 (⟨false,[(TFault.mk (26:Int) x19.FName)]⟩:Sl TFault)).bind fun x32=>Z76_j24 a0 a1 s7_11 x19 k_next_9 x32) else(Z76_j24 a0 a1 s7_11 x19 k_next_9 s5_23)
def Z76_j20 (a0:TDoc) (a1:TQuery) (s7_11:Nat) (x19:TFrag) (k_next_9:(Sl TFault)->Nat->Option (Sl TFault)) (s5_21:(Sl TFault)):Option (Sl TFault):=(Z80 a1 x19).bind fun x34=>bif x34 then((appC 24 s5_21 (⟨false,[(TFault.mk (24:Int) x19.FName)]⟩:Sl TFault)).bind fun x36=>Z76_j22 a0 a1 s7_11 x19 k_next_9 x36) else(Z76_j22 a0 a1 s7_11 x19 k_next_9 s5_21)
def Z76_l9 (a0:TDoc) (a1:TQuery) :Nat->(Sl TFault)->Nat->Option (Sl TFault)
 | 0,_,_=>none
 | n9+1,s5_10,s7_11=>bif (decide (((s7_11:Nat):Int)<((a1.FFrags.l.length:Nat):Int))) then((a1.FFrags.l[s7_11]?).bind fun x19=>(Z85 a0 x19.FOn).bind fun x38=>bif ((x38==([]:Bs))) then((appC 24 s5_10 (⟨false,[(TFault.mk (24:Int) x19.FName)]⟩:Sl TFault)).bind fun x40=>Z76_j20 a0 a1 s7_11 x19 ((Z76_l9 a0 a1 n9)) x40) else(Z76_j20 a0 a1 s7_11 x19 ((Z76_l9 a0 a1 n9)) s5_10)) else(Z76_j5   s5_10)
def Z76_j3 (a0:TDoc) (a1:TQuery)  (s5_4:(Sl TFault)):Option (Sl TFault):=Z76_l9 a0 a1 (a1.FFrags.l.length+1) s5_4 0
def Z76_l42 (a0:TDoc) (a1:TQuery) :Nat->(Sl TFault)->Nat->Option (Sl TFault)
 | 0,_,_=>none
 | n42+1,s5_43,s6_44=>bif (decide (((s6_44:Nat):Int)<((a1.FOps.l.length:Nat):Int))) then((a1.FOps.l[s6_44]?).bind fun x50=>(a1.FOps.l[s6_44]?).bind fun x51=>(Z50 x51.FKind).bind fun x52=>(Z85 a0 x52).bind fun x53=>(a1.FOps.l[s6_44]?).bind fun x54=>(Z86 a0 a1 x50.FSels x53 x54.FName).bind fun x55=>(appC 24 s5_43 x55).bind fun x56=>(Z76_l42 a0 a1 n42) x56 (s6_44+1)) else(Z76_j3 a0 a1  s5_43)
def Z76 (a0:TDoc) (a1:TQuery):Option (Sl TFault):=Z76_l42 a0 a1 (a1.FOps.l.length+1) (Sl.nil:Sl TFault) 0
theorem Z76_walk {a0:TDoc}{a1:TQuery}{r:Sl TFault}(hE:Z76 a0 a1=some r) (H:Heap) :ACalls Tryz.prog 16 [.agg (TDoc.c a0),.agg (TQuery.c a1)] H fun v h'=>v=.a (.d (Sl.d 2 TFault.c none r))/\h'=H:=by
 unfold Z76 at hE;refine ACalls.oW 99 [.tmp 4] Tryz.call16 Tryz.func16 ?_;refine AWp.tok 2 fun tk1 htk1=>?_;refine seqR ?_;refine S BX (S BX ?_);refine s0 (assignNil (k':=2) rfl) rfl ?_;refine nil ?_;refine seqR ?_;refine S As ?_;refine nil ?_;refine AWp.nilTok 5 2 tk1 rfl hpG ?_;refine seqJH (TA 2 (TA 3 KeepsT.nil)) (fun(z:(Sl TFault))=>[(5,.a (.d (Sl.d 2 TFault.c (some tk1) z)))]) (fun z=>(H.set tk1 (some (.tok 2 z.l.length)))) (fun z=>Z76_j3 a0 a1 z=some r) ?_ ?_
 ·intro K3 hK3;refine seqR ?_;refine S As ?_;refine nil ?_;refine block ?_;refine loopH (TA 2 (TA 3 KeepsT.nil)) (fun(z:Nat×(Sl TFault)×Nat)=>[(5,.a (.d (Sl.d 2 TFault.c (some tk1) z.2.1))),(6,.a (.d (.int .i64 ((z.2.2:Nat):Int))))]) (fun z=>(H.set tk1 (some (.tok 2 z.2.1.l.length)))) (fun z=>z.1) (fun z=>Z76_l42 a0 a1 z.1 z.2.1 z.2.2=some r) ((a1.FOps.l.length+1),(Sl.nil:Sl TFault),0) hE Weak.toA ?_
  rintro ⟨n42,s5_43,s6_44⟩ hE K42 hK42;try dsimp only at hE
  cases n42 with
  | zero=>cases hE
  | succ n42 =>
    rw [Z76_l42] at hE;refine seqK fun K45 hK45=>?_;refine seqR ?_;refine S Mv (S Fv (S Ld ?_));refine sLen (f:=TOp.c) (s:=a1.FOps) (TK rfl) rfl rfl rfl rfl fun hL47=>?_;refine S BI ?_;refine nil ?_;refine cE hE (fun hc48 hE=>?_) (fun hc48 hE=>?_)
    ·try dsimp only at hc48
     have hf48:=of_decide_eq_true hc48;refine sk hK45 ?_;clear hK45 K45;refine seqK fun K49 hK49=>?_;refine block ?_;refine AWp.draw rfl ?_;refine Sd Mv (Sd Ld (Sd Ld (Sd Fv (Sd Ld (Sd Mv ?_)))));obtain⟨x50,gx50,hE⟩:=bO hE;refine DOps.s0 (idxMn (f:=TOp.c) (n:=s6_44) (TK rfl) rfl (TK rfl) rfl rfl rfl gx50) rfl ?_;refine Sd Fv (Sd Ld (Sd Ld (Sd Fv (Sd Ld (Sd Mv ?_)))));obtain⟨x51,gx51,hE⟩:=bO hE;refine DOps.s0 (idxMn (f:=TOp.c) (n:=s6_44) (TK rfl) rfl (TK rfl) rfl rfl rfl gx51) rfl ?_
     refine Sd Fv (Sd Ld ?_);obtain⟨x52,gx52,hE⟩:=bO hE;refine DOps.s0 (callP rfl rfl (fun H=>Z50_walk gx52 H)) rfl ?_;obtain⟨x53,gx53,hE⟩:=bO hE;refine DOps.s0 (callP rfl rfl (fun H=>Z85_walk gx53 H)) rfl ?_;refine Sd Fv (Sd Ld (Sd Mv ?_));obtain⟨x54,gx54,hE⟩:=bO hE;refine DOps.s0 (idxMn (f:=TOp.c) (n:=s6_44) (TK rfl) rfl (TK rfl) rfl rfl rfl gx54) rfl ?_;refine Sd Fv (Sd Ld ?_);obtain⟨x55,gx55,hE⟩:=bO hE
     refine DOps.s0 (callP rfl rfl (fun H=>Z86_walk gx55 H)) rfl ?_;obtain⟨x56,gx56,hE⟩:=bO hE;refine DOps.sH (appM (f:=TFault.c) (TK rfl) rfl (TK rfl) (TK rfl) ⟨_,rfl⟩ rfl rfl (by decide) rfl rfl rfl rfl hpG rfl gx56) rfl ?_;refine DOps.Dh (H.set tk1 (some (.tok 2 x56.l.length))) ?_;refine Sd As ?_;refine DOps.nil (by decide +kernel) ?_;refine hK49 _ ?_;clear hK49 K49;refine region ?_;refine S Mv ?_
     refine SI ?_;refine S As ?_;refine nil ?_;exact hK42 _ (n42,x56,(s6_44+1)) Weak.toA hE (Nat.lt_succ_self _)
    refine AWp.exit ?_;exact hK3 _ s5_43 Weak.toA hE
 rintro s5_4 hE;try dsimp only at hE
 unfold Z76_j3 at hE;refine seqJH KeepsT.nil (fun(z:(Sl TFault))=>[(5,.a (.d (Sl.d 2 TFault.c (some tk1) z)))]) (fun z=>(H.set tk1 (some (.tok 2 z.l.length)))) (fun z=>Z76_j5 z=some r) ?_ ?_
 ·intro K5 hK5;refine seqR ?_;refine S As ?_;refine nil ?_;refine block ?_;refine loopH (TA 2 (TA 3 KeepsT.nil)) (fun(z:Nat×(Sl TFault)×Nat)=>[(5,.a (.d (Sl.d 2 TFault.c (some tk1) z.2.1))),(7,.a (.d (.int .i64 ((z.2.2:Nat):Int))))]) (fun z=>(H.set tk1 (some (.tok 2 z.2.1.l.length)))) (fun z=>z.1) (fun z=>Z76_l9 a0 a1 z.1 z.2.1 z.2.2=some r) ((a1.FFrags.l.length+1),s5_4,0) hE Weak.toA ?_;rintro ⟨n9,s5_10,s7_11⟩ hE K9 hK9
  try dsimp only at hE
  cases n9 with
  | zero=>cases hE
  | succ n9 =>
    rw [Z76_l9] at hE;refine seqK fun K12 hK12=>?_;refine seqR ?_;refine S Mv (S Fv (S Ld ?_));refine sLen (f:=TFrag.c) (s:=a1.FFrags) (TK rfl) rfl rfl rfl rfl fun hL14=>?_;refine S BI ?_;refine nil ?_;refine cE hE (fun hc15 hE=>?_) (fun hc15 hE=>?_)
    ·try dsimp only at hc15
     have hf15:=of_decide_eq_true hc15;refine sk hK12 ?_;clear hK12 K12;refine seqJH (TA 2 (TA 3 (TA 7 KeepsT.nil))) (fun(z:(Sl TFault))=>[(5,.a (.d (Sl.d 2 TFault.c (some tk1) z)))]) (fun z=>(H.set tk1 (some (.tok 2 z.l.length)))) (fun z=>Z76_j16 s7_11 ((Z76_l9 a0 a1 n9)) z=some r) ?_ ?_
     ·intro K16 hK16;refine block ?_;refine seqR ?_;refine S Fv (S Ld (S Mv ?_));obtain⟨x19,gx19,hE⟩:=bO hE;refine s0 (idxMn (f:=TFrag.c) (n:=s7_11) (TK rfl) rfl (TK rfl) rfl rfl rfl gx19) rfl ?_;refine S Ld ?_;refine Sl ?_;refine Sf ?_;refine nil ?_;refine freezeA 8 _ rfl (KA 2 (KA 3 (KA 5 (KA 7 Keeps.nil)))) ?_;refine seqJH (TA 2 (TA 3 (TA 7 (TA 8 KeepsT.nil)))) (fun(z:(Sl TFault))=>[(5,.a (.d (Sl.d 2 TFault.c (some tk1) z)))]) (fun z=>(H.set tk1 (some (.tok 2 z.l.length)))) (fun z=>Z76_j20 a0 a1 s7_11 x19 ((Z76_l9 a0 a1 n9)) z=some r) ?_ ?_
      ·intro K20 hK20;refine seqR ?_;refine S Ld (S Fv (S Ld ?_));obtain⟨x38,gx38,hE⟩:=bO hE;refine Sc rfl rfl (Z85_walk gx38) ?_;refine S BS ?_;refine nil ?_;refine cE hE (fun hc39 hE=>?_) (fun hc39 hE=>?_)
       ·refine region ?_;refine S Mv (S Fv (S Ld (S BU (S BV ?_))));obtain⟨x40,gx40,hE⟩:=bO hE;refine sH (appM (f:=TFault.c) (TK rfl) rfl (TK rfl) (TK rfl) ⟨_,rfl⟩ rfl rfl (by decide) rfl rfl rfl rfl hpG rfl gx40) rfl ?_;refine hq (H.set tk1 (some (.tok 2 x40.l.length))) ?_;refine S As ?_;refine nil ?_;exact hK20 _ x40 Weak.toA hE
       refine AWp.skip ?_;exact hK20 _ s5_10 Weak.toA hE
      rintro s5_21 hE;try dsimp only at hE
      unfold Z76_j20 at hE;refine seqJH (TA 2 (TA 3 (TA 7 (TA 8 KeepsT.nil)))) (fun(z:(Sl TFault))=>[(5,.a (.d (Sl.d 2 TFault.c (some tk1) z)))]) (fun z=>(H.set tk1 (some (.tok 2 z.l.length)))) (fun z=>Z76_j22 a0 a1 s7_11 x19 ((Z76_l9 a0 a1 n9)) z=some r) ?_ ?_
      ·intro K22 hK22;refine seqR ?_;refine S Ld (S Ld ?_);obtain⟨x34,gx34,hE⟩:=bO hE;refine Sc rfl rfl (Z80_walk gx34) ?_;refine nil ?_;refine cE hE (fun hc35 hE=>?_) (fun hc35 hE=>?_)
       ·refine region ?_;refine S Mv (S Fv (S Ld (S BU (S BV ?_))));obtain⟨x36,gx36,hE⟩:=bO hE;refine sH (appM (f:=TFault.c) (TK rfl) rfl (TK rfl) (TK rfl) ⟨_,rfl⟩ rfl rfl (by decide) rfl rfl rfl rfl hpG rfl gx36) rfl ?_;refine hq (H.set tk1 (some (.tok 2 x36.l.length))) ?_;refine S As ?_;refine nil ?_;exact hK22 _ x36 Weak.toA hE
       refine AWp.skip ?_;exact hK22 _ s5_21 Weak.toA hE
      rintro s5_23 hE;try dsimp only at hE
      unfold Z76_j22 at hE;refine seqJH (TA 2 (TA 3 (TA 7 (TA 8 KeepsT.nil)))) (fun(z:(Sl TFault))=>[(5,.a (.d (Sl.d 2 TFault.c (some tk1) z)))]) (fun z=>(H.set tk1 (some (.tok 2 z.l.length)))) (fun z=>Z76_j24 a0 a1 s7_11 x19 ((Z76_l9 a0 a1 n9)) z=some r) ?_ ?_
      ·intro K24 hK24;refine seqR ?_;refine S Ld (S Fv (S Ld ?_));obtain⟨x30,gx30,hE⟩:=bO hE;refine Sc rfl rfl (Z87_walk gx30) ?_;refine S NB ?_;refine nil ?_;refine cE hE (fun hc31 hE=>?_) (fun hc31 hE=>?_)
       ·refine region ?_;refine S Mv (S Fv (S Ld (S BU (S BV ?_))));obtain⟨x32,gx32,hE⟩:=bO hE;refine sH (appM (f:=TFault.c) (TK rfl) rfl (TK rfl) (TK rfl) ⟨_,rfl⟩ rfl rfl (by decide) rfl rfl rfl rfl hpG rfl gx32) rfl ?_;refine hq (H.set tk1 (some (.tok 2 x32.l.length))) ?_;refine S As ?_;refine nil ?_;exact hK24 _ x32 Weak.toA hE
       refine AWp.skip ?_;exact hK24 _ s5_23 Weak.toA hE
      rintro s5_25 hE;try dsimp only at hE
      unfold Z76_j24 at hE;refine AWp.draw rfl ?_;refine Sd Mv (Sd Ld (Sd Ld (Sd Fv (Sd Ld (Sd Ld (Sd Fv (Sd Ld ?_)))))));obtain⟨x26,gx26,hE⟩:=bO hE;refine DOps.s0 (callP rfl rfl (fun H=>Z85_walk gx26 H)) rfl ?_;refine Sd Fv (Sd Ld ?_);obtain⟨x27,gx27,hE⟩:=bO hE;refine DOps.s0 (callP rfl rfl (fun H=>Z86_walk gx27 H)) rfl ?_;obtain⟨x28,gx28,hE⟩:=bO hE;refine DOps.sH (appM (f:=TFault.c) (TK rfl) rfl (TK rfl) (TK rfl) ⟨_,rfl⟩ rfl rfl (by decide) rfl rfl rfl rfl hpG rfl gx28) rfl ?_
      refine DOps.Dh (H.set tk1 (some (.tok 2 x28.l.length))) ?_;refine Sd As ?_;refine DOps.nil (by decide +kernel) ?_;exact hK16 _ x28 Weak.toA hE
     rintro s5_17 hE;try dsimp only at hE
     unfold Z76_j16 at hE;refine region ?_;refine S Mv ?_;refine SI ?_;refine S As ?_;refine nil ?_;exact hK9 _ (n9,s5_17,(s7_11+1)) Weak.toA hE (Nat.lt_succ_self _)
    refine AWp.exit ?_;exact hK5 _ s5_10 Weak.toA hE
 rintro s5_6 hE;try dsimp only at hE
 unfold Z76_j5 at hE;refine seqR ?_;refine S Mv (S As ?_);refine nil ?_;refine AWp.dropTok 4 rfl ?_;refine AWp.ret ?_;repeat (first|refine xBlock_ret ?_|refine xThen_ret ?_)
 obtain rfl:=Option.some.inj hE;refine retQ.retF H rfl ⟨rfl,rfl⟩ ?_
 first|exact Heap.sub_set htk1|(simp only [Heap.set_set]; exact Heap.sub_set htk1)
def Z15 (a0:TDoc) (a1:TQuery):Option Bool:=(Z48 a0).bind fun x3=>guardO ((!x3)) (Z78 a1) false fun x4=>guardO (((!x3)&&(!x4))) (Z34 a1) false fun x5=>guardO ((((!x3)&&(!x4))&&x5)) (Z41 a0 false) (Sl.nil:Sl TFault) fun x6=>guardO (((((!x3)&&(!x4))&&x5)&&(decide (((x6.l.length:Nat):Int)=(0:Int))))) (Z64 a0) (Sl.nil:Sl TFault) fun x7=>guardO ((((((!x3)&&(!x4))&&x5)&&(decide (((x6.l.length:Nat):Int)=(0:Int))))&&(decide (((x7.l.length:Nat):Int)=(0:Int))))) (Z76 a0 a1) (Sl.nil:Sl TFault) fun x8=>some ((((((!x3)&&(!x4))&&x5)&&(decide (((x6.l.length:Nat):Int)=(0:Int))))&&(decide (((x7.l.length:Nat):Int)=(0:Int))))&&(decide (((x8.l.length:Nat):Int)=(0:Int))))
theorem Z15_walk {a0:TDoc}{a1:TQuery}{r:Bool}(hE:Z15 a0 a1=some r) (H:Heap) :ACalls Tryz.prog 5 [.agg (TDoc.c a0),.agg (TQuery.c a1)] H fun v h'=>v=.a (.d (.bool r))/\h'=H:=by
 unfold Z15 at hE;refine ACalls.oW 36 [.tmp 4] Tryz.call5 Tryz.func5 ?_;refine seqR ?_;refine S BX (S BX (S As ?_));refine nil ?_;refine seqR ?_;refine S Ld ?_;obtain⟨x3,gx3,hE⟩:=bO hE;refine Sc rfl rfl (Z48_walk gx3) ?_;refine S NB (S Mv (g0 Ld ?_));obtain⟨x4,gx4,hE⟩:=gO hE;refine gc1 9 rfl rfl rfl rfl rfl (fun hC=>Z78_walk (gx4 hC)) ?_;refine g1 10 rfl NB ?_;refine S PA (S Mv (g0 Ld ?_));obtain⟨x5,gx5,hE⟩:=gO hE
 refine gc1 14 rfl rfl rfl rfl rfl (fun hC=>Z34_walk (gx5 hC)) ?_;refine S PA (S Mv (g0 Ld ?_));obtain⟨x6,gx6,hE⟩:=gO hE;refine gc1 18 rfl rfl rfl rfl rfl (fun hC=>Z41_walk (gx6 hC)) ?_;refine gC rfl rfl (fun hC=>ungdA (k:=19) rfl (lenM' (f:=TFault.c) (s:=x6) (TK rfl) rfl rfl rfl)) rfl ?_;refine g1 20 rfl BI ?_;refine S PA (S Mv (g0 Ld ?_));obtain⟨x7,gx7,hE⟩:=gO hE;refine gc1 24 rfl rfl rfl rfl rfl (fun hC=>Z64_walk (gx7 hC)) ?_
 refine gC rfl rfl (fun hC=>ungdA (k:=25) rfl (lenM' (f:=TFault.c) (s:=x7) (TK rfl) rfl rfl rfl)) rfl ?_;refine g1 26 rfl BI ?_;refine S PA (S Mv (g0 Ld (g0 Ld ?_)));obtain⟨x8,gx8,hE⟩:=gO hE;refine gc2 30 31 rfl rfl rfl rfl rfl rfl (fun hC=>Z76_walk (gx8 hC)) ?_;refine gC rfl rfl (fun hC=>ungdA (k:=32) rfl (lenM' (f:=TFault.c) (s:=x8) (TK rfl) rfl rfl rfl)) rfl ?_;refine g1 33 rfl BI ?_;refine S PA (S As ?_)
 refine nil ?_;exact rt hE
def Z9_j2  (y3_l0:TFrag):Option (TFrag×Bool):=some ((TFrag.mk ([]:Bs) ([]:Bs) (Sl.nil:Sl TSel)),false)
def Z9_l7 (a0:TQuery) (a1:Bs) :Nat->Nat->TFrag->Option (TFrag×Bool)
 | 0,_,_=>none
 | n7+1,s11_8,y9_l0=>bif (decide (((s11_8:Nat):Int)<((a0.FFrags.l.length:Nat):Int))) then((a0.FFrags.l[s11_8]?).bind fun x15=>bif ((x15.FName==a1)) then(some (x15,true)) else((Z9_l7 a0 a1 n7) (s11_8+1) y9_l0)) else(Z9_j2   y9_l0)
def Z9 (a0:TQuery) (a1:Bs):Option (TFrag×Bool):=Z9_l7 a0 a1 (a0.FFrags.l.length+1) 0 TFrag.zero
theorem Z9_walk {a0:TQuery}{a1:Bs}{r:TFrag×Bool}(hE:Z9 a0 a1=some r) (H:Heap) :ACalls Tryz.prog 21 [.agg (TQuery.c a0),.d (.str a1)] H fun v h'=>v=.tup [.agg (TFrag.c r.1),.d (.bool r.2)]/\h'=H:=by
 unfold Z9 at hE;refine ACalls.oW 22 [.cell 4 65,.tmp 5] Tryz.call21 Tryz.func21 ?_;refine seqR ?_;refine S BX ?_;refine Sl ?_;refine S As ?_;refine nil ?_;refine seqJ (TA 4 KeepsT.nil) (fun(z:TFrag)=>[]) (fun z=>[TFrag.c z]) (fun z=>H) (fun z=>Z9_j2 z=some r) ?_ ?_
 ·intro K2 hK2;refine seqR ?_;refine S Fv (S Ld ?_);refine sLen (f:=TFrag.c) (s:=a0.FFrags) (TK rfl) rfl rfl rfl rfl fun hL6=>?_;refine S Mv ?_;refine nil ?_;refine block ?_;refine loopO (TA 1 (TA 4 (TA 9 (TA 10 KeepsT.nil)))) (fun(z:Nat×Nat×TFrag)=>[(11,.a (.d (.int .i64 ((z.2.1:Nat):Int))))]) (fun z=>[TFrag.c z.2.2]) (fun z=>H) (fun z=>z.1) (fun z=>Z9_l7 a0 a1 z.1 z.2.1 z.2.2=some r) ((a0.FFrags.l.length+1),0,TFrag.zero) hE Weak.toA ?_
  rintro ⟨n7,s11_8,y9_l0⟩ hE K7 hK7;try dsimp only at hE
  cases n7 with
  | zero=>cases hE
  | succ n7 =>
    rw [Z9_l7] at hE;refine seqR ?_;refine S BI ?_;refine nil ?_;refine seqK fun K11 hK11=>?_;refine cE hE (fun hc12 hE=>?_) (fun hc12 hE=>?_)
    ·try dsimp only at hc12
     have hf12:=of_decide_eq_true hc12;refine sk hK11 ?_;clear hK11 K11;refine seqK fun K13 hK13=>?_;refine block ?_;refine seqR ?_;obtain⟨x15,gx15,hE⟩:=bO hE;refine s0 (idxMn (f:=TFrag.c) (n:=s11_8) (TK rfl) rfl (TK rfl) rfl rfl rfl gx15) rfl ?_;refine S Ld ?_;refine Sl ?_;refine Sf ?_;refine nil ?_;refine freezeA 7 _ rfl (KA 1 (KA 4 (KA 9 (KA 10 (KA 11 Keeps.nil))))) ?_;refine seqR ?_;refine S Fv (S Ld (S Mv (S BS ?_)))
     refine nil ?_;refine cE hE (fun hc17 hE=>?_) (fun hc17 hE=>?_)
     ·refine seqR ?_;refine S Ld ?_;refine Sf ?_;refine S As ?_;refine nil ?_;exact rt hE
     refine sk hK13 ?_;clear hK13 K13;refine region ?_;refine SI ?_;refine S Mv ?_;refine nil ?_;exact hK7 _ (n7,(s11_8+1),y9_l0) Weak.toA hE (Nat.lt_succ_self _)
    refine AWp.exit ?_;exact hK2 _ y9_l0 Weak.toA hE
 rintro y3_l0 hE;try dsimp only at hE
 unfold Z9_j2 at hE;refine seqR ?_;refine S BU ?_;refine Sf ?_;refine S As ?_;refine nil ?_;exact rt hE
end Go.Proofs
