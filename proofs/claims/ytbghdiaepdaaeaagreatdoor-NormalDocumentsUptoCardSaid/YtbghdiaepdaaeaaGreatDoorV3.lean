import Derived.Test.YtbghdiaepdaaeaaGreatDoorV2
set_option maxRecDepth 100000
set_option maxHeartbeats 2000000
set_option linter.unusedVariables false
set_option linter.unusedSimpArgs false
namespace Go.Proofs
open Go Go.Ab
open AOps Cert AWp Keeps KeepsT
variable {lou:Lou}
def Z97_j2  :Option Int:=some (-1:Int)
def Z97_l6 (a0:(Sl Z11)) (a1:(Z11->Option Bool)) :Nat->Nat->Option Int
 | 0,_=>none
 | n6+1,s8_7=>bif (decide (((s8_7:Nat):Int)<((a0.l.length:Nat):Int))) then((a0.l[s8_7]?).bind fun x14=>(a1 x14).bind fun x15=>bif x15 then(some ((s8_7:Nat):Int)) else((Z97_l6 a0 a1 n6) (s8_7+1))) else(Z97_j2   )
def Z97 (a0:(Sl Z11)) (a1:(Z11->Option Bool)):Option Int:=Z97_l6 a0 a1 (a0.l.length+1) 0
theorem Z97_walk {a0:Sl Z11}{a1:Z11->Option Bool}{w0:Option Nat}{cl1:List D}{k1:Nat}{r:Int}(hE:Z97 a0 a1=some r) (H:Heap) (hf1:∀x0 r,a1 x0=some r->∀H,AC Tryz.prog k1 ([.agg (Z11.c x0)]++cl1.map A.d) H fun v h'=>v=.a (.d (.bool r))/\h'=H):AC Tryz.prog 269 [.d (Sl.d 5 Z11.c w0 a0),.d (.func k1 cl1)] H fun v h'=>v=.a (.d (.int .i64 r))/\h'=H:=by
 unfold Z97 at hE;refine AC.oW 19 [.tmp 4] Tryz.call269 Tryz.func269 ?_;refine seqR (S As (nil ?_));refine seqJH kN (fun(z:Unit)=>[]) (fun z=>H) (fun z=>Z97_j2 =some r) ?_ ?_
 ·intro K2 hK2;refine seqR (S Mv ?_);refine sLen (f:=Z11.c) (s:=a0) (TK rfl) rfl rfl rfl rfl fun hL5=>?_;refine S Mv (nil ?_);refine block ?_;refine loopH (TA 0 (TA 1 (TA 7 kN))) (fun(z:Nat×Nat)=>[(8,.a (.d (.int .i64 ((z.2:Nat):Int))))]) (fun z=>H) (fun z=>z.1) (fun z=>Z97_l6 a0 a1 z.1 z.2=some r) ((a0.l.length+1),0) hE wA ?_;rintro ⟨n6,s8_7⟩ hE K6 hK6;try dsimp only at hE
  cases n6 with
  | zero=>cases hE
  | succ n6 =>
    rw [Z97_l6] at hE;refine seqR (S BI (nil ?_));refine seqK fun K9 hK9=>?_;refine cE hE (fun hc10 hE=>?_) (fun hc10 hE=>?_)
    ·try dsimp only at hc10
     have hf10:=oD hc10;refine sk hK9 ?_;clear hK9 K9;refine seqK fun K11 hK11=>?_;refine block ?_;refine seqR (S Mv (S As (nil ?_)));refine seqR (S Mv (S Mv (S Mv ?_)));obtain⟨x14,gx14,hE⟩:=bO hE;refine S (ix Z11.c s8_7 gx14) (S Ld ?_);obtain⟨x15,gx15,hE⟩:=bO hE;refine s0 (callP rfl rfl (hf1 _ _ gx15)) rfl ?_;refine nil ?_;refine cE hE (fun hc16 hE=>?_) (fun hc16 hE=>?_)
     ·refine seqR (S Mv (S As (nil ?_)));exact rt hE
     refine sk hK11 ?_;clear hK11 K11;refine region ?_;refine SI ?_;refine S Mv (nil ?_);exact hK6 _ (n6,(s8_7+1)) wA hE (nS _)
    refine AWp.exit ?_;exact hK2 _ () wA hE
 rintro _ hE;try dsimp only at hE
 unfold Z97_j2 at hE;refine seqR (S As (nil ?_));exact rt hE
def Z88 (a0:(Sl Z11)) (a1:(Z11->Option Bool)):Option Bool:=(Z97 a0 a1).bind fun x3=>some (decide ((0:Int)<=x3))
theorem Z88_walk {a0:Sl Z11}{a1:Z11->Option Bool}{w0:Option Nat}{cl1:List D}{k1:Nat}{r:Bool}(hE:Z88 a0 a1=some r) (H:Heap) (hf1:∀x0 r,a1 x0=some r->∀H,AC Tryz.prog k1 ([.agg (Z11.c x0)]++cl1.map A.d) H fun v h'=>v=.a (.d (.bool r))/\h'=H):AC Tryz.prog 247 [.d (Sl.d 5 Z11.c w0 a0),.d (.func k1 cl1)] H fun v h'=>v=.a (.d (.bool r))/\h'=H:=by
 unfold Z88 at hE;refine AC.oW 9 [.tmp 4] Tryz.call247 Tryz.func247 ?_;refine seqR (S As (nil ?_));refine seqR (S Mv (S Mv ?_));obtain⟨x3,gx3,hE⟩:=bO hE;refine s0 (callP rfl rfl (fun H=>Z97_walk gx3 H hf1)) rfl ?_;refine S BI (S As (nil ?_));exact rt hE
mutual
def value_every_n:Nat->Z11->Bool->Option Bool
 | 0,_,_=>none
 | n+1,a0,a1=>(Z136 a0 a1).bind fun x3=>guardO (x3) (Z88 a0.FItems (fun y0=>(Z134_n n) y0 a1)) false fun x4=>some (x3&&(!x4))
def Z134_n:Nat->Z11->Bool->Option Bool
 | 0,_,_=>none
 | n+1,a0,a1=>((value_every_n n) a0 a1).bind fun x3=>some (!x3)
end
theorem value_every_step (n:Nat) (ih_216:∀{a0:Z11}{a1 r:Bool},value_every_n n a0 a1=some r->∀(H:Heap),AC Tryz.prog 216 [.agg (Z11.c a0),.d (.bool a1)] H fun v h'=>v=.a (.d (.bool r))/\h'=H) (ih_248:∀{a0:Z11}{a1 r:Bool},Z134_n n a0 a1=some r->∀(H:Heap),AC Tryz.prog 248 [.agg (Z11.c a0),.d (.view (boolE a1))] H fun v h'=>v=.a (.d (.bool r))/\h'=H):∀{a0:Z11}{a1 r:Bool},value_every_n (n+1) a0 a1=some r->∀(H:Heap),AC Tryz.prog 216 [.agg (Z11.c a0),.d (.bool a1)] H fun v h'=>v=.a (.d (.bool r))/\h'=H:=by
 intro a0 a1   r hE H ;rw [value_every_n] at hE;refine AC.oW 15 [.tmp 4] Tryz.call216 Tryz.func216 ?_;refine seqR (S BX (S BX (S As (nil ?_))));refine seqR (S Ld (S Ld ?_));obtain⟨x3,gx3,hE⟩:=bO hE;refine Sc rfl rfl (Z136_walk gx3) ?_;refine S Mv (G0 Fv ?_);refine gC rfl rfl (fun hC=>ungdA (k:=9) rfl (loadV (TK rfl) rfl rfl (congrArg (fun x=>some (A.d x)) (Z11.FItemsD_eq _)))) rfl ?_;refine gC rfl rfl (fun hC=>makeFunc rfl) rfl ?_
 obtain⟨x4,gx4,hE⟩:=gO hE;refine gC rfl rfl (fun hC=>ungdA (k:=10) rfl (ungdA (k:=11) rfl (callP rfl rfl (fun H=>Z88_walk (gx4 hC) H (fun _ _ hx=>ih_248 hx))))) rfl ?_;refine G1 12 rfl NB ?_;refine S PA (S As (nil ?_));exact rt hE
theorem Z134_step (n:Nat) (ih_216:∀{a0:Z11}{a1 r:Bool},value_every_n n a0 a1=some r->∀(H:Heap),AC Tryz.prog 216 [.agg (Z11.c a0),.d (.bool a1)] H fun v h'=>v=.a (.d (.bool r))/\h'=H) (ih_248:∀{a0:Z11}{a1 r:Bool},Z134_n n a0 a1=some r->∀(H:Heap),AC Tryz.prog 248 [.agg (Z11.c a0),.d (.view (boolE a1))] H fun v h'=>v=.a (.d (.bool r))/\h'=H):∀{a0:Z11}{a1 r:Bool},Z134_n (n+1) a0 a1=some r->∀(H:Heap),AC Tryz.prog 248 [.agg (Z11.c a0),.d (.view (boolE a1))] H fun v h'=>v=.a (.d (.bool r))/\h'=H:=by
 intro a0 a1   r hE H ;rw [Z134_n] at hE;refine AC.oW 8 [.tmp 3] Tryz.call248 Tryz.func248 ?_;refine seqR (S BX (S As (nil ?_)));refine seqR (S Ld (S Ld ?_));obtain⟨x3,gx3,hE⟩:=bO hE;refine Sc rfl rfl (ih_216 gx3) ?_;refine S NB (S As (nil ?_));exact rt hE
theorem value_every_all:∀(n:Nat),(∀{a0:Z11}{a1 r:Bool},value_every_n n a0 a1=some r->∀(H:Heap),AC Tryz.prog 216 [.agg (Z11.c a0),.d (.bool a1)] H fun v h'=>v=.a (.d (.bool r))/\h'=H)/\(∀{a0:Z11}{a1 r:Bool},Z134_n n a0 a1=some r->∀(H:Heap),AC Tryz.prog 248 [.agg (Z11.c a0),.d (.view (boolE a1))] H fun v h'=>v=.a (.d (.bool r))/\h'=H)
 | 0=>⟨fun hE=>by first|cases hE|(rw [value_every_n] at hE; cases hE),fun hE=>by first|cases hE|(rw [Z134_n] at hE; cases hE)⟩
 | n+1=>⟨value_every_step n (value_every_all n).1 (value_every_all n).2,Z134_step n (value_every_all n).1 (value_every_all n).2⟩
def value_every (a0:Z11) (a1:Bool):Option Bool:=value_every_n F0 a0 a1
theorem value_every_walk {a0:Z11}{a1 r:Bool}(hE:value_every a0 a1=some r) (H:Heap) :AC Tryz.prog 216 [.agg (Z11.c a0),.d (.bool a1)] H fun v h'=>v=.a (.d (.bool r))/\h'=H:=(value_every_all F0).1 hE H 
def Z129 (a0:Z11):Option Bool:=(Z131 a0).bind fun x3=>guardO ((decide (x3<=(4096:Int)))) (Z126 a0) (0:Int) fun x4=>guardO (((decide (x3<=(4096:Int)))&&(decide (x4<=(24:Int))))) (value_every a0 false) false fun x5=>some (((decide (x3<=(4096:Int)))&&(decide (x4<=(24:Int))))&&x5)
theorem Z129_walk {a0:Z11}{r:Bool}(hE:Z129 a0=some r) (H:Heap) :AC Tryz.prog 172 [.agg (Z11.c a0)] H fun v h'=>v=.a (.d (.bool r))/\h'=H:=by
 unfold Z129 at hE;refine AC.oW 15 [.tmp 2] Tryz.call172 Tryz.func172 ?_;refine seqR (S BX (S As (nil ?_)));refine seqR (S Ld ?_);obtain⟨x3,gx3,hE⟩:=bO hE;refine Sc rfl rfl (Z131_walk gx3) ?_;refine S BI (S Mv (G0 Ld ?_));obtain⟨x4,gx4,hE⟩:=gO hE;refine Gc1 7 rfl rfl rfl rfl rfl (fun hC=>Z126_walk (gx4 hC)) ?_;refine G1 8 rfl BI ?_;refine S PA (S Mv (G0 Ld ?_));obtain⟨x5,gx5,hE⟩:=gO hE;refine Gc1 12 rfl rfl rfl rfl rfl (fun hC=>value_every_walk (gx5 hC)) ?_
 refine S PA (S As (nil ?_));exact rt hE
def Z50_j3 (a2:(Sl TArg))  (s7_4:Int):Option Bool:=some (decide (s7_4=((a2.l.length:Nat):Int)))
def Z50_j15 (s16_11:Nat) (k_next_9:Int->Nat->Option Bool) (s7_16:Int):Option Bool:=k_next_9 s7_16 (s16_11+1)
def Z50_l9 (a0:TDoc) (a1:(Sl Z6)) (a2:(Sl TArg)) :Nat->Int->Nat->Option Bool
 | 0,_,_=>none
 | n9+1,s7_10,s16_11=>bif (decide (((s16_11:Nat):Int)<((a1.l.length:Nat):Int))) then((a1.l[s16_11]?).bind fun x18=>(partC a1 none (some ((s16_11:Nat):Int))).bind fun x21=>(Z80 x21 x18.FName).bind fun x22=>bif x22.2 then(Z50_j15 s16_11 ((Z50_l9 a0 a1 a2 n9)) s7_10) else(guardO ((decide (s7_10<((a2.l.length:Nat):Int)))) (idxC a2.l s7_10) TArg.zero fun x27=>bif ((decide (s7_10<((a2.l.length:Nat):Int)))&&((x27.FName==x18.FName))) then((idxC a2.l s7_10).bind fun x30=>(Z17 a0 x18.FType x30.FValue).bind fun x31=>guardO (!(!decide (x31.2=(0:Int)))) (idxC a2.l s7_10) TArg.zero fun x34=>guardO (!(!decide (x31.2=(0:Int)))) (Z129 x34.FValue) false fun x35=>guardO (!((!decide (x31.2=(0:Int)))||(!x35))) (idxC a2.l s7_10) TArg.zero fun x36=>guardO (!((!decide (x31.2=(0:Int)))||(!x35))) (Z130 x31.1 x36.FValue) false fun x37=>bif (((!decide (x31.2=(0:Int)))||(!x35))||(!x37)) then(some false) else((addC s7_10 (1:Int)).bind fun x41=>Z50_j15 s16_11 ((Z50_l9 a0 a1 a2 n9)) x41)) else((Z119 x18.FType).bind fun x43=>bif (x43||x18.FHas) then(some false) else(Z50_j15 s16_11 ((Z50_l9 a0 a1 a2 n9)) s7_10)))) else(Z50_j3 a2  s7_10)
def Z50 (a0:TDoc) (a1:(Sl Z6)) (a2:(Sl TArg)):Option Bool:=Z50_l9 a0 a1 a2 (a1.l.length+1) (0:Int) 0
theorem Z50_walk {a0:TDoc}{a1:Sl Z6}{a2:Sl TArg}{w1 w2:Option Nat}{oT:Ab.Obj}{gT:Nat}{r:Bool}(hE:Z50 a0 a1 a2=some r) (H:Heap) (hgT:H gT=some oT) (hoT:IsTab Tryz.prog oT):AC Tryz.prog 110 [.agg (TDoc.c a0),.d (Sl.d 10 Z6.c w1 a1),.d (Sl.d 6 TArg.c w2 a2)] H fun v h'=>v=.a (.d (.bool r))/\h'=H:=by
 unfold Z50 at hE;refine AC.oW 92 [.tmp 6] Tryz.call110 Tryz.func110 ?_;refine seqR (S BX (S As (nil ?_)));refine seqR (S As (nil ?_));refine seqJH (TA 2 kN) (fun(z:Int)=>[(7,.a (.d (.int .i64 z)))]) (fun z=>H) (fun z=>Z50_j3 a2 z=some r) ?_ ?_
 ·intro K3 hK3;refine seqR (S Mv ?_);refine sLen (f:=Z6.c) (s:=a1) (TK rfl) rfl rfl rfl rfl fun hL8=>?_;refine S Mv (nil ?_);refine block ?_;refine loopH (TA 1 (TA 2 (TA 3 (TA 14 (TA 15 kN))))) (fun(z:Nat×Int×Nat)=>[(7,.a (.d (.int .i64 z.2.1))),(16,.a (.d (.int .i64 ((z.2.2:Nat):Int))))]) (fun z=>H) (fun z=>z.1) (fun z=>Z50_l9 a0 a1 a2 z.1 z.2.1 z.2.2=some r) ((a1.l.length+1),(0:Int),0) hE wA ?_
  rintro ⟨n9,s7_10,s16_11⟩ hE K9 hK9;try dsimp only at hE
  cases n9 with
  | zero=>cases hE
  | succ n9 =>
    rw [Z50_l9] at hE;refine seqR (S BI (nil ?_));refine seqK fun K13 hK13=>?_;refine cE hE (fun hc14 hE=>?_) (fun hc14 hE=>?_)
    ·try dsimp only at hc14
     have hf14:=oD hc14;refine sk hK13 ?_;clear hK13 K13;refine seqJH (TA 1 (TA 2 (TA 3 (TA 14 (TA 15 (TA 16 kN)))))) (fun(z:Int)=>[(7,.a (.d (.int .i64 z)))]) (fun z=>H) (fun z=>Z50_j15 s16_11 ((Z50_l9 a0 a1 a2 n9)) z=some r) ?_ ?_
     ·intro K15 hK15;refine block ?_;refine seqR (S Mv ?_);obtain⟨x18,gx18,hE⟩:=bO hE;refine S (ix Z6.c s16_11 gx18) (S Ld ?_);refine Sl ?_;refine S As ?_;refine Sf ?_;refine nil ?_;refine freezeA 9 _ rfl (KA 1 (KA 2 (KA 3 (KA 7 (KA 8 (KA 14 (KA 15 (KA 16 Keeps.nil)))))))) ?_;refine seqK fun K19 hK19=>?_;refine AWp.seqD (Sd Mv (Sd Mv ?_));obtain⟨x21,gx21,hE⟩:=bO hE;refine DOps.s0 (partM (f:=Z6.c) (l:=none) (r:=(some ((s16_11:Nat):Int))) (TK rfl) rfl (TK rfl) rfl rfl trivial rfl gx21) rfl ?_
      refine Sd Fv (Sd Ld ?_);obtain⟨x22,gx22,hE⟩:=bO hE;refine Scd rfl rfl (Z80_walk gx22) ?_;refine Sd Mv (Sd EX (Sd EX ?_));refine DOps.sB (TK rfl) rfl rfl ?_ (by repeat (first|exact Snoc.nil|apply Snoc.cons));refine DOps.sLn (storeLFA (TK rfl) rfl rfl rfl rfl rfl) ?_;refine Sd As ?_;refine DOps.nil (by decide +kernel) ?_;refine freezeA 10 _ rfl (KA 1 (KA 2 (KA 3 (KA 7 (KA 9 (KA 11 (KA 14 (KA 15 (KA 16 Keeps.nil))))))))) ?_
      refine seqR (S Mv (nil ?_));refine cE hE (fun hc24 hE=>?_) (fun hc24 hE=>?_)
      ·refine AWp.exit ?_;exact hK15 _ s7_10 wA hE
      refine sk hK19 ?_;clear hK19 K19;refine seqK fun K25 hK25=>?_;refine AWp.seqD (Sd Mv (Sd Mv ?_));refine DOps.s0 (lenM' (f:=TArg.c) (s:=a2) (TK rfl) rfl rfl rfl) rfl ?_;refine Sd BI (Sd Mv (G0d Mv (G0d Mv ?_)));obtain⟨x27,gx27,hE⟩:=gO hE;refine DOps.gC rfl rfl (fun hC=>ungdA (k:=36) rfl (ungdA (k:=37) rfl (idxM (f:=TArg.c) (TK rfl) rfl (TK rfl) rfl rfl rfl (gx27 hC)))) rfl ?_;refine G1d 38 rfl Fv ?_
      refine G1d 39 rfl Ld ?_;refine G0d Fv ?_;refine G1d 41 rfl Ld ?_;refine G2d 40 42 rfl rfl BS ?_;refine Sd PA ?_;refine DOps.nil (by decide +kernel) ?_;refine cE hE (fun hc28 hE=>?_) (fun hc28 hE=>?_)
      ·refine AWp.seqD (Sd Ld (Sd Fv (Sd Ld (Sd Mv (Sd Mv ?_)))));obtain⟨x30,gx30,hE⟩:=bO hE;refine DOps.s0 (idxM (f:=TArg.c) (TK rfl) rfl (TK rfl) rfl rfl rfl gx30) rfl ?_;refine Sd Fv (Sd Ld ?_);obtain⟨x31,gx31,hE⟩:=bO hE;refine DOps.s0 (callR rfl rfl (Z17_walk (gT:=gT) (oT:=oT) gx31 _ hpG (by assumption))) rfl ?_;refine Sd Mv (Sd EX (Sd EX ?_));refine DOps.sB (TK rfl) rfl rfl ?_ (by repeat (first|exact Snoc.nil|apply Snoc.cons))
       refine DOps.sLn (storeLFA (TK rfl) rfl rfl rfl rfl rfl) ?_;refine Sd As ?_;refine DOps.nil (by decide +kernel) ?_;refine freezeA 12 _ rfl (KA 1 (KA 2 (KA 3 (KA 7 (KA 13 (KA 14 (KA 15 (KA 16 Keeps.nil)))))))) ?_;refine seqK fun K32 hK32=>?_;refine AWp.seqD (Sd Mv (Sd BI (Sd Mv (G0d Mv (G0d Mv ?_)))));obtain⟨x34,gx34,hE⟩:=gO hE;refine DOps.gC rfl rfl (fun hC=>ungdA (k:=60) rfl (ungdA (k:=61) rfl (idxM (f:=TArg.c) (TK rfl) rfl (TK rfl) rfl rfl rfl (gx34 hC)))) rfl ?_
       refine G1d 62 rfl Fv ?_;refine G1d 63 rfl Ld ?_;obtain⟨x35,gx35,hE⟩:=gO hE;refine Gc1d 64 rfl rfl rfl rfl rfl (fun hC=>Z129_walk (gx35 hC)) ?_;refine G1d 65 rfl NB ?_;refine Sd PO (Sd Mv (G0d Ld (G0d Mv (G0d Mv ?_))));obtain⟨x36,gx36,hE⟩:=gO hE;refine DOps.gC rfl rfl (fun hC=>ungdA (k:=70) rfl (ungdA (k:=71) rfl (idxM (f:=TArg.c) (TK rfl) rfl (TK rfl) rfl rfl rfl (gx36 hC)))) rfl ?_;refine G1d 72 rfl Fv ?_
       refine G1d 73 rfl Ld ?_;obtain⟨x37,gx37,hE⟩:=gO hE;refine Gc2d 69 74 rfl rfl rfl rfl rfl rfl (fun hC=>Z130_walk (gx37 hC)) ?_;refine G1d 75 rfl NB ?_;refine Sd PO ?_;refine DOps.nil (by decide +kernel) ?_;refine cE hE (fun hc38 hE=>?_) (fun hc38 hE=>?_)
       ·refine seqR (S As (nil ?_));exact rt hE
       refine sk hK32 ?_;clear hK32 K32;refine seqR (S Mv ?_);obtain⟨x41,gx41,hE⟩:=bO hE;refine s0 (addM rfl rfl gx41) rfl ?_;refine S As (nil ?_);refine AWp.exit ?_;exact hK15 _ x41 wA hE
      refine sk hK25 ?_;clear hK25 K25;refine seqR (S Fv (S Ld ?_));obtain⟨x43,gx43,hE⟩:=bO hE;refine Sc rfl rfl (Z119_walk gx43) ?_;refine S Mv (G0 Fv ?_);refine G1 84 rfl Ld ?_;refine S PO (nil ?_);refine cE hE (fun hc44 hE=>?_) (fun hc44 hE=>?_)
      ·refine seqR (S As (nil ?_));exact rt hE
      refine AWp.skip ?_;exact hK15 _ s7_10 wA hE
     rintro s7_16 hE;try dsimp only at hE
     unfold Z50_j15 at hE;refine region ?_;refine SI ?_;refine S Mv (nil ?_);exact hK9 _ (n9,s7_16,(s16_11+1)) wA hE (nS _)
    refine AWp.exit ?_;exact hK3 _ s7_10 wA hE
 rintro s7_4 hE;try dsimp only at hE
 unfold Z50_j3 at hE;refine seqR (S Mv (S Mv ?_));refine sLen (f:=TArg.c) (s:=a2) (TK rfl) rfl rfl rfl rfl fun hL6=>?_;refine S BI (S As (nil ?_));exact rt hE
def Z58 (a0:TDoc) (a1:Z8):Option Bool:=guardO ((!(decide (a1.FInitial<(-1:Int)))&&(decide ((0:Int)<=a1.FInitial)))) (Z118 a1.FType) false fun x4=>bif ((decide (a1.FInitial<(-1:Int)))||((decide ((0:Int)<=a1.FInitial))&&(!x4))) then(some false) else(bif ((a1.FName==([95,95,116,121,112,101,110,97,109,101]:Bs))) then((Z57 ).bind fun x11=>(Z123 a1.FType x11).bind fun x12=>guardO (((x12&&(decide (((a1.FArgs.l.length:Nat):Int)=(0:Int))))&&(decide (((a1.FPicks.l.length:Nat):Int)=(0:Int))))) (Z53 a1.FKey) false fun x13=>some (((x12&&(decide (((a1.FArgs.l.length:Nat):Int)=(0:Int))))&&(decide (((a1.FPicks.l.length:Nat):Int)=(0:Int))))&&(x13||((a1.FKey==([95,95,116,121,112,101,110,97,109,101]:Bs)))))) else((Z79 a0 a1.FOn).bind fun x15=>(Z78 x15.1 a1.FName).bind fun x17=>guardO (!(!x17.2)) (Z123 a1.FType x17.1.FType) false fun x20=>guardO (!((!x17.2)||(!x20))) (Z53 a1.FKey) false fun x21=>guardO (!(((!x17.2)||(!x20))||(!x21))) (Z50 a0 x17.1.FArgs a1.FArgs) false fun x22=>bif ((((!x17.2)||(!x20))||(!x21))||(!x22)) then(some false) else(guardO (!(decide (((a1.FPicks.l.length:Nat):Int)=(0:Int)))) (Z82 a0 a1.FType.FName) false fun x27=>some ((decide (((a1.FPicks.l.length:Nat):Int)=(0:Int)))||(!x27)))))
theorem Z58_walk {a0:TDoc}{a1:Z8}{oT:Ab.Obj}{gT:Nat}{r:Bool}(hE:Z58 a0 a1=some r) (H:Heap) (hgT:H gT=some oT) (hoT:IsTab Tryz.prog oT):AC Tryz.prog 63 [.agg (TDoc.c a0),.agg (Z8.c a1)] H fun v h'=>v=.a (.d (.bool r))/\h'=H:=by
 unfold Z58 at hE;refine AC.oW 103 [.tmp 4] Tryz.call63 Tryz.func63 ?_;refine seqR (S BX (S BX (S As (nil ?_))));refine seqK fun K2 hK2=>?_;refine seqR (S Fv (S Ld (S BI (S Mv (G0 Fv ?_)))));refine G1 13 rfl Ld ?_;refine G1 14 rfl BI ?_;refine G1 15 rfl Mv ?_;refine G0 Fv ?_;refine G1 17 rfl Ld ?_;obtain⟨x4,gx4,hE⟩:=gO hE;refine Gc1 18 rfl rfl rfl rfl rfl (fun hC=>Z118_walk (gx4 hC)) ?_;refine G1 19 rfl NB ?_
 refine gC rfl rfl (fun hC=>ungdA (k:=16) rfl (pickAndA rfl rfl rfl)) rfl ?_;refine S PO (nil ?_);refine cE hE (fun hc5 hE=>?_) (fun hc5 hE=>?_)
 ·refine seqR (S As (nil ?_));exact rt hE
 refine sk hK2 ?_;clear hK2 K2;refine seqK fun K7 hK7=>?_;refine seqR (S Fv (S Ld (S BS (nil ?_))));refine cE hE (fun hc9 hE=>?_) (fun hc9 hE=>?_)
 ·refine AWp.seqD (Sd Fv (Sd Ld ?_));obtain⟨x11,gx11,hE⟩:=bO hE;refine Scd rfl rfl (Z57_walk gx11) ?_;obtain⟨x12,gx12,hE⟩:=bO hE;refine Scd rfl rfl (Z123_walk gx12) ?_;refine Sd Mv (G0d Fv ?_);refine G1d 31 rfl Ld ?_;refine DOps.gC rfl rfl (fun hC=>ungdA (k:=32) rfl (lenM' (f:=TArg.c) (s:=a1.FArgs) (TK rfl) rfl rfl rfl)) rfl ?_;refine G1d 33 rfl BI ?_;refine Sd PA (Sd Mv (G0d Fv ?_));refine DOps.gC rfl rfl (fun hC=>ungdA (k:=37) rfl (loadV (TK rfl) rfl rfl (congrArg (fun x=>some (A.d x)) (Z8.FPicksD_eq _)))) rfl ?_
  refine DOps.gC rfl rfl (fun hC=>ungdA (k:=38) rfl (lenM' (f:=Z8.c) (s:=a1.FPicks) (TK rfl) rfl rfl rfl)) rfl ?_;refine G1d 39 rfl BI ?_;refine Sd PA (Sd Mv (G0d Fv ?_));refine G1d 43 rfl Ld ?_;obtain⟨x13,gx13,hE⟩:=gO hE;refine Gc1d 44 rfl rfl rfl rfl rfl (fun hC=>Z53_walk (gx13 hC)) ?_;refine G1d 45 rfl Mv ?_;refine G0d Fv ?_;refine G1d 47 rfl Ld ?_;refine G1d 48 rfl BS ?_;refine DOps.gC rfl rfl (fun hC=>ungdA (k:=46) rfl (pickOrA rfl rfl rfl)) rfl ?_
  refine Sd PA (Sd As ?_);refine DOps.nil (by decide +kernel) ?_;exact rt hE
 refine sk hK7 ?_;clear hK7 K7;refine seqR (S Ld (S Fv (S Ld ?_)));obtain⟨x15,gx15,hE⟩:=bO hE;refine Sc rfl rfl (Z79_walk gx15) ?_;refine S Mv (S EX (S EX ?_));refine Sl ?_;refine Sf ?_;refine S As (nil ?_);refine freezeA 5 _ rfl (KA 2 (KA 3 Keeps.nil)) ?_;refine seqR (S Ld (S Fv (S Ld ?_)));obtain⟨x17,gx17,hE⟩:=bO hE;refine Sc rfl rfl (Z78_walk gx17) ?_;refine S Mv (S EX (S EX ?_));refine Sl ?_;refine Sf ?_
 refine S As (nil ?_);refine freezeA 7 _ rfl (KA 2 (KA 3 (KA 8 Keeps.nil))) ?_;refine seqK fun K18 hK18=>?_;refine seqR (S Mv (S NB (S Mv (G0 Fv ?_))));refine G1 69 rfl Ld ?_;refine G0 Fv ?_;refine G1 71 rfl Ld ?_;obtain⟨x20,gx20,hE⟩:=gO hE;refine Gc2 70 72 rfl rfl rfl rfl rfl rfl (fun hC=>Z123_walk (gx20 hC)) ?_;refine G1 73 rfl NB ?_;refine S PO (S Mv (G0 Fv ?_));refine G1 77 rfl Ld ?_;obtain⟨x21,gx21,hE⟩:=gO hE
 refine Gc1 78 rfl rfl rfl rfl rfl (fun hC=>Z53_walk (gx21 hC)) ?_;refine G1 79 rfl NB ?_;refine S PO (S Mv (G0 Ld (G0 Fv ?_)));refine G1 84 rfl Ld ?_;refine G0 Fv ?_;refine G1 86 rfl Ld ?_;obtain⟨x22,gx22,hE⟩:=gO hE;refine gC rfl rfl (fun hC=>ungdA (k:=83) rfl (ungdA (k:=85) rfl (ungdA (k:=87) rfl (callR rfl rfl (Z50_walk (gT:=gT) (oT:=oT) (gx22 hC) _ hpG (by assumption)))))) rfl ?_;refine G1 88 rfl NB ?_
 refine S PO (nil ?_);refine cE hE (fun hc23 hE=>?_) (fun hc23 hE=>?_)
 ·refine seqR (S As (nil ?_));exact rt hE
 refine sk hK18 ?_;clear hK18 K18;refine seqR (S Fv ?_);refine s0 (loadV (TK rfl) rfl rfl (congrArg (fun x=>some (A.d x)) (Z8.FPicksD_eq _))) rfl ?_;refine sLen (f:=Z8.c) (s:=a1.FPicks) (TK rfl) rfl rfl rfl rfl fun hL26=>?_;refine S BI (S Mv (G0 Ld (G0 Fv ?_)));refine G1 97 rfl Fv ?_;refine G1 98 rfl Ld ?_;obtain⟨x27,gx27,hE⟩:=gO hE;refine Gc2 96 99 rfl rfl rfl rfl rfl rfl (fun hC=>Z82_walk (gx27 hC)) ?_
 refine G1 100 rfl NB ?_;refine S PO (S As (nil ?_));exact rt hE
def Z101_j2  :Option Int:=some (-1:Int)
def Z101_l6 (a0:(Sl Z8)) (a1:(Z8->Option Bool)) :Nat->Nat->Option Int
 | 0,_=>none
 | n6+1,s8_7=>bif (decide (((s8_7:Nat):Int)<((a0.l.length:Nat):Int))) then((a0.l[s8_7]?).bind fun x14=>(a1 x14).bind fun x15=>bif x15 then(some ((s8_7:Nat):Int)) else((Z101_l6 a0 a1 n6) (s8_7+1))) else(Z101_j2   )
def Z101 (a0:(Sl Z8)) (a1:(Z8->Option Bool)):Option Int:=Z101_l6 a0 a1 (a0.l.length+1) 0
theorem Z101_walk {a0:Sl Z8}{a1:Z8->Option Bool}{w0:Option Nat}{cl1:List D}{k1:Nat}{r:Int}(hE:Z101 a0 a1=some r) (H:Heap) (hf1:∀x0 r,a1 x0=some r->∀H,AC Tryz.prog k1 ([.agg (Z8.c x0)]++cl1.map A.d) H fun v h'=>v=.a (.d (.bool r))/\h'=H):AC Tryz.prog 112 [.d (Sl.d 9 Z8.c w0 a0),.d (.func k1 cl1)] H fun v h'=>v=.a (.d (.int .i64 r))/\h'=H:=by
 unfold Z101 at hE;refine AC.oW 19 [.tmp 4] Tryz.call112 Tryz.func112 ?_;refine seqR (S As (nil ?_));refine seqJH kN (fun(z:Unit)=>[]) (fun z=>H) (fun z=>Z101_j2 =some r) ?_ ?_
 ·intro K2 hK2;refine seqR (S Mv ?_);refine sLen (f:=Z8.c) (s:=a0) (TK rfl) rfl rfl rfl rfl fun hL5=>?_;refine S Mv (nil ?_);refine block ?_;refine loopH (TA 0 (TA 1 (TA 7 kN))) (fun(z:Nat×Nat)=>[(8,.a (.d (.int .i64 ((z.2:Nat):Int))))]) (fun z=>H) (fun z=>z.1) (fun z=>Z101_l6 a0 a1 z.1 z.2=some r) ((a0.l.length+1),0) hE wA ?_;rintro ⟨n6,s8_7⟩ hE K6 hK6;try dsimp only at hE
  cases n6 with
  | zero=>cases hE
  | succ n6 =>
    rw [Z101_l6] at hE;refine seqR (S BI (nil ?_));refine seqK fun K9 hK9=>?_;refine cE hE (fun hc10 hE=>?_) (fun hc10 hE=>?_)
    ·try dsimp only at hc10
     have hf10:=oD hc10;refine sk hK9 ?_;clear hK9 K9;refine seqK fun K11 hK11=>?_;refine block ?_;refine seqR (S Mv (S As (nil ?_)));refine seqR (S Mv (S Mv (S Mv ?_)));obtain⟨x14,gx14,hE⟩:=bO hE;refine S (ix Z8.c s8_7 gx14) (S Ld ?_);obtain⟨x15,gx15,hE⟩:=bO hE;refine s0 (callP rfl rfl (hf1 _ _ gx15)) rfl ?_;refine nil ?_;refine cE hE (fun hc16 hE=>?_) (fun hc16 hE=>?_)
     ·refine seqR (S Mv (S As (nil ?_)));exact rt hE
     refine sk hK11 ?_;clear hK11 K11;refine region ?_;refine SI ?_;refine S Mv (nil ?_);exact hK6 _ (n6,(s8_7+1)) wA hE (nS _)
    refine AWp.exit ?_;exact hK2 _ () wA hE
 rintro _ hE;try dsimp only at hE
 unfold Z101_j2 at hE;refine seqR (S As (nil ?_));exact rt hE
def Z91 (a0:(Sl Z8)) (a1:(Z8->Option Bool)):Option Bool:=(Z101 a0 a1).bind fun x3=>some (decide ((0:Int)<=x3))
theorem Z91_walk {a0:Sl Z8}{a1:Z8->Option Bool}{w0:Option Nat}{cl1:List D}{k1:Nat}{r:Bool}(hE:Z91 a0 a1=some r) (H:Heap) (hf1:∀x0 r,a1 x0=some r->∀H,AC Tryz.prog k1 ([.agg (Z8.c x0)]++cl1.map A.d) H fun v h'=>v=.a (.d (.bool r))/\h'=H):AC Tryz.prog 64 [.d (Sl.d 9 Z8.c w0 a0),.d (.func k1 cl1)] H fun v h'=>v=.a (.d (.bool r))/\h'=H:=by
 unfold Z91 at hE;refine AC.oW 9 [.tmp 4] Tryz.call64 Tryz.func64 ?_;refine seqR (S As (nil ?_));refine seqR (S Mv (S Mv ?_));obtain⟨x3,gx3,hE⟩:=bO hE;refine s0 (callP rfl rfl (fun H=>Z101_walk gx3 H hf1)) rfl ?_;refine S BI (S As (nil ?_));exact rt hE
def Z55 (a0:Z8) (a1:Z8):Option Bool:=some (((a0.FOn==a1.FOn))&&((a0.FKey==a1.FKey)))
theorem Z55_walk {a0 a1:Z8}{r:Bool}(hE:Z55 a0 a1=some r) (H:Heap) :AC Tryz.prog 65 [.agg (Z8.c a0),.d (.view (Z8.c a1))] H fun v h'=>v=.a (.d (.bool r))/\h'=H:=by
 unfold Z55 at hE;refine AC.oW 16 [.tmp 3] Tryz.call65 Tryz.func65 ?_;refine seqR (S BX (S As (nil ?_)));refine seqR (S Fv (S Ld (S Fv (S Ld (S BS (S Mv (G0 Fv ?_)))))));refine G1 10 rfl Ld ?_;refine G0 Fv ?_;refine G1 12 rfl Ld ?_;refine G2 11 13 rfl rfl BS ?_;refine S PA (S As (nil ?_));exact rt hE
end Go.Proofs

namespace Go.Proofs
open Go Go.Ab
open AOps Cert AWp Keeps KeepsT
variable {lou:Lou}
def Z54_j5  :Option Bool:=some true
def Z54_l9 (a0:TDoc) (a1:(Sl Z8)) (x3:(Sl Bs)) (k_rec_29:TDoc->(Sl Z8)->Bs->Option Bool):Nat->Int->Nat->Option Bool
 | 0,_,_=>none
 | n9+1,s8_10,s17_11=>bif (decide (((s17_11:Nat):Int)<((a1.l.length:Nat):Int))) then((a1.l[s17_11]?).bind fun x17=>(Z103 x3 x17.FOn).bind fun x19=>guardO (!(decide (x19<s8_10))) (Z58 a0 x17) false fun x22=>guardO (!((decide (x19<s8_10))||(!x22))) (k_rec_29 a0 x17.FPicks x17.FType.FName) false fun x23=>bif (((decide (x19<s8_10))||(!x22))||(!x23)) then(some false) else((partC a1 none (some ((s17_11:Nat):Int))).bind fun x28=>(Z91 x28 (fun y0=>Z55 y0 x17)).bind fun x29=>bif x29 then(some false) else((Z54_l9 a0 a1 x3 k_rec_29 n9) x19 (s17_11+1)))) else(Z54_j5   )
def Z54_n:Nat->TDoc->(Sl Z8)->Bs->Option Bool
 | 0,_,_,_=>none
 | n+1,a0,a1,a2=>(Z12 a0 a2).bind fun x3=>Z54_l9 a0 a1 x3 (Z54_n n) (a1.l.length+1) (0:Int) 0
theorem Z54_step (n:Nat) (ih_29:∀{a0:TDoc}{a1:Sl Z8}{a2:Bs}{w1:Option Nat}{oT:Ab.Obj}{gT:Nat}{r:Bool},Z54_n n a0 a1 a2=some r->∀(H:Heap) (hgT:H gT=some oT) (hoT:IsTab Tryz.prog oT),AC Tryz.prog 29 [.agg (TDoc.c a0),.d (Sl.d 9 Z8.c w1 a1),.d (.str a2)] H fun v h'=>v=.a (.d (.bool r))/\h'=H):∀{a0:TDoc}{a1:Sl Z8}{a2:Bs}{w1:Option Nat}{oT:Ab.Obj}{gT:Nat}{r:Bool},Z54_n (n+1) a0 a1 a2=some r->∀(H:Heap) (hgT:H gT=some oT) (hoT:IsTab Tryz.prog oT),AC Tryz.prog 29 [.agg (TDoc.c a0),.d (Sl.d 9 Z8.c w1 a1),.d (.str a2)] H fun v h'=>v=.a (.d (.bool r))/\h'=H:=by
 intro a0 a1 a2 w1 oT gT r hE H hgT hoT;rw [Z54_n] at hE;refine AC.oW 52 [.tmp 6] Tryz.call29 Tryz.func29 ?_;refine seqR (S BX (S As (nil ?_)));refine seqR (S Ld (S Mv ?_));obtain⟨x3,gx3,hE⟩:=bO hE;refine Sc rfl rfl (Z12_walk gx3) ?_;refine S As (nil ?_);refine seqR (S As (nil ?_));refine seqJH kN (fun(z:Unit)=>[]) (fun z=>H) (fun z=>Z54_j5 =some r) ?_ ?_
 ·intro K5 hK5;refine seqR (S Mv ?_);refine sLen (f:=Z8.c) (s:=a1) (TK rfl) rfl rfl rfl rfl fun hL8=>?_;refine S Mv (nil ?_);refine block ?_;refine loopH (TA 1 (TA 3 (TA 7 (TA 15 (TA 16 kN))))) (fun(z:Nat×Int×Nat)=>[(8,.a (.d (.int .i64 z.2.1))),(17,.a (.d (.int .i64 ((z.2.2:Nat):Int))))]) (fun z=>H) (fun z=>z.1) (fun z=>Z54_l9 a0 a1 x3 (Z54_n n) z.1 z.2.1 z.2.2=some r) ((a1.l.length+1),(0:Int),0) hE wA ?_
  rintro ⟨n9,s8_10,s17_11⟩ hE K9 hK9;try dsimp only at hE
  cases n9 with
  | zero=>cases hE
  | succ n9 =>
    rw [Z54_l9] at hE;refine seqR (S BI (nil ?_));refine seqK fun K13 hK13=>?_;refine cE hE (fun hc14 hE=>?_) (fun hc14 hE=>?_)
    ·try dsimp only at hc14
     have hf14:=oD hc14;refine sk hK13 ?_;clear hK13 K13;refine seqK fun K15 hK15=>?_;refine block ?_;refine seqR (S Mv ?_);obtain⟨x17,gx17,hE⟩:=bO hE;refine S (ix Z8.c s17_11 gx17) (S Ld ?_);refine Sl ?_;refine S As ?_;refine Sf ?_;refine nil ?_;refine freezeA 10 _ rfl (KA 1 (KA 3 (KA 7 (KA 8 (KA 9 (KA 15 (KA 16 (KA 17 Keeps.nil)))))))) ?_;refine seqR (S Mv (S Fv (S Ld ?_)));obtain⟨x19,gx19,hE⟩:=bO hE
     refine Sc rfl rfl (Z103_walk gx19) ?_;refine S As (nil ?_);refine seqK fun K20 hK20=>?_;refine seqR (S Mv (S Mv (S BI (S Mv (G0 Ld (G0 Ld ?_))))));obtain⟨x22,gx22,hE⟩:=gO hE;refine gC rfl rfl (fun hC=>ungdA (k:=30) rfl (ungdA (k:=31) rfl (callR rfl rfl (Z58_walk (gT:=gT) (oT:=oT) (gx22 hC) _ hpG (by assumption))))) rfl ?_;refine G1 32 rfl NB ?_;refine S PO (S Mv (G0 Ld (G0 Fv ?_)));refine gC rfl rfl (fun hC=>ungdA (k:=37) rfl (loadV (TK rfl) rfl rfl (congrArg (fun x=>some (A.d x)) (Z8.FPicksD_eq _)))) rfl ?_
     refine G0 Fv ?_;refine G1 39 rfl Fv ?_;refine G1 40 rfl Ld ?_;obtain⟨x23,gx23,hE⟩:=gO hE;refine gC rfl rfl (fun hC=>ungdA (k:=36) rfl (ungdA (k:=38) rfl (ungdA (k:=41) rfl (callR rfl rfl (ih_29 (gT:=gT) (oT:=oT) (gx23 hC) _ hpG (by assumption)))))) rfl ?_;refine G1 42 rfl NB ?_;refine S PO (nil ?_);refine cE hE (fun hc24 hE=>?_) (fun hc24 hE=>?_)
     ·refine seqR (S As (nil ?_));exact rt hE
     refine sk hK20 ?_;clear hK20 K20;refine seqR (S Mv (S As (nil ?_)));refine seqR (S Mv (S Mv ?_));obtain⟨x28,gx28,hE⟩:=bO hE;refine s0 (partM (f:=Z8.c) (l:=none) (r:=(some ((s17_11:Nat):Int))) (TK rfl) rfl (TK rfl) rfl rfl trivial rfl gx28) rfl ?_;refine s0 (makeFunc rfl) rfl ?_;obtain⟨x29,gx29,hE⟩:=bO hE;refine s0 (callP rfl rfl (fun H=>Z91_walk gx29 H (fun _ _ hx=>Z55_walk hx))) rfl ?_;refine nil ?_
     refine cE hE (fun hc30 hE=>?_) (fun hc30 hE=>?_)
     ·refine seqR (S As (nil ?_));exact rt hE
     refine sk hK15 ?_;clear hK15 K15;refine region ?_;refine SI ?_;refine S Mv (nil ?_);exact hK9 _ (n9,x19,(s17_11+1)) wA hE (nS _)
    refine AWp.exit ?_;exact hK5 _ () wA hE
 rintro _ hE;try dsimp only at hE
 unfold Z54_j5 at hE;refine seqR (S As (nil ?_));exact rt hE
theorem Z54_all:∀(n:Nat),(∀{a0:TDoc}{a1:Sl Z8}{a2:Bs}{w1:Option Nat}{oT:Ab.Obj}{gT:Nat}{r:Bool},Z54_n n a0 a1 a2=some r->∀(H:Heap) (hgT:H gT=some oT) (hoT:IsTab Tryz.prog oT),AC Tryz.prog 29 [.agg (TDoc.c a0),.d (Sl.d 9 Z8.c w1 a1),.d (.str a2)] H fun v h'=>v=.a (.d (.bool r))/\h'=H)
 | 0=>fun hE=>by first|cases hE|(rw [Z54_n] at hE; cases hE)
 | n+1=>Z54_step n (Z54_all n)
def Z54 (a0:TDoc) (a1:(Sl Z8)) (a2:Bs):Option Bool:=Z54_n F0 a0 a1 a2
theorem Z54_walk {a0:TDoc}{a1:Sl Z8}{a2:Bs}{w1:Option Nat}{oT:Ab.Obj}{gT:Nat}{r:Bool}(hE:Z54 a0 a1 a2=some r) (H:Heap) (hgT:H gT=some oT) (hoT:IsTab Tryz.prog oT):AC Tryz.prog 29 [.agg (TDoc.c a0),.d (Sl.d 9 Z8.c w1 a1),.d (.str a2)] H fun v h'=>v=.a (.d (.bool r))/\h'=H:=(Z54_all F0) hE H hgT hoT
section
variable [IsLoud lou]
-- @uses supergraph/schema.Root supergraph/schema.Find supergraph/normal.list
/-- The levels of picks, each before those within it. -/
def normal_lv:Nat->Int->List Z8->Option (List Int)
 | 0,_,_=>none
 | _+1,_,[]=>some []
 | n+1,lv,p::r=>(addC lv 1).bind fun k=>(normal_lv n k p.FPicks.l).bind fun a=>(normal_lv n lv r).bind fun b=>some (lv::(a++b))
def normal_eachPost (C:List Nat) (Ja Jx:List (Int×Value)->World->Prop) (pre:List (Int×Value)) (xs:List Int) (w:World):Ending->World->Prop:=fun e w' =>
 (e=.returned (.bool true)/\∃ys,ys.map (·.1)=xs/\Ja (pre++ys) w'/\Keep C w w')\/(e=.returned (.bool false)/\∃q,q.map (·.1) <+: xs/\Jx (pre++q) w')
noncomputable def normal_eachTs (s:Sl Z8) (lv:Int) (l0:Nat) (i:Nat):Ts:=[(11,.a (.d (.int .i64 ((i:Nat):Int)))),(10,.a (.d (.int .i64 ((s.l.length:Nat):Int)))),(9,.a (.d (Sl.d 9 Z8.c none s))),(6,.a (.d (.bool false))),(1,.a (.d (.int .i64 lv))),(2,.a (.d (.yield l0)))]
theorem normal_each_in {l0:Nat}{C:List Nat}{B N:Nat}{Ja Jx:List (Int×Value)->World->Prop}(hJ:AbidesFrom B Ja) (hJx:AbidesFrom B Jx)
  (hY:∀m pre (x:Int×Value) W,Ja pre W->pre.length<N->YieldAt Fence.wide m Tryz.prog l0 #[.int .i64 x.1,x.2] W fun e W'=>(e=.returned (.bool true)/\Ja (pre++[x]) W'/\Keep C W W')\/(e=.returned (.bool false)/\Jx (pre++[x]) W')) :
  ∀(k:Nat) (lv:Int) (s:Sl Z8) (xs:List Int),normal_lv k lv s.l=some xs->∀(n:Nat) (pre:List (Int×Value)) (j:J) (w:World) (v:Value),HRel j w hNone->DRel j w (Sl.d 9 Z8.c none s) v->(∀b∈C,b<w.heap.size/\j.F b=0) ->
   Ja pre w->pre.length+xs.length<=N->CallsIn Fence.wide n Tryz.prog 60 #[v,.int .i64 lv,.func (.yield l0) #[] #[]] w (normal_eachPost C Ja Jx pre xs w):=by
 have hSt:∀pre,Stable (Ja pre):=fun pre A B' h hg=>hJ pre A B' none h hg (fun r e=>by cases e);have hStx:∀pre,Stable (Jx pre):=fun pre A B' h hg=>hJx pre A B' none h hg (fun r e=>by cases e);intro k;induction k using Nat.strongRecOn with
 | _ k ih =>
 intro lv s xs hx n pre j w v hr hv hC hj hN;refine callsIn_of_wp Tryz.func60 rfl trivial ?_ rfl;have hs0:=start_rel (fn:=Tryz.f60) (n:=30) rfl (args:=[.d (Sl.d 9 Z8.c none s),.d (.int .i64 lv),.d (.yield l0)]) (cargs:=[v,.int .i64 lv,.func (.yield l0) #[] #[]]) rfl hr (.cons hv (.cons (.int _ _) (.cons (.yield _) .nil)));have h0:Live C (Ja pre) w 30 _ _ w:=⟨j,hs0,hC,.refl _ _,hj⟩;refine Live.seqK (lou:=Lou.on) (hSt pre) h0 fun K hK=>?_
 refine region ?_;refine S As ?_;refine nil ⟨rfl,rfl,rfl,rfl,hK _ fun a1 w1 h1=>?_⟩;clear hK K;refine wpIn_seq ?_;refine Live.seqK (lou:=Lou.on) (hSt pre) h1 fun K hK=>?_;refine region ?_;refine S Mv ?_;refine sLen (f:=Z8.c) (s:=s) (TK rfl) rfl rfl rfl rfl fun hL4=>?_;refine S Mv ?_;refine nil ⟨rfl,rfl,rfl,rfl,hK _ fun a2 w2 h2=>?_⟩;clear hK K;refine wpIn_block ?_;have h3:Live C (Ja pre) w 30 (normal_eachTs s lv l0 0) a2 w2:=Live.to h2
 obtain⟨k',hk'⟩:∃k',k'=k:=⟨_,rfl⟩;refine wpIn_loop_rounds k' ?_;obtain⟨i,hi⟩:∃i:Nat,i=0:=⟨_,rfl⟩;obtain⟨pre',hp'⟩:∃p,p=pre:=⟨_,rfl⟩;obtain⟨ys,hys⟩:∃y,y=xs:=⟨_,rfl⟩;have hx':normal_lv k' lv (s.l.drop i)=some ys:=by rw [hi,hk',hys]; simpa using hx
 have hN':pre'.length+ys.length<=N:=by rw [hp',hys]; exact hN
 have hq:∃q:List (Int×Value),pre'=pre++q/\q.map (·.1)++ys=xs:=⟨[],by simp [hp'],by simp [hys]⟩;have hkk:k'<=k:=by omega
 rw [<- hi,<- hp'] at h3;clear hx hN hi hp' hys hk' h2 h1 h0 hs0 hj hC hv hr;induction k' generalizing i pre' ys a2 w2 with
 | zero=>cases hx'
 | succ m ihm =>
  rw [roundsIn_succ];refine Live.seqK (lou:=Lou.on) (hSt pre') h3 fun K hK=>?_;refine region ?_;refine S BI ?_;refine nil ⟨rfl,rfl,rfl,rfl,hK _ fun a4 w4 h4=>?_⟩;clear hK K;have hb:=Live.bool (t:=12) h4 rfl;refine wpIn_seq ?_;by_cases hlt:i<s.l.length
  ·have hd:s.l.drop i=s.l[i]::s.l.drop (i+1):=by rw [List.drop_eq_getElem_cons hlt]
   obtain⟨p,hp⟩:∃p,p=s.l[i]:=⟨_,rfl⟩;have hpi:s.l[i]?=some p:=by rw [hp]; exact List.getElem?_eq_getElem hlt
   rw [hd,<- hp,normal_lv] at hx';obtain⟨k1,hk1,hx'⟩:=Option.bind_eq_some_iff.1 hx';obtain⟨xa,has,hx'⟩:=Option.bind_eq_some_iff.1 hx';obtain⟨xb,hbs,hx'⟩:=Option.bind_eq_some_iff.1 hx';obtain rfl:=oJ hx';have hbt:(decide ((i:Int)<((s.l.length:Nat):Int)))=true:=by simpa using hlt
   refine wpIn_cond_true (by rw [hb,hbt]) ?_;refine wpIn_skip ?_;show Code.wpIn _ _ _ _ _ _ _;refine wpIn_seq ?_;refine wpIn_block ?_;refine Live.seqK (lou:=Lou.on) (hSt pre') h4 fun K hK=>?_;refine AWp.post ?_;refine region ?_;refine S (ix Z8.c i hpi) (S Ld ?_);refine Sl ?_;refine Sf ?_;refine nil ⟨_,Weak.freeze 8 _ rfl (by repeat (first|exact Snoc.nil|apply Snoc.cons)) (KA 1 (KA 2 (KA 6 (KA 9 (KA 10 (KA 11 Keeps.nil)))))),rfl,rfl,rfl,rfl,hK _ fun a5 w5 h5=>?_⟩
   clear hK K;refine wpIn_seq ?_;refine wpIn_region_lit ?_;refine Live.op (lou:=Lou.on) (hSt pre') h5 moveA rfl rfl rfl fun a6 w6 h6=>?_;refine Live.op (lou:=Lou.on) (hSt pre') h6 moveA rfl rfl rfl fun a7 w7 h7=>?_;refine Live.op (lou:=Lou.on) (hSt pre') h7 (loadV (TK rfl) rfl rfl rfl) rfl rfl rfl fun a8 w8 h8=>?_;refine wpListIn_plain rfl fun K hK=>?_;have e15:a8.eval (.tmp 15)=.func (.yield l0) #[] #[]:=by
    obtain⟨_,_,_,hv⟩:=Live.val (t:=15) h8 rfl;generalize a8.eval (.tmp 15)=x at hv;have hv':DRel _ _ (.yield l0) x:=hv;cases hv'; rfl
   have e16:a8.eval (.tmp 16)=.int .i64 lv:=by
    obtain⟨_,_,_,hv⟩:=Live.val (t:=16) h8 rfl;generalize a8.eval (.tmp 16)=x at hv;have hv':DRel _ _ (.int .i64 lv) x:=hv;cases hv'; rfl
   obtain⟨pv,hpv⟩:∃x,x=a8.eval (.tmp 17):=⟨_,rfl⟩;have hN2:pre'.length+(1+(xa.length+xb.length))<=N:=by simp at hN'; omega
   obtain⟨q0,hq1,hq2⟩:=hq;obtain⟨fn,tmps,assign,body,hy,hR⟩:=hY (n-1) pre' (lv,pv) w8 h8.inv (by omega);refine⟨fun _ _=>trivial, ?_⟩;rw [show Oper.semAt Fence.wide.round a8.eval _=execOp a8.eval _ from rfl,run_callYield e15];have eargs:(#[Operand.tmp 16,Operand.tmp 17].map a8.eval)=#[.int .i64 lv,pv]:=by simp [e16,<- hpv]
   rw [eargs,hy];refine⟨fun h=>(by cases h),hR.mono ?_⟩;rintro e w' (⟨rfl,hj',hk⟩|⟨rfl,hjx⟩)
   ·refine hK _ _ ?_;have h9:=(Live.round (Jw':=Ja (pre'++[(lv,pv)])) h8 hk hj').putAny (d:=18) (cv:=.bool true) rfl (.a (.d (.bool true))) (fun _ _=>.bool _);clear hK K hR hy;have hS9:=hSt (pre'++[(lv,pv)]);refine Live.op (lou:=Lou.on) hS9 h9 (notB rfl) rfl rfl rfl fun b1 v1 g1=>?_;refine Live.op (lou:=Lou.on) hS9 g1 moveA rfl rfl rfl fun b2 v2 g2=>?_;refine Live.opG (lou:=Lou.on) (g:=20) (b:=false) hS9 g2 (fieldVA (TK rfl) rfl rfl (TK rfl) rfl rfl) rfl rfl rfl rfl fun b3 v3 g3=>?_
    refine Live.opG (lou:=Lou.on) (g:=20) (b:=false) hS9 g3 (loadV (TK rfl) rfl rfl (congrArg (fun x=>some (A.d x)) (Z8.FPicksD_eq _))) rfl rfl rfl rfl fun b4 v4 g4=>?_;refine Live.opG (lou:=Lou.on) (g:=20) (b:=false) hS9 g4 moveA rfl rfl rfl rfl fun b5 v5 g5=>?_;refine Live.opG (lou:=Lou.on) (g:=20) (b:=false) hS9 g5 (addM rfl rfl hk1) rfl rfl rfl rfl fun b6 v6 g6=>?_;refine Live.opG (lou:=Lou.on) (g:=20) (b:=false) hS9 g6 moveA rfl rfl rfl rfl fun b7 v7 g7=>?_
    refine wpListIn_step fun K hK=>?_;rw [Live.want (g:=20) (want:=false) (b:=false) rfl rfl g7,if_pos (show (false==false)=true from rfl)];obtain⟨j7,hr7,hC7,hv7⟩:=Live.val (t:=22) g7 rfl;have e24:b7.eval (.tmp 24)=.int .i64 k1:=by
     obtain⟨_,_,_,hv⟩:=Live.val (t:=24) g7 rfl;generalize b7.eval (.tmp 24)=x at hv;have hv':DRel _ _ (.int .i64 k1) x:=hv;cases hv'; rfl
    have e25:b7.eval (.tmp 25)=.func (.yield l0) #[] #[]:=by
     obtain⟨_,_,_,hv⟩:=Live.val (t:=25) g7 rfl;generalize b7.eval (.tmp 25)=x at hv;have hv':DRel _ _ (.yield l0) x:=hv;cases hv'; rfl
    refine⟨fun _ _=>trivial, ?_⟩;rw [show Oper.semAt Fence.wide.round b7.eval _=execOp b7.eval _ from rfl,run_callFn Tryz.call60];have eargs2:(#[Operand.tmp 22,Operand.tmp 24,Operand.tmp 25].map b7.eval)=#[b7.eval (.tmp 22),.int .i64 k1,.func (.yield l0) #[] #[]]:=by simp [e24,e25]
    rw [eargs2];have hcall:=ih m (by omega) k1 p.FPicks xa has (n-1) (pre'++[(lv,pv)]) j7 v7 _ hr7 hv7 hC7 g7.inv (by simp; omega);refine⟨fun h=>(by cases h),hcall.mono ?_⟩;rintro e w9 (⟨rfl,zs,hz1,hz2,hz3⟩|⟨rfl,q9,hq9,hjx⟩)
    ·refine hK _ _ ?_;have g8:=(Live.round (Jw':=Ja ((pre'++[(lv,pv)])++zs)) g7 hz3 hz2).putAny (d:=26) (cv:=.bool true) rfl (.a (.d (.bool true))) (fun _ _=>.bool _);have hS8:=hSt ((pre'++[(lv,pv)])++zs);refine Live.opG (lou:=Lou.on) (g:=20) (b:=false) hS8 g8 (notB rfl) rfl rfl rfl rfl fun b9 v9 g9=>?_;refine Live.op (lou:=Lou.on) hS8 g9 (pickF rfl rfl (by conv=>lhs; whnf)) rfl rfl rfl fun b10 v10 g10=>?_
     refine wpListIn_nil ?_;show Code.wpIn _ _ _ _ _ _ _;refine wpIn_cond_false (Live.bool (t:=28) g10 rfl) ?_;refine wpIn_skip ?_;show Code.wpIn _ _ _ _ _ _ _;refine Live.seqK_end (lou:=Lou.on) hS8 g10 fun K hK=>?_;refine region ?_;refine s0 (addM rfl rfl (addC_nat i s.l.length hlt hL4)) rfl ?_;refine S Mv ?_;refine nil ⟨rfl,rfl,rfl,rfl,hK _ fun a11 w11 h11=>?_⟩;show Code.roundsIn _ _ _ _ _ _ _ _
     have hz4:zs.length=xa.length:=by rw [<- hz1,List.length_map]
     refine ihm _ _ (i+1) _ (Live.to h11) xb hbs (by simp; omega) ⟨q0++((lv,pv)::zs),by rw [hq1]; simp,by rw [<- hq2,<- hz1]; simp⟩ (by omega)
    refine hK _ _ ?_;have d0:=(Live.dead (ts':=[(20,.a (.d (.bool false)))]) g7 (KeepsT.get (KeepsT.cons rfl kN)) (pure_bool _ _) hjx).putAny (d:=26) (cv:=.bool false) rfl (.a (.d (.bool false))) (fun _ _=>.bool _);refine Live.opG (lou:=Lou.on) (g:=20) (b:=false) (hStx _) d0 (notB rfl) rfl rfl rfl rfl fun b9 v9 d1=>?_;refine Live.op (lou:=Lou.on) (hStx _) d1 (pickF rfl rfl (by conv=>lhs; whnf)) rfl rfl rfl fun b10 v10 d2=>?_
    refine wpListIn_nil ?_;show Code.wpIn _ _ _ _ _ _ _;refine wpIn_cond_true (Live.bool (t:=28) d2 rfl) ?_;refine Live.seqK (lou:=Lou.on) (hStx _) d2 fun K hK=>?_;refine region ?_;refine S As ?_;refine nil ⟨rfl,rfl,rfl,rfl,hK _ fun a12 w12 h12=>?_⟩;refine wpIn_ret ?_;obtain⟨f1,v0,f2,rfl⟩:=Live.retBool (P:=Tryz.prog) (fn:=Tryz.f60) Tryz.tab_ok (t:=6) h12 rfl rfl;refine⟨f1,_,f2,.inr ⟨rfl,q0++((lv,pv)::q9),by rw [<- hq2]; simp only [List.map_append,List.map_cons]; exact(List.prefix_append_right_inj _).2 (by simpa using hq9.trans (List.prefix_append _ _)), ?_⟩⟩
    have f3:=h12.inv;rw [hq1] at f3
    simpa using f3
   refine hK _ _ ?_;have d0:=(Live.dead (ts':=[]) h8 (KeepsT.get kN) pure_nil hjx).putAny (d:=18) (cv:=.bool false) rfl (.a (.d (.bool false))) (fun _ _=>.bool _);refine Live.op (lou:=Lou.on) (hStx _) d0 (notB rfl) rfl rfl rfl fun b1 v1 d1=>?_;refine Live.op (lou:=Lou.on) (hStx _) d1 moveA rfl rfl rfl fun b2 v2 d2=>?_;refine Live.skipG (g:=20) (b:=true) d2 rfl rfl rfl fun b3 v3 d3=>?_;refine Live.skipG (g:=20) (b:=true) d3 rfl rfl rfl fun b4 v4 d4=>?_
   refine Live.skipG (g:=20) (b:=true) d4 rfl rfl rfl fun b5 v5 d5=>?_;refine Live.skipG (g:=20) (b:=true) d5 rfl rfl rfl fun b6 v6 d6=>?_;refine Live.skipG (g:=20) (b:=true) d6 rfl rfl rfl fun b7 v7 d7=>?_;refine Live.skipG (g:=20) (b:=true) d7 rfl rfl rfl fun b8 v8 d8=>?_;refine Live.skipG (g:=20) (b:=true) d8 rfl rfl rfl fun b9 v9 d9=>?_;refine Live.op (lou:=Lou.on) (hStx _) d9 (pickT rfl rfl (by conv=>lhs; whnf)) rfl rfl rfl fun b10 v10 d10=>?_
   refine wpListIn_nil ?_;show Code.wpIn _ _ _ _ _ _ _;refine wpIn_cond_true (Live.bool (t:=28) d10 rfl) ?_;refine Live.seqK (lou:=Lou.on) (hStx _) d10 fun K hK=>?_;refine region ?_;refine S As ?_;refine nil ⟨rfl,rfl,rfl,rfl,hK _ fun a12 w12 h12=>?_⟩;refine wpIn_ret ?_;obtain⟨f1,v0,f2,rfl⟩:=Live.retBool (P:=Tryz.prog) (fn:=Tryz.f60) Tryz.tab_ok (t:=6) h12 rfl rfl;refine⟨f1,_,f2,.inr ⟨rfl,q0++[(lv,pv)],by rw [<- hq2]; simp only [List.map_append,List.map_cons,List.map_nil]; exact(List.prefix_append_right_inj _).2 ⟨_,rfl⟩, ?_⟩⟩
   have f3:=h12.inv;rw [hq1] at f3
   simpa using f3
  have hd:s.l.drop i=[]:=List.drop_of_length_le (by omega);rw [hd,normal_lv] at hx';obtain rfl:=oJ hx';have hbf:(decide ((i:Int)<((s.l.length:Nat):Int)))=false:=by simpa using hlt
  obtain⟨q0,hq1,hq2⟩:=hq;refine wpIn_cond_false (by rw [hb,hbf]) ?_;refine wpIn_exit ?_;show Code.wpIn _ _ _ _ _ _ _;refine Live.seqK (lou:=Lou.on) (hSt _) h4 fun K hK=>?_;refine region ?_;refine S As ?_;refine nil ⟨rfl,rfl,rfl,rfl,hK _ fun a12 w12 h12=>?_⟩;refine wpIn_ret ?_;obtain⟨f1,v0,f2,rfl⟩:=Live.retBool (P:=Tryz.prog) (fn:=Tryz.f60) Tryz.tab_ok (t:=6) h12 rfl rfl;refine⟨f1,_,f2,.inl ⟨rfl,q0,by simpa using hq2, ?_⟩⟩
  obtain⟨_,_,_,f3,f4⟩:=h12;exact⟨by rw [<- hq1]; exact f4,f3⟩
theorem normal_all_stops {j:J}{w:World}(hfr:∀b,w.heap.size<=b->j.F b=0){k:Nat}{lv:Int}{s:Sl Z8}{xs:List Int}(hx:normal_lv k lv s.l=some xs){c1 c2:Value}(h1:DRel j w (.view [Sl.d 9 Z8.c none s]) c1) (h2:DRel j w (.view [.int .i64 lv]) c2)
  {C:List Nat}(hC:∀b∈C,b<w.heap.size/\j.F b=0) (n:Nat) :
  SeqStopsK Fence.wide n Tryz.prog 59 #[c1,c2] (fun x:Int×Value=>#[.int .i64 x.1,x.2]) (Keep C) (fun ys=>ys.map (·.1)=xs) (fun q=>q.map (·.1) <+: xs) xs.length w:=by
 intro l J Jx W hW hJ hJx hY h0;have hd:∀b o c,o<j.F b->w.cell? ⟨b,o,none⟩=some c->W.cell? ⟨b,o,none⟩=some c:=fun b o c ho hc=>by
  rw [<- hc];exact World.cell?_of_block (hW.block b (by
   rcases Nat.lt_or_ge b w.heap.size with h|h
   ·exact h
   rw [hfr b h] at ho; omega))
 have hr:HRel j W hNone:=(hnone_rel fun b hb=>hfr b (Nat.le_trans hW.size hb)).1;refine callsIn_of_wp Tryz.func59 rfl trivial ?_ rfl;have hs0:=start_rel (fn:=Tryz.f59) (n:=8) rfl (args:=[.d (.yield l),.d (.view [Sl.d 9 Z8.c none s]),.d (.view [.int .i64 lv])]) (cargs:=[.func (.yield l) #[] #[],c1,c2]) rfl hr (.cons (.yield _) (.cons (h1.kept hd) (.cons (h2.kept hd) .nil)));have hSt:∀pre,Stable (J pre):=fun pre A B' h hg=>hJ pre A B' none h hg (fun r e=>by cases e)
 have hSt0:Stable (J []):=hSt [];have g0:Live C (J []) W 8 _ _ W:=⟨j,hs0,fun b hb=>⟨Nat.lt_of_lt_of_le (hC b hb).1 hW.size,(hC b hb).2⟩,.refl _ _,h0⟩;refine wpIn_region_lit ?_;refine Live.op (lou:=Lou.on) hSt0 g0 (loadV (TK rfl) rfl rfl rfl) rfl rfl rfl fun b1 v1 g1=>?_;refine Live.op (lou:=Lou.on) hSt0 g1 (loadV (TK rfl) rfl rfl rfl) rfl rfl rfl fun b2 v2 g2=>?_;refine Live.op (lou:=Lou.on) hSt0 g2 moveA rfl rfl rfl fun b3 v3 g3=>?_
 refine wpListIn_plain rfl fun K hK=>?_;obtain⟨j7,hr7,hC7,hv7⟩:=Live.val (t:=4) g3 rfl;have e5:b3.eval (.tmp 5)=.int .i64 lv:=by
  obtain⟨_,_,_,hv⟩:=Live.val (t:=5) g3 rfl;generalize b3.eval (.tmp 5)=x at hv;have hv':DRel _ _ (.int .i64 lv) x:=hv;cases hv'; rfl
 have e6:b3.eval (.tmp 6)=.func (.yield l) #[] #[]:=by
  obtain⟨_,_,_,hv⟩:=Live.val (t:=6) g3 rfl;generalize b3.eval (.tmp 6)=x at hv;have hv':DRel _ _ (.yield l) x:=hv;cases hv'; rfl
 refine⟨fun _ _=>trivial, ?_⟩;rw [show Oper.semAt Fence.wide.round b3.eval _=execOp b3.eval _ from rfl,run_callFn Tryz.call60];have eargs2:(#[Operand.tmp 4,Operand.tmp 5,Operand.tmp 6].map b3.eval)=#[b3.eval (.tmp 4),.int .i64 lv,.func (.yield l) #[] #[]]:=by simp [e5,e6]
 rw [eargs2];have hcall:=normal_each_in (l0:=l) (C:=C) hJ hJx (fun m pre x W1 hj hl=>anyDepth (hY pre x W1 hj hl)) k lv s xs hx (n-1) [] j7 v3 _ hr7 hv7 hC7 g3.inv (by simp);refine⟨fun h=>(by cases h),hcall.mono ?_⟩;rintro e w9 (⟨rfl,zs,hz1,hz2,hz3⟩|⟨rfl,q9,hq9,hjx⟩)
 ·refine hK _ _ (wpListIn_nil ⟨?_,_,results_none rfl _ _ _,⟨_,rfl⟩,.inl ⟨zs,hz1,by simpa using hz2⟩⟩);obtain⟨_,hs,_⟩:=g3;rw [put_defers]; exact hs.defers
 refine hK _ _ (wpListIn_nil ⟨?_,_,results_none rfl _ _ _,⟨_,rfl⟩,.inr ⟨q9,hq9,by simpa using hjx⟩⟩);obtain⟨_,hs,_⟩:=g3;rw [put_defers]; exact hs.defers
theorem normal_all_walk (s:Sl Z8) (lv:Int) (H:Heap):AC Tryz.prog 28 [.d (Sl.d 9 Z8.c none s),.d (.int .i64 lv)] H fun v h'=>v=.a (.d (.func 59 [.view [Sl.d 9 Z8.c none s],.view [.int .i64 lv]]))/\h'=H:=by
 have _lo:IsLoud lou:=inferInstance;refine AC.oW 6 [.tmp 4] Tryz.call28 Tryz.func28 ?_;refine seqR (S BX (S BX (S As (nil ?_))));refine seqR ?_;refine s0 (makeFunc rfl) rfl ?_;refine S As (nil ?_);refine AWp.ret ?_;refine retQ.retF H rfl ⟨rfl,rfl⟩ ?_;exact(fun _ _ h=>h)
def normal_far (xs:List Int):Bool:=decide (2048<xs.length)||xs.any fun k=>decide (24<k)
def Z46 (a0:TDoc) (a1:Z9):Option Bool:=(Z83 a1.FKind).bind fun x12=>(Z79 a0 x12).bind fun x16 =>
 bif ((!x16.2||(x12==([]:Bs)))||(!decide (x16.1.FKind=(1:Int)))) then some false else
 (normal_lv F0 (1:Int) a1.FPicks.l).bind fun xs=>if xs.length<=4611686018427387904 then(bif normal_far xs then some false else Z54 a0 a1.FPicks x12) else none
set_option maxRecDepth 100000 in
set_option maxHeartbeats 4000000 in
theorem Z46_walk {a0:TDoc}{a1:Z9}{oT:Ab.Obj}{gT:Nat}{r:Bool}(hE:Z46 a0 a1=some r) (H:Heap) (hgT:H gT=some oT) (hoT:IsTab Tryz.prog oT):AC Tryz.prog 9 [.agg (TDoc.c a0),.agg (Z9.c a1)] H fun v h'=>v=.a (.d (.bool r))/\h'=H:=by
 unfold Z46 at hE;refine⟨fun _ _=>Tryz.call9 _ _,fun j w c hr ha=>?_⟩;cases ha with
 | @cons _ v0 _ _ ha0 ha =>
 cases ha with
 | @cons _ v1 _ _ ha1 ha =>
 cases ha;refine(callsIn_wide (n:=3)).1 (callsIn_of_wp_marks Tryz.func9 rfl trivial ?_ rfl);have hs0:=start_rel (fn:=Tryz.f9) (n:=48) rfl (args:=[.agg (TDoc.c a0),.agg (Z9.c a1)]) (cargs:=[v0,v1]) rfl hr (.cons ha0 (.cons ha1 .nil));show Code.wpIn _ _ _ _ (bodyPostM _ _ _ _ (Fin j w H fun v h'=>v=.a (.d (.bool r))/\h'=H)) _ _;refine AWp.seqW (lou:=lou) hs0 fun K hK=>?_;refine region ?_;refine S BX (S BX ?_)
 refine Sl ?_;refine nil ⟨rfl,hK _ fun j1 w1 jl1 a1_ hs1 ev1=>?_⟩;clear hK K hs0;refine AWp.seqW (lou:=lou) hs1 fun K hK=>?_;refine region ?_;refine S Fv (S Ld ?_);obtain⟨x12,gx12,hE⟩:=bO hE;refine Sc rfl rfl (Z83_walk gx12) ?_;refine S As ?_;refine nil ⟨rfl,hK _ fun j2 w2 jl2 a2_ hs2 ev2=>?_⟩;clear hK K;refine AWp.seqW (lou:=lou) hs2 fun K hK=>?_;refine AWp.post ?_;refine region ?_;refine S Ld (S Mv ?_)
 obtain⟨x16,gx16,hE⟩:=bO hE;refine Sc rfl rfl (Z79_walk gx16) ?_;refine S Mv (S EX (S EX ?_));refine Sl ?_;refine Sf ?_;refine S As ?_;refine nil ⟨_,Weak.freeze 6 _ rfl (by repeat (first|exact Snoc.nil|apply Snoc.cons)) (KA 2 (KA 3 (KA 4 (KA 5 (KA 7 Keeps.nil))))),rfl,hK _ fun j3 w3 jl3 a3_ hs3 ev3=>?_⟩;clear hK K;refine wpIn_seq ?_;refine AWp.seqW (lou:=lou) hs3 fun K hK=>?_;refine region ?_;refine S Mv (S NB (S Mv (G0 Mv ?_)))
 refine G1 22 rfl BS ?_;refine S PO (S Mv (G0 Fv ?_));refine G1 26 rfl Ld ?_;refine G1 27 rfl BI ?_;refine S PO ?_;refine nil ⟨rfl,hK _ fun j4 w4 jl4 a4_ hs4 ev4=>?_⟩;clear hK K;have hev4:=((ev1.trans ev2).trans ev3).trans ev4;have ec:a4_.eval (.tmp 29)=.bool ((!x16.2||(x12==([]:Bs)))||(!decide (x16.1.FKind=(1:Int)))):=by
  have h1:VRel j4 w4 jl4 (.a (.d (.bool ((!x16.2||(x12==([]:Bs)))||(!decide (x16.1.FKind=(1:Int))))))) (a4_.eval (.tmp 29)):=hs4.tmps 29;generalize a4_.eval (.tmp 29)=x at h1;have h2:DRel j4 w4 (.bool _) x:=h1;cases h2; rfl
 cases hc:((!x16.2||(x12==([]:Bs)))||(!decide (x16.1.FKind=(1:Int)))) with
 | true =>
  rw [hc] at hE;obtain rfl:=oJ hE;refine wpIn_cond_true (by rw [ec,hc]) ?_;refine AWp.seqW (lou:=lou) hs4 fun K hK=>?_;refine region ?_;refine Sf ?_;refine nil ⟨rfl,hK _ fun j5 w5 jl5 a5_ hs5 ev5=>?_⟩;refine wpIn_ret ?_;have hd5:a5_.defers=[]:=hs5.defers;show LeavesInM _ _ _ _ _ _ a5_.defers _ _;rw [hd5];exact leaves_nil (lou:=lou) Tryz.tab_ok hs5 (rs:=[.cell 4 4]) rfl (xs:=[.d (.bool false)]) rfl (hev4.trans ev5) ⟨rfl,rfl⟩
 | false =>
  rw [hc] at hE;obtain⟨xs,hx,hE⟩:=bO hE
  split at hE
  case isFalse=>cases hE
  rename_i hN
  refine wpIn_cond_false (by rw [ec,hc]) ?_;refine wpIn_skip ?_;show Code.wpIn _ _ _ _ _ _ _;refine AWp.seqW (lou:=lou) hs4 fun K hK=>?_;refine region ?_;refine Sl ?_;refine Sf ?_;refine nil ⟨rfl,hK _ fun j5 w5 jl5 a5_ hs5 ev5=>?_⟩;clear hK K;refine wpIn_seq ?_;refine AWp.seqW (lou:=lou) hs5 fun K hK=>?_;refine region ?_;refine S Fv (S Ld ?_);refine s0 (callP rfl rfl (fun H=>normal_all_walk a1.FPicks 1 H)) rfl ?_
  refine nil ⟨rfl,hK _ fun j6 w6 jl6 a6 hs6 ev6=>?_⟩;clear hK K;have hev:=(hev4.trans ev5).trans ev6;refine wpIn_block ?_;obtain⟨bt,cst,tet,hbt,ht4,hht,hct,hFt⟩:=hs6.loc (t:=4) (i:=0) rfl rfl;obtain⟨b0,cs,te,hb0,ht8,hh8,hc8,hF8⟩:=hs6.loc (t:=8) (i:=1) rfl rfl;have hcs:cs=[.int .i64 0]:=by
   cases hc8 with
   | cons h ht=>cases ht; cases h; rfl
  have hcst:cst=[.bool false]:=by
   cases hct with
   | cons h ht=>cases ht; cases h; rfl
  subst hcs hcst;have hlen2:jl6.length=2:=by have:=hs6.hl.2.each.length; simpa using this.symm
  obtain rfl:jl6=[bt,b0]:=by
   match jl6,hlen2,hbt,hb0 with
   | [x,y],_,hbt,hb0=>simp at hbt hb0; rw [hbt,hb0]
  have hne:bt≠b0:=by have:=hs6.hl.2.nodup; simp at this; exact this
  have hlt8:b0<w6.heap.size:=lt_of_heap hh8;have hltt:bt<w6.heap.size:=lt_of_heap hht;have hf:∃c1 c2,a6.eval (.tmp 32)=.func (.func 59) #[] #[c1,c2]/\DRel j6 w6 (.view [Sl.d 9 Z8.c none a1.FPicks]) c1/\DRel j6 w6 (.view [.int .i64 1]) c2:=by
   have h1:VRel j6 w6 [bt,b0] (.a (.d (.func 59 [.view [Sl.d 9 Z8.c none a1.FPicks],.view [.int .i64 1]]))) (a6.eval (.tmp 32)):=hs6.tmps 32;generalize a6.eval (.tmp 32)=x at h1;have h2:DRel j6 w6 (.func 59 [.view [Sl.d 9 Z8.c none a1.FPicks],.view [.int .i64 1]]) x:=h1;cases h2 with
   | func _ _ cvs hl hr =>
    match cvs,hl with
    | [c1,c2],_=>exact⟨c1,c2,rfl,hr 0 (by simp) (by simp),hr 1 (by simp) (by simp)⟩
  obtain⟨c1,c2,e32,hd1,hd2⟩:=hf;have hsz:a6.tmps.size=48:=hs6.size;have hd0:a6.defers=[]:=hs6.defers;have hl1:HL j6 w6 [bt] [[.bool false]] H:=(HL.trim (lou:=lou) hs6.hl 1).1;have hev1:Evolve j6 w6 (Ab.Own j6 H [bt,b0]) j6 w6 (Ab.Own j6 H [bt]):=(HL.trim (lou:=lou) hs6.hl 1).2;have hb0n:¬Ab.Own j6 H [bt] b0:=by
   rintro (h|h)
   ·simp at h; exact hne h.symm
   exact hs6.hl.2.apart b0 (by simp) (.inr h)
  refine wpIn_rangeFunc_ownF (I:=fun pre W=>(W.heap[b0]?=some (.cells #[.int .i64 ((pre.length:Nat):Int)] te (0,0)))/\Upto [b0] w6 W/\normal_far (pre.map (·.1))=false)
   (Ix:=fun c pre W=>c=.ret/\Upto [b0] w6 W/\normal_far (pre.map (·.1))=true)
   (a₁:=fun x=>({ tmps:=(a6.tmps.setIfInBounds 33 (.int .i64 x.1)).setIfInBounds 34 x.2,defers:=[] }:Act).put (some 9) (.int .i64 x.1)) rfl (Nat.le_add_left 1 2) e32 trivial (fun _ _=>Tryz.call59 _ _)
   (normal_all_stops (C:=[b0]) hs6.hl.1.fresh hx hd1 hd2 (by simp; exact⟨hlt8,hF8⟩) 2) (fun h k=>h.trans k) (fun W l o o' _ h1 h2 _=>.put W l o o' h1 h2) (RowKit.Below.refl _ _) (fun _=>rfl)
   (fun pre A B row hs hg hr=>⟨(hg.block b0 (lt_of_heap hs.1) (fun e=>by have:=(hr b0 e.symm).1; omega)).trans hs.1,hs.2.1.grown hg fun r e=>(hr r e).1,hs.2.2⟩)
   (fun c pre A B row hs hg hr=>⟨hs.1,hs.2.1.grown hg fun r e=>(hr r e).1,hs.2.2⟩) ⟨hh8,.refl _ _,rfl⟩ ?_ ?_ ?_ ?_
  ·intro l x W K hK;refine wpIn_region_lit ?_;refine roundV (fun _=>trivial) rfl (by simp) (run_assign (v:=.int .i64 x.1) (eval_of (by simp [Array.getElem?_setIfInBounds,hsz]))) ?_;refine wpListIn_nil ?_;show K _ W
   simpa using hK
  ·rintro l pre x W ⟨hb,hu,hfar⟩ hlen;have hF:∀f,(Fence.wide.inRound l).fn f:=fun _=>trivial;obtain⟨A0,hA0⟩:∃A0,A0=({ tmps:=(a6.tmps.setIfInBounds 33 (.int .i64 x.1)).setIfInBounds 34 x.2,defers:=[] }:Act).put (some 9) (.int .i64 x.1):=⟨_,rfl⟩;have s0:A0.tmps.size=48:=by rw [hA0,put_size]; simp [hsz]
   have t9:A0.tmps[9]?=some (.int .i64 x.1):=by rw [hA0,put_at _ (by simp [hsz]),if_pos rfl]
   have t8:A0.tmps[8]?=some (.pointer (some ⟨b0,0,none⟩)):=by rw [hA0,put_at _ (by simp [hsz]),if_neg (by decide)]; simp [Array.getElem?_setIfInBounds]; exact ht8
   have t4:A0.tmps[4]?=some (.pointer (some ⟨bt,0,none⟩)):=by rw [hA0,put_at _ (by simp [hsz]),if_neg (by decide)]; simp [Array.getElem?_setIfInBounds]; exact ht4
   rw [<- hA0];refine wpIn_block (wpIn_seq (wpIn_region_lit ?_));refine round_incr hF (TK rfl) rfl rfl (fun _=>rfl) t8 ⟨rfl,rfl⟩ (by rw [s0]; decide) (by rw [s0]; decide) hb (by omega) fun A1 W1 hA1 s1 u1=>?_;refine wpListIn_nil ?_;show Code.wpIn _ _ _ _ _ _ _;have hb1:=u1.here;have hW1:(W1.heap[bt]?=some (.cells #[.bool false] tet (0,0))):=((u1.other bt hne).trans (hu.other bt hltt (by simpa using hne))).trans hht
   have r8:A1.tmps[8]?=some (.pointer (some ⟨b0,0,none⟩)):=(hA1 8 (by decide) (by decide)).trans t8;have r9:A1.tmps[9]?=some (.int .i64 x.1):=(hA1 9 (by decide) (by decide)).trans t9;have r4:A1.tmps[4]?=some (.pointer (some ⟨bt,0,none⟩)):=(hA1 4 (by decide) (by decide)).trans t4;have s2:A1.tmps.size=48:=s1.trans s0;have hu1:=hu.upd u1 (by simp);have hk1:=u1.keep (C:=[b0]) (by simp);have ho1:=u1.keepsOthers hb rfl
   refine wpIn_seq (wpIn_region_lit ?_);refine round_test (gi:=2) hF (TK rfl) rfl (fun _=>rfl) r8 r9 hb1 rfl (by rw [s2]; decide) ⟨rfl,rfl,rfl,rfl,rfl⟩ fun A2 hA2 g42=>?_;have q4:A2.tmps[4]?=some (.pointer (some ⟨bt,0,none⟩)):=(hA2 4 (by decide) (by decide) (by decide) (by decide) (by decide) (by decide)).trans r4;refine wpListIn_nil ?_;show Code.wpIn _ _ _ _ _ _ _;have hfar2:normal_far ((pre++[x]).map (·.1))=(decide ((2048:Int)<((pre.length:Nat):Int)+1)||decide (24<x.1)):=by
    unfold normal_far at hfar ⊢;simp only [Bool.or_eq_false_iff] at hfar;have h1:decide (2048<((pre++[x]).map (·.1)).length)=decide ((2048:Int)<((pre.length:Nat):Int)+1):=decide_eq_decide.2 (by simp; omega);rw [h1,List.map_append,List.any_append,hfar.2]; simp
   cases hcf:(decide ((2048:Int)<((pre.length:Nat):Int)+1)||decide (24<x.1)) with
   | true =>
    rw [hcf] at g42 hfar2;refine wpIn_cond_true (eval_of g42) ?_;refine wpIn_seq (wpIn_region_lit ?_);obtain⟨W2,hr2,u2⟩:=run_storeB (P:=Tryz.prog) (t:=4) (a:=A2) (x:=.tmp 4) (y:=.const (.bool false)) (v:=.bool false) (d:=.bool false) (TK rfl) rfl (eval_of q4) rfl hW1 (.bool _);refine roundS hF rfl (by simp) hr2 ?_;refine wpListIn_nil ?_;show Code.wpIn _ _ _ _ _ _ _;refine wpIn_ret ?_;have hu2:Upto [b0] w6 W2:=⟨by rw [u2.size]; exact hu1.size,u2.os.trans hu1.os,u2.tape.trans hu1.tape,u2.output.trans hu1.output,fun k hk hn=>by
     by_cases e:k=bt
     ·subst e; rw [u2.here,hht]
     rw [u2.other k e]; exact hu1.other k hk hn⟩
    exact⟨ho1.trans (u2.keepsOthers hW1 rfl),rfl,hu2,hfar2⟩
   | false =>
    rw [hcf] at g42 hfar2;refine wpIn_cond_false (eval_of g42) ?_;refine wpIn_skip ?_;refine⟨ho1,hk1, ?_,hu1,hfar2⟩;rw [hb1]; simp
  ·rintro D ys W hD hys ⟨hb,hu,hfar⟩ hK;have hle:Le j6 w6 j6 W:=hu.le (by simp; exact hF8) hs6.hl.1.fresh;have hl2:HL j6 W [bt] [[.bool false]] H:=hu.hl (by simp; exact hF8) hl1 (by simp; exact hb0n);have T2:VRel j6 w6 [bt,b0] (.a (.d (.view (TDoc.c a0)))) (a6.tmps.getD 2 undef):=hs6.tmps 2;have T3:VRel j6 w6 [bt,b0] (.a (.d (.view (Z9.c a1)))) (a6.tmps.getD 3 undef):=hs6.tmps 3;have T5:VRel j6 w6 [bt,b0] (.a (.d (.str x12))) (a6.tmps.getD 5 undef):=hs6.tmps 5
   have evU:Evolve j6 w6 (Ab.Own j6 H [bt,b0]) j6 W (Ab.Own j6 H [bt]):=Upto.evolve (lou:=lou) hu (by simp; exact hF8) hs6.hl.1.fresh (by simp; exact .inl (by simp)) (fun b hb=>hb.elim (fun h=>.inl (by simp at h; simp [h])) .inr);have hnD:¬Ab.Own j6 H [bt] D:=fun h=>by have:=h.lt hl1; omega
   have hwD:w.heap.size<=D:=by have:=hev.size; omega
   obtain⟨amb1,hamb⟩:∃x:Amb,x.ds=[{ target:=.collected D,args:=#[] }]:=⟨⟨[{ target:=.collected D,args:=#[] }]⟩,rfl⟩;have hsA:@SRel amb1 j6 W [bt] ⟨48,[(2,.a (.d (.view (TDoc.c a0)))),(3,.a (.d (.view (Z9.c a1)))),(5,.a (.d (.str x12))),(4,.lptr 0 0)],[[.bool false]],H⟩ { a6 with defers:={ target:=.collected D,args:=#[] }::a6.defers }:=by
    refine @SRel.mk amb1 _ _ _ _ _ (show ({ target:=.collected D,args:=#[] }::a6.defers:List Deferred)=amb1.ds by rw [hd0,hamb]) hsz (fun k=>?_) hl2;by_cases k2:k=2
    ·subst k2; exact T2.mono hle (Ext.refl _)
    by_cases k3:k=3
    ·subst k3; exact T3.mono hle (Ext.refl _)
    by_cases k5:k=5
    ·subst k5; exact T5.mono hle (Ext.refl _)
    by_cases k4:k=4
    ·subst k4; exact⟨bt,rfl,by show a6.tmps.getD 4 undef=_; rw [Array.getD_eq_getD_getElem?,ht4]; rfl⟩
    have:get [(2,V.a (.d (.view (TDoc.c a0)))),(3,.a (.d (.view (Z9.c a1)))),(5,.a (.d (.str x12))),(4,.lptr 0 0)] k=.any:=by
     rw [get_other _ _ (Ne.symm k2),get_other _ _ (Ne.symm k3),get_other _ _ (Ne.symm k5),get_other _ _ (Ne.symm k4)]; rfl
    show VRel _ _ _ (get _ k) _;rw [this]; trivial
   rw [hys] at hfar;rw [hfar] at hE;show Code.wpIn _ _ _ _ _ _ _;refine AWp.seqWA (lou:=lou) (amb:=amb1) hsA fun K hKK=>?_;refine region ?_;refine S Ld (S Fv (S Ld (S Mv ?_)));refine s0 (callR rfl rfl (Z54_walk hE _ hgT hoT)) rfl ?_;refine Sf ?_;refine nil ⟨rfl,hKK _ fun j7 w7 jl7 a7 hs7 ev7=>?_⟩;refine wpIn_ret ?_;have hd7:a7.defers=[{ target:=.collected D,args:=#[] }]:=(@SRel.defers amb1 _ _ _ _ _ hs7).trans hamb
   show LeavesInM _ _ _ _ _ _ a7.defers _ _;rw [hd7];have hDW:=lt_of_heap hK;refine leaves_mark (lou:=lou) (amb:=amb1) Tryz.tab_ok hs7 (rs:=[.cell 4 4]) rfl (xs:=[.d (.bool r)]) rfl ((hev.trans evU).trans ev7) ⟨rfl,rfl⟩ ((ev7.frame D hDW hnD).1.trans hK) hwD (fun h=>hnD (ev7.own D hDW h))
  rintro D c pre W hD hsp ⟨rfl,hu,hfar⟩ hK;have hle:Le j6 w6 j6 W:=hu.le (by simp; exact hF8) hs6.hl.1.fresh;have hl2:HL j6 W [bt] [[.bool false]] H:=hu.hl (by simp; exact hF8) hl1 (by simp; exact hb0n);have T2:VRel j6 w6 [bt,b0] (.a (.d (.view (TDoc.c a0)))) (a6.tmps.getD 2 undef):=hs6.tmps 2;have T3:VRel j6 w6 [bt,b0] (.a (.d (.view (Z9.c a1)))) (a6.tmps.getD 3 undef):=hs6.tmps 3;have T5:VRel j6 w6 [bt,b0] (.a (.d (.str x12))) (a6.tmps.getD 5 undef):=hs6.tmps 5
  have evU:Evolve j6 w6 (Ab.Own j6 H [bt,b0]) j6 W (Ab.Own j6 H [bt]):=Upto.evolve (lou:=lou) hu (by simp; exact hF8) hs6.hl.1.fresh (by simp; exact .inl (by simp)) (fun b hb=>hb.elim (fun h=>.inl (by simp at h; simp [h])) .inr);have hnD:¬Ab.Own j6 H [bt] D:=fun h=>by have:=h.lt hl1; omega
  have hwD:w.heap.size<=D:=by have:=hev.size; omega
  obtain⟨amb1,hamb⟩:∃x:Amb,x.ds=[{ target:=.collected D,args:=#[] }]:=⟨⟨[{ target:=.collected D,args:=#[] }]⟩,rfl⟩;have hsA:@SRel amb1 j6 W [bt] ⟨48,[(2,.a (.d (.view (TDoc.c a0)))),(3,.a (.d (.view (Z9.c a1)))),(5,.a (.d (.str x12))),(4,.lptr 0 0)],[[.bool false]],H⟩ { a6 with defers:={ target:=.collected D,args:=#[] }::a6.defers }:=by
   refine @SRel.mk amb1 _ _ _ _ _ (show ({ target:=.collected D,args:=#[] }::a6.defers:List Deferred)=amb1.ds by rw [hd0,hamb]) hsz (fun k=>?_) hl2;by_cases k2:k=2
   ·subst k2; exact T2.mono hle (Ext.refl _)
   by_cases k3:k=3
   ·subst k3; exact T3.mono hle (Ext.refl _)
   by_cases k5:k=5
   ·subst k5; exact T5.mono hle (Ext.refl _)
   by_cases k4:k=4
   ·subst k4; exact⟨bt,rfl,by show a6.tmps.getD 4 undef=_; rw [Array.getD_eq_getD_getElem?,ht4]; rfl⟩
   have:get [(2,V.a (.d (.view (TDoc.c a0)))),(3,.a (.d (.view (Z9.c a1)))),(5,.a (.d (.str x12))),(4,.lptr 0 0)] k=.any:=by
    rw [get_other _ _ (Ne.symm k2),get_other _ _ (Ne.symm k3),get_other _ _ (Ne.symm k5),get_other _ _ (Ne.symm k4)]; rfl
   show VRel _ _ _ (get _ k) _;rw [this]; trivial
  have hfx:normal_far xs=true:=by
   obtain⟨q,hq⟩:=hsp;unfold normal_far at hfar ⊢;rw [<- hq];simp only [Bool.or_eq_true,decide_eq_true_eq] at hfar ⊢;rcases hfar with h|h
   ·exact .inl (by simp at h ⊢; omega)
   exact .inr (by rw [List.any_append,h]; rfl)
  rw [hfx] at hE;obtain rfl:=oJ hE;refine wpIn_ret ?_;show LeavesInM _ _ _ _ _ _ _ _ _;show LeavesInM _ _ _ _ _ _ ({ target:=.collected D,args:=#[] }::a6.defers) _ _;rw [hd0];have hfin:=leaves_mark (lou:=lou) (amb:=amb1) (P:=Tryz.prog) (fn:=Tryz.f9) (n:=3) (h:=H) (w:=w) (j:=j) (Post:=fun v h'=>v=.a (.d (.bool false))/\h'=H) Tryz.tab_ok hsA (rs:=[.cell 4 4]) rfl (xs:=[.d (.bool false)]) rfl (hev.trans evU) ⟨rfl,rfl⟩ hK hwD hnD
  exact hfin
end
def Z67_j8  :Option Bool:=some true
def Z67_l11 (a0:(Sl Int)) (a1:(Sl Int)) :Nat->Nat->Option Bool
 | 0,_=>none
 | n11+1,s5_12=>bif (decide (((s5_12:Nat):Int)<((a0.l.length:Nat):Int))) then((a0.l[s5_12]?).bind fun x19=>(a1.l[s5_12]?).bind fun x20=>bif (!decide (x19=x20)) then(some false) else((Z67_l11 a0 a1 n11) (s5_12+1))) else(Z67_j8   )
def Z67 (a0:(Sl Int)) (a1:(Sl Int)):Option Bool:=bif (!decide (((a0.l.length:Nat):Int)=((a1.l.length:Nat):Int))) then(some false) else(Z67_l11 a0 a1 (a0.l.length+1) 0)
theorem Z67_walk {a0 a1:Sl Int}{w0 w1:Option Nat}{r:Bool}(hE:Z67 a0 a1=some r) (H:Heap) :AC Tryz.prog 69 [.d (Sl.d 1 (intE .i64) w0 a0),.d (Sl.d 1 (intE .i64) w1 a1)] H fun v h'=>v=.a (.d (.bool r))/\h'=H:=by
 unfold Z67 at hE;refine AC.oW 26 [.tmp 4] Tryz.call69 Tryz.func69 ?_;refine seqR (S As (nil ?_));refine seqK fun K2 hK2=>?_;refine seqR (S Mv ?_);refine sLen (f:=(intE .i64)) (s:=a0) (TK rfl) rfl rfl rfl rfl fun hL4=>?_;refine S Mv ?_;refine sLen (f:=(intE .i64)) (s:=a1) (TK rfl) rfl rfl rfl rfl fun hL5=>?_;refine S BI (nil ?_);refine cE hE (fun hc6 hE=>?_) (fun hc6 hE=>?_)
 ·refine seqR (S As (nil ?_));exact rt hE
 refine sk hK2 ?_;clear hK2 K2;refine seqJH kN (fun(z:Unit)=>[]) (fun z=>H) (fun z=>Z67_j8 =some r) ?_ ?_
 ·intro K8 hK8;refine seqR (S As (nil ?_));refine block ?_;refine loopH (TA 0 (TA 1 kN)) (fun(z:Nat×Nat)=>[(5,.a (.d (.int .i64 ((z.2:Nat):Int))))]) (fun z=>H) (fun z=>z.1) (fun z=>Z67_l11 a0 a1 z.1 z.2=some r) ((a0.l.length+1),0) hE wA ?_;rintro ⟨n11,s5_12⟩ hE K11 hK11;try dsimp only at hE
  cases n11 with
  | zero=>cases hE
  | succ n11 =>
    rw [Z67_l11] at hE;refine seqK fun K13 hK13=>?_;refine seqR (S Mv (S Mv ?_));refine sLen (f:=(intE .i64)) (s:=a0) (TK rfl) rfl rfl rfl rfl fun hL15=>?_;refine S BI (nil ?_);refine cE hE (fun hc16 hE=>?_) (fun hc16 hE=>?_)
    ·try dsimp only at hc16
     have hf16:=oD hc16;refine sk hK13 ?_;clear hK13 K13;refine seqK fun K17 hK17=>?_;refine block ?_;refine AWp.seqD (Sd Mv (Sd Mv ?_));obtain⟨x19,gx19,hE⟩:=bO hE;refine Sd (ix (intE .i64) s5_12 gx19) ?_;refine Sd Ld (Sd Mv (Sd Mv ?_));obtain⟨x20,gx20,hE⟩:=bO hE;refine Sd (ix (intE .i64) s5_12 gx20) ?_;refine Sd Ld (Sd BI ?_);refine DOps.nil (by decide +kernel) ?_;refine cE hE (fun hc21 hE=>?_) (fun hc21 hE=>?_)
     ·refine seqR (S As (nil ?_));exact rt hE
     refine sk hK17 ?_;clear hK17 K17;refine region ?_;refine S Mv ?_;refine SI ?_;refine S As (nil ?_);exact hK11 _ (n11,(s5_12+1)) wA hE (nS _)
    refine AWp.exit ?_;exact hK8 _ () wA hE
 rintro _ hE;try dsimp only at hE
 unfold Z67_j8 at hE;refine seqR (S As (nil ?_));exact rt hE
end Go.Proofs

namespace Go.Proofs
open Go Go.Ab
open AOps Cert AWp Keeps KeepsT
variable {lou:Lou}
def Z66 (a0:TRef) (a1:TRef):Option Bool:=guardO (((a0.FName==a1.FName))) (Z67 a0.FWraps a1.FWraps) false fun x3=>some (((a0.FName==a1.FName))&&x3)
theorem Z66_walk {a0 a1:TRef}{r:Bool}(hE:Z66 a0 a1=some r) (H:Heap) :AC Tryz.prog 33 [.agg (TRef.c a0),.agg (TRef.c a1)] H fun v h'=>v=.a (.d (.bool r))/\h'=H:=by
 unfold Z66 at hE;refine AC.oW 17 [.tmp 4] Tryz.call33 Tryz.func33 ?_;refine seqR (S BX (S BX (S As (nil ?_))));refine seqR (S Fv (S Ld (S Fv (S Ld (S BS (S Mv (G0 Fv ?_)))))));refine G1 11 rfl Ld ?_;refine G0 Fv ?_;refine G1 13 rfl Ld ?_;obtain⟨x3,gx3,hE⟩:=gO hE;refine Gc2 12 14 rfl rfl rfl rfl rfl rfl (fun hC=>Z67_walk (gx3 hC)) ?_;refine S PA (S As (nil ?_));exact rt hE
def Z62 (a0:Int) (a1:Int):Option Int:=bif (decide (a0<a1)) then(some (-1:Int)) else(bif (decide (a1<a0)) then(some (1:Int)) else(some (0:Int)))
theorem Z62_walk {a0 a1 r:Int}(hE:Z62 a0 a1=some r) (H:Heap) :AC Tryz.prog 122 [.d (.int .i64 a0),.d (.int .i64 a1)] H fun v h'=>v=.a (.d (.int .i64 r))/\h'=H:=by
 unfold Z62 at hE;refine AC.oW 11 [.tmp 4] Tryz.call122 Tryz.func122 ?_;refine seqR (S As (nil ?_));refine seqK fun K2 hK2=>?_;refine seqR (S Mv (S Mv (S BI (nil ?_))));refine cE hE (fun hc4 hE=>?_) (fun hc4 hE=>?_)
 ·refine seqR (S As (nil ?_));exact rt hE
 refine sk hK2 ?_;clear hK2 K2;refine seqK fun K6 hK6=>?_;refine seqR (S Mv (S Mv (S BI (nil ?_))));refine cE hE (fun hc8 hE=>?_) (fun hc8 hE=>?_)
 ·refine seqR (S As (nil ?_));exact rt hE
 refine sk hK6 ?_;clear hK6 K6;refine seqR (S As (nil ?_));exact rt hE
def Z64 (a0:Bs) (a1:Bs):Option Int:=bif (Op.bytesLess a0 a1) then(some (-1:Int)) else(bif (!(Op.bytesLess a0 a1||a0==a1)) then(some (1:Int)) else(some (0:Int)))
theorem Z64_walk {a0 a1:Bs}{r:Int}(hE:Z64 a0 a1=some r) (H:Heap) :AC Tryz.prog 123 [.d (.str a0),.d (.str a1)] H fun v h'=>v=.a (.d (.int .i64 r))/\h'=H:=by
 unfold Z64 at hE;refine AC.oW 11 [.tmp 4] Tryz.call123 Tryz.func123 ?_;refine seqR (S As (nil ?_));refine seqK fun K2 hK2=>?_;refine seqR (S Mv (S Mv (S BS (nil ?_))));refine cE hE (fun hc4 hE=>?_) (fun hc4 hE=>?_)
 ·refine seqR (S As (nil ?_));exact rt hE
 refine sk hK2 ?_;clear hK2 K2;refine seqK fun K6 hK6=>?_;refine seqR (S Mv (S Mv (S BS (nil ?_))));refine cE hE (fun hc8 hE=>?_) (fun hc8 hE=>?_)
 ·refine seqR (S As (nil ?_));exact rt hE
 refine sk hK6 ?_;clear hK6 K6;refine seqR (S As (nil ?_));exact rt hE
def Z63 (a0:Z11) (a1:Int):Option Bs:=bif (decide (a1<((a0.FKeys.l.length:Nat):Int))) then((idxC a0.FKeys.l a1).bind fun x7=>some x7) else(some ([]:Bs))
theorem Z63_walk {a0:Z11}{a1:Int}{r:Bs}(hE:Z63 a0 a1=some r) (H:Heap) :AC Tryz.prog 124 [.agg (Z11.c a0),.d (.int .i64 a1)] H fun v h'=>v=.a (.d (.str r))/\h'=H:=by
 unfold Z63 at hE;refine AC.oW 15 [.tmp 4] Tryz.call124 Tryz.func124 ?_;refine seqR (S BX (S As (nil ?_)));refine seqK fun K2 hK2=>?_;refine seqR (S Mv (S Fv (S Ld ?_)));refine sLen (f:=strE) (s:=a0.FKeys) (TK rfl) rfl rfl rfl rfl fun hL4=>?_;refine S BI (nil ?_);refine cE hE (fun hc5 hE=>?_) (fun hc5 hE=>?_)
 ·refine seqR (S Fv (S Ld (S Mv ?_)));obtain⟨x7,gx7,hE⟩:=bO hE;refine s0 (idxM (f:=strE) (TK rfl) rfl (TK rfl) rfl rfl rfl gx7) rfl ?_;refine S Ld (S As (nil ?_));exact rt hE
 refine sk hK2 ?_;clear hK2 K2;refine seqR (S As (nil ?_));exact rt hE
def Z60_j8  (s5_9:Int):Option Int:=some s5_9
def Z60_j18 (s6_14:Int) (k_next_12:Int->Int->Option Int) (s5_19:Int):Option Int:=(addC s6_14 (1:Int)).bind fun x20=>k_next_12 s5_19 x20
def Z60_l12 (a0:Z11) (a1:Z11) (k_rec_70:Z11->Z11->Option Int):Nat->Int->Int->Option Int
 | 0,_,_=>none
 | n12+1,s5_13,s6_14=>bif (decide (s5_13=(0:Int))) then(bif ((decide (((a0.FItems.l.length:Nat):Int)<=s6_14))||(decide (((a1.FItems.l.length:Nat):Int)<=s6_14))) then((Z62 ((a0.FItems.l.length:Nat):Int) ((a1.FItems.l.length:Nat):Int)).bind fun x28=>some x28) else((Z63 a0 s6_14).bind fun x30=>(Z63 a1 s6_14).bind fun x31=>(Z64 x30 x31).bind fun x32=>bif (decide (x32=(0:Int))) then((idxC a0.FItems.l s6_14).bind fun x35=>(idxC a1.FItems.l s6_14).bind fun x36=>(k_rec_70 x35 x36).bind fun x37=>Z60_j18 s6_14 ((Z60_l12 a0 a1 k_rec_70 n12)) x37) else(Z60_j18 s6_14 ((Z60_l12 a0 a1 k_rec_70 n12)) x32))) else(Z60_j8   s5_13)
def Z60_j6 (a0:Z11) (a1:Z11) (k_rec_70:Z11->Z11->Option Int) (s5_7:Int):Option Int:=Z60_l12 a0 a1 k_rec_70 F0 s5_7 (0:Int)
def Z60_j4 (a0:Z11) (a1:Z11) (k_rec_70:Z11->Z11->Option Int) (s5_5:Int):Option Int:=bif (decide (s5_5=(0:Int))) then((Z64 a0.FText a1.FText).bind fun x40=>Z60_j6 a0 a1 k_rec_70 x40) else(Z60_j6 a0 a1 k_rec_70 s5_5)
def Z60_n:Nat->Z11->Z11->Option Int
 | 0,_,_=>none
 | n+1,a0,a1=>(Z62 a0.FKind a1.FKind).bind fun x3=>bif (decide (x3=(0:Int))) then((Z62 a0.FInt a1.FInt).bind fun x43=>Z60_j4 a0 a1 (Z60_n n) x43) else(Z60_j4 a0 a1 (Z60_n n) x3)
theorem Z60_step (n:Nat) (ih_70:∀{a0 a1:Z11}{r:Int},Z60_n n a0 a1=some r->∀(H:Heap),AC Tryz.prog 70 [.agg (Z11.c a0),.agg (Z11.c a1)] H fun v h'=>v=.a (.d (.int .i64 r))/\h'=H):∀{a0 a1:Z11}{r:Int},Z60_n (n+1) a0 a1=some r->∀(H:Heap),AC Tryz.prog 70 [.agg (Z11.c a0),.agg (Z11.c a1)] H fun v h'=>v=.a (.d (.int .i64 r))/\h'=H:=by
 intro a0 a1   r hE H ;rw [Z60_n] at hE;refine AC.oW 70 [.tmp 4] Tryz.call70 Tryz.func70 ?_;refine seqR (S BX (S BX (S As (nil ?_))));refine seqR (S Fv (S Ld (S Fv (S Ld ?_))));obtain⟨x3,gx3,hE⟩:=bO hE;refine Sc rfl rfl (Z62_walk gx3) ?_;refine S As (nil ?_);refine seqJH (TA 2 (TA 3 kN)) (fun(z:Int)=>[(5,.a (.d (.int .i64 z)))]) (fun z=>H) (fun z=>Z60_j4 a0 a1 (Z60_n n) z=some r) ?_ ?_
 ·intro K4 hK4;refine seqR (S Mv (S BI (nil ?_)));refine cE hE (fun hc42 hE=>?_) (fun hc42 hE=>?_)
  ·refine region ?_;refine S Fv (S Ld (S Fv (S Ld ?_)));obtain⟨x43,gx43,hE⟩:=bO hE;refine Sc rfl rfl (Z62_walk gx43) ?_;refine S As (nil ?_);exact hK4 _ x43 wA hE
  refine AWp.skip ?_;exact hK4 _ x3 wA hE
 rintro s5_5 hE;try dsimp only at hE
 unfold Z60_j4 at hE;refine seqJH (TA 2 (TA 3 kN)) (fun(z:Int)=>[(5,.a (.d (.int .i64 z)))]) (fun z=>H) (fun z=>Z60_j6 a0 a1 (Z60_n n) z=some r) ?_ ?_
 ·intro K6 hK6;refine seqR (S Mv (S BI (nil ?_)));refine cE hE (fun hc39 hE=>?_) (fun hc39 hE=>?_)
  ·refine region ?_;refine S Fv (S Ld (S Fv (S Ld ?_)));obtain⟨x40,gx40,hE⟩:=bO hE;refine Sc rfl rfl (Z64_walk gx40) ?_;refine S As (nil ?_);exact hK6 _ x40 wA hE
  refine AWp.skip ?_;exact hK6 _ s5_5 wA hE
 rintro s5_7 hE;try dsimp only at hE
 unfold Z60_j6 at hE;refine seqJH kN (fun(z:Int)=>[(5,.a (.d (.int .i64 z)))]) (fun z=>H) (fun z=>Z60_j8 z=some r) ?_ ?_
 ·intro K8 hK8;refine seqR (S As (nil ?_));refine block ?_;refine loopH (TA 2 (TA 3 kN)) (fun(z:Nat×Int×Int)=>[(5,.a (.d (.int .i64 z.2.1))),(6,.a (.d (.int .i64 z.2.2)))]) (fun z=>H) (fun z=>z.1) (fun z=>Z60_l12 a0 a1 (Z60_n n) z.1 z.2.1 z.2.2=some r) (F0,s5_7,(0:Int)) hE wA ?_;rintro ⟨n12,s5_13,s6_14⟩ hE K12 hK12;try dsimp only at hE
  cases n12 with
  | zero=>cases hE
  | succ n12 =>
    rw [Z60_l12] at hE;refine seqK fun K15 hK15=>?_;refine seqR (S Mv (S BI (nil ?_)));refine cE hE (fun hc17 hE=>?_) (fun hc17 hE=>?_)
    ·refine sk hK15 ?_;clear hK15 K15;refine seqJH (TA 2 (TA 3 (TA 6 kN))) (fun(z:Int)=>[(5,.a (.d (.int .i64 z)))]) (fun z=>H) (fun z=>Z60_j18 s6_14 ((Z60_l12 a0 a1 (Z60_n n) n12)) z=some r) ?_ ?_
     ·intro K18 hK18;refine block ?_;refine seqK fun K21 hK21=>?_;refine seqR (S Mv (S Fv ?_));refine s0 (loadV (TK rfl) rfl rfl (congrArg (fun x=>some (A.d x)) (Z11.FItemsD_eq _))) rfl ?_;refine sLen (f:=Z11.c) (s:=a0.FItems) (TK rfl) rfl rfl rfl rfl fun hL23=>?_;refine S BI (S Mv (G0 Mv (G0 Fv ?_)));refine gC rfl rfl (fun hC=>ungdA (k:=37) rfl (loadV (TK rfl) rfl rfl (congrArg (fun x=>some (A.d x)) (Z11.FItemsD_eq _)))) rfl ?_
      refine gC rfl rfl (fun hC=>ungdA (k:=38) rfl (lenM' (f:=Z11.c) (s:=a1.FItems) (TK rfl) rfl rfl rfl)) rfl ?_;refine G2 36 39 rfl rfl BI ?_;refine S PO (nil ?_);refine cE hE (fun hc24 hE=>?_) (fun hc24 hE=>?_)
      ·refine seqR (S Fv ?_);refine s0 (loadV (TK rfl) rfl rfl (congrArg (fun x=>some (A.d x)) (Z11.FItemsD_eq _))) rfl ?_;refine sLen (f:=Z11.c) (s:=a0.FItems) (TK rfl) rfl rfl rfl rfl fun hL26=>?_;refine S Fv ?_;refine s0 (loadV (TK rfl) rfl rfl (congrArg (fun x=>some (A.d x)) (Z11.FItemsD_eq _))) rfl ?_;refine sLen (f:=Z11.c) (s:=a1.FItems) (TK rfl) rfl rfl rfl rfl fun hL27=>?_;obtain⟨x28,gx28,hE⟩:=bO hE
       refine Sc rfl rfl (Z62_walk gx28) ?_;refine S As (nil ?_);exact rt hE
      refine sk hK21 ?_;clear hK21 K21;refine AWp.seqD (Sd Ld (Sd Mv ?_));obtain⟨x30,gx30,hE⟩:=bO hE;refine Scd rfl rfl (Z63_walk gx30) ?_;refine Sd Ld (Sd Mv ?_);obtain⟨x31,gx31,hE⟩:=bO hE;refine Scd rfl rfl (Z63_walk gx31) ?_;obtain⟨x32,gx32,hE⟩:=bO hE;refine Scd rfl rfl (Z64_walk gx32) ?_;refine Sd As ?_;refine DOps.nil (by decide +kernel) ?_;refine seqR (S Mv (S BI (nil ?_)));refine cE hE (fun hc34 hE=>?_) (fun hc34 hE=>?_)
      ·refine AWp.draw rfl ?_;refine Sd Fv ?_;refine DOps.s0 (loadV (TK rfl) rfl rfl (congrArg (fun x=>some (A.d x)) (Z11.FItemsD_eq _))) rfl ?_;refine Sd Mv ?_;obtain⟨x35,gx35,hE⟩:=bO hE;refine DOps.s0 (idxM (f:=Z11.c) (TK rfl) rfl (TK rfl) rfl rfl rfl gx35) rfl ?_;refine Sd Ld (Sd Fv ?_);refine DOps.s0 (loadV (TK rfl) rfl rfl (congrArg (fun x=>some (A.d x)) (Z11.FItemsD_eq _))) rfl ?_;refine Sd Mv ?_
       obtain⟨x36,gx36,hE⟩:=bO hE;refine DOps.s0 (idxM (f:=Z11.c) (TK rfl) rfl (TK rfl) rfl rfl rfl gx36) rfl ?_;refine Sd Ld ?_;obtain⟨x37,gx37,hE⟩:=bO hE;refine Scd rfl rfl (ih_70 gx37) ?_;refine Sd As ?_;refine DOps.nil (by decide +kernel) ?_;exact hK18 _ x37 wA hE
      refine AWp.skip ?_;exact hK18 _ x32 wA hE
     rintro s5_19 hE;try dsimp only at hE
     unfold Z60_j18 at hE;refine region ?_;refine S Mv ?_;obtain⟨x20,gx20,hE⟩:=bO hE;refine s0 (addM rfl rfl gx20) rfl ?_;refine S As (nil ?_);exact hK12 _ (n12,s5_19,x20) wA hE (nS _)
    refine AWp.exit ?_;exact hK8 _ s5_13 wA hE
 rintro s5_9 hE;try dsimp only at hE
 unfold Z60_j8 at hE;refine seqR (S Mv (S As (nil ?_)));exact rt hE
theorem Z60_all:∀(n:Nat),(∀{a0 a1:Z11}{r:Int},Z60_n n a0 a1=some r->∀(H:Heap),AC Tryz.prog 70 [.agg (Z11.c a0),.agg (Z11.c a1)] H fun v h'=>v=.a (.d (.int .i64 r))/\h'=H)
 | 0=>fun hE=>by first|cases hE|(rw [Z60_n] at hE; cases hE)
 | n+1=>Z60_step n (Z60_all n)
def Z60 (a0:Z11) (a1:Z11):Option Int:=Z60_n F0 a0 a1
theorem Z60_walk {a0 a1:Z11}{r:Int}(hE:Z60 a0 a1=some r) (H:Heap) :AC Tryz.prog 70 [.agg (Z11.c a0),.agg (Z11.c a1)] H fun v h'=>v=.a (.d (.int .i64 r))/\h'=H:=(Z60_all F0) hE H 
def Z61 (a0:Z11) (a1:Z11):Option Bool:=(Z60 a0 a1).bind fun x3=>some (decide (x3=(0:Int)))
theorem Z61_walk {a0 a1:Z11}{r:Bool}(hE:Z61 a0 a1=some r) (H:Heap) :AC Tryz.prog 34 [.agg (Z11.c a0),.agg (Z11.c a1)] H fun v h'=>v=.a (.d (.bool r))/\h'=H:=by
 unfold Z61 at hE;refine AC.oW 9 [.tmp 4] Tryz.call34 Tryz.func34 ?_;refine seqR (S BX (S BX (S As (nil ?_))));refine seqR (S Ld (S Ld ?_));obtain⟨x3,gx3,hE⟩:=bO hE;refine Sc rfl rfl (Z60_walk gx3) ?_;refine S BI (S As (nil ?_));exact rt hE
def Z75_j8  :Option Bool:=some true
def Z75_j17 (s5_12:Nat) (k_next_11:Nat->Option Bool) :Option Bool:=k_next_11 (s5_12+1)
def Z75_l28 (s5_12:Nat) (x19:Z8) (x20:Z8) (k_next_11:Nat->Option Bool):Nat->Nat->Option Bool
 | 0,_=>none
 | n28+1,s8_29=>bif (decide (((s8_29:Nat):Int)<((x19.FArgs.l.length:Nat):Int))) then((x19.FArgs.l[s8_29]?).bind fun x36=>(x20.FArgs.l[s8_29]?).bind fun x37=>guardO (!(!(x36.FName==x37.FName))) (x19.FArgs.l[s8_29]?) TArg.zero fun x38=>guardO (!(!(x36.FName==x37.FName))) (x20.FArgs.l[s8_29]?) TArg.zero fun x39=>guardO (!(!(x36.FName==x37.FName))) (Z61 x38.FValue x39.FValue) false fun x40=>bif ((!(x36.FName==x37.FName))||(!x40)) then(some false) else((Z75_l28 s5_12 x19 x20 k_next_11 n28) (s8_29+1))) else(Z75_j17 s5_12 k_next_11 )
def Z75_l11 (a0:(Sl Z8)) (a1:(Sl Z8)) (k_rec_11:(Sl Z8)->(Sl Z8)->Option Bool):Nat->Nat->Option Bool
 | 0,_=>none
 | n11+1,s5_12=>bif (decide (((s5_12:Nat):Int)<((a0.l.length:Nat):Int))) then((a0.l[s5_12]?).bind fun x19=>(a1.l[s5_12]?).bind fun x20=>guardO (!(((((!(x19.FKey==x20.FKey))||(!(x19.FOn==x20.FOn)))||(!(x19.FName==x20.FName)))||(!(x19.FLabel==x20.FLabel)))||(!decide (x19.FInitial=x20.FInitial)))) (Z66 x19.FType x20.FType) false fun x23=>guardO (!(((((((!(x19.FKey==x20.FKey))||(!(x19.FOn==x20.FOn)))||(!(x19.FName==x20.FName)))||(!(x19.FLabel==x20.FLabel)))||(!decide (x19.FInitial=x20.FInitial)))||(!x23))||(!decide (((x19.FArgs.l.length:Nat):Int)=((x20.FArgs.l.length:Nat):Int))))) (k_rec_11 x19.FPicks x20.FPicks) false fun x24=>bif ((((((((!(x19.FKey==x20.FKey))||(!(x19.FOn==x20.FOn)))||(!(x19.FName==x20.FName)))||(!(x19.FLabel==x20.FLabel)))||(!decide (x19.FInitial=x20.FInitial)))||(!x23))||(!decide (((x19.FArgs.l.length:Nat):Int)=((x20.FArgs.l.length:Nat):Int))))||(!x24)) then(some false) else(Z75_l28 s5_12 x19 x20 ((Z75_l11 a0 a1 k_rec_11 n11)) (x19.FArgs.l.length+1) 0)) else(Z75_j8   )
def Z75_n:Nat->(Sl Z8)->(Sl Z8)->Option Bool
 | 0,_,_=>none
 | n+1,a0,a1=>bif (!decide (((a0.l.length:Nat):Int)=((a1.l.length:Nat):Int))) then(some false) else(Z75_l11 a0 a1 (Z75_n n) (a0.l.length+1) 0)
theorem Z75_step (n:Nat) (ih_11:∀{a0 a1:Sl Z8}{w0 w1:Option Nat}{r:Bool},Z75_n n a0 a1=some r->∀(H:Heap),AC Tryz.prog 11 [.d (Sl.d 9 Z8.c w0 a0),.d (Sl.d 9 Z8.c w1 a1)] H fun v h'=>v=.a (.d (.bool r))/\h'=H):∀{a0 a1:Sl Z8}{w0 w1:Option Nat}{r:Bool},Z75_n (n+1) a0 a1=some r->∀(H:Heap),AC Tryz.prog 11 [.d (Sl.d 9 Z8.c w0 a0),.d (Sl.d 9 Z8.c w1 a1)] H fun v h'=>v=.a (.d (.bool r))/\h'=H:=by
 intro a0 a1 w0 w1  r hE H ;rw [Z75_n] at hE;refine AC.oW 122 [.tmp 4] Tryz.call11 Tryz.func11 ?_;refine seqR (S As (nil ?_));refine seqK fun K2 hK2=>?_;refine seqR (S Mv ?_);refine sLen (f:=Z8.c) (s:=a0) (TK rfl) rfl rfl rfl rfl fun hL4=>?_;refine S Mv ?_;refine sLen (f:=Z8.c) (s:=a1) (TK rfl) rfl rfl rfl rfl fun hL5=>?_;refine S BI (nil ?_);refine cE hE (fun hc6 hE=>?_) (fun hc6 hE=>?_)
 ·refine seqR (S As (nil ?_));exact rt hE
 refine sk hK2 ?_;clear hK2 K2;refine seqJH kN (fun(z:Unit)=>[]) (fun z=>H) (fun z=>Z75_j8 =some r) ?_ ?_
 ·intro K8 hK8;refine seqR (S As (nil ?_));refine block ?_;refine loopH (TA 0 (TA 1 kN)) (fun(z:Nat×Nat)=>[(5,.a (.d (.int .i64 ((z.2:Nat):Int))))]) (fun z=>H) (fun z=>z.1) (fun z=>Z75_l11 a0 a1 (Z75_n n) z.1 z.2=some r) ((a0.l.length+1),0) hE wA ?_;rintro ⟨n11,s5_12⟩ hE K11 hK11;try dsimp only at hE
  cases n11 with
  | zero=>cases hE
  | succ n11 =>
    rw [Z75_l11] at hE;refine seqK fun K13 hK13=>?_;refine seqR (S Mv (S Mv ?_));refine sLen (f:=Z8.c) (s:=a0) (TK rfl) rfl rfl rfl rfl fun hL15=>?_;refine S BI (nil ?_);refine cE hE (fun hc16 hE=>?_) (fun hc16 hE=>?_)
    ·try dsimp only at hc16
     have hf16:=oD hc16;refine sk hK13 ?_;clear hK13 K13;refine seqJH (TA 0 (TA 1 (TA 5 kN))) (fun(z:Unit)=>[]) (fun z=>H) (fun z=>Z75_j17 s5_12 ((Z75_l11 a0 a1 (Z75_n n) n11)) =some r) ?_ ?_
     ·intro K17 hK17;refine block ?_;refine AWp.seqD (Sd Mv (Sd Mv ?_));obtain⟨x19,gx19,hE⟩:=bO hE;refine Sd (ix Z8.c s5_12 gx19) (Sd Ld (Sd Mv (Sd Mv ?_)));obtain⟨x20,gx20,hE⟩:=bO hE;refine Sd (ix Z8.c s5_12 gx20) (Sd Ld ?_);refine DOps.sB (TK rfl) rfl rfl ?_ (by repeat (first|exact Snoc.nil|apply Snoc.cons));refine DOps.sB (TK rfl) rfl rfl ?_ (by repeat (first|exact Snoc.nil|apply Snoc.cons));refine DOps.sLn (storeLFA (TK rfl) rfl rfl rfl rfl rfl) ?_
      refine DOps.sLn (storeLFA (TK rfl) rfl rfl rfl rfl rfl) ?_;refine DOps.nil (by decide +kernel) ?_;refine freezeA 7 _ rfl (KA 0 (KA 1 (KA 5 (KA 6 Keeps.nil)))) ?_;refine freezeA 6 _ rfl (KA 0 (KA 1 (KA 5 (KA 7 Keeps.nil)))) ?_;refine seqK fun K21 hK21=>?_;refine seqR (S Fv (S Ld (S Fv (S Ld (S BS (S Mv (G0 Fv ?_)))))));refine G1 34 rfl Ld ?_;refine G0 Fv ?_;refine G1 36 rfl Ld ?_;refine G2 35 37 rfl rfl BS ?_
      refine S PO (S Mv (G0 Fv ?_));refine G1 41 rfl Ld ?_;refine G0 Fv ?_;refine G1 43 rfl Ld ?_;refine G2 42 44 rfl rfl BS ?_;refine S PO (S Mv (G0 Fv ?_));refine G1 48 rfl Ld ?_;refine G0 Fv ?_;refine G1 50 rfl Ld ?_;refine G2 49 51 rfl rfl BS ?_;refine S PO (S Mv (G0 Fv ?_));refine G1 55 rfl Ld ?_;refine G0 Fv ?_;refine G1 57 rfl Ld ?_;refine G2 56 58 rfl rfl BI ?_;refine S PO (S Mv (G0 Fv ?_))
      refine G1 62 rfl Ld ?_;refine G0 Fv ?_;refine G1 64 rfl Ld ?_;obtain⟨x23,gx23,hE⟩:=gO hE;refine Gc2 63 65 rfl rfl rfl rfl rfl rfl (fun hC=>Z66_walk (gx23 hC)) ?_;refine G1 66 rfl NB ?_;refine S PO (S Mv (G0 Fv ?_));refine G1 70 rfl Ld ?_;refine gC rfl rfl (fun hC=>ungdA (k:=71) rfl (lenM' (f:=TArg.c) (s:=x19.FArgs) (TK rfl) rfl rfl rfl)) rfl ?_;refine G0 Fv ?_;refine G1 73 rfl Ld ?_;refine gC rfl rfl (fun hC=>ungdA (k:=74) rfl (lenM' (f:=TArg.c) (s:=x20.FArgs) (TK rfl) rfl rfl rfl)) rfl ?_
      refine G2 72 75 rfl rfl BI ?_;refine S PO (S Mv (G0 Fv ?_));refine gC rfl rfl (fun hC=>ungdA (k:=79) rfl (loadV (TK rfl) rfl rfl (congrArg (fun x=>some (A.d x)) (Z8.FPicksD_eq _)))) rfl ?_;refine G0 Fv ?_;refine gC rfl rfl (fun hC=>ungdA (k:=81) rfl (loadV (TK rfl) rfl rfl (congrArg (fun x=>some (A.d x)) (Z8.FPicksD_eq _)))) rfl ?_;obtain⟨x24,gx24,hE⟩:=gO hE;refine Gc2 80 82 rfl rfl rfl rfl rfl rfl (fun hC=>ih_11 (gx24 hC)) ?_
      refine G1 83 rfl NB ?_;refine S PO (nil ?_);refine cE hE (fun hc25 hE=>?_) (fun hc25 hE=>?_)
      ·refine seqR (S As (nil ?_));exact rt hE
      refine sk hK21 ?_;clear hK21 K21;refine seqR (S As (nil ?_));refine block ?_;refine loopH (TA 0 (TA 1 (TA 5 (TA 6 (TA 7 kN))))) (fun(z:Nat×Nat)=>[(8,.a (.d (.int .i64 ((z.2:Nat):Int))))]) (fun z=>H) (fun z=>z.1) (fun z=>Z75_l28 s5_12 x19 x20 ((Z75_l11 a0 a1 (Z75_n n) n11)) z.1 z.2=some r) ((x19.FArgs.l.length+1),0) hE wA ?_;rintro ⟨n28,s8_29⟩ hE K28 hK28;try dsimp only at hE
      cases n28 with
      | zero=>cases hE
      | succ n28 =>
        rw [Z75_l28] at hE;refine seqK fun K30 hK30=>?_;refine seqR (S Mv (S Fv (S Ld ?_)));refine sLen (f:=TArg.c) (s:=x19.FArgs) (TK rfl) rfl rfl rfl rfl fun hL32=>?_;refine S BI (nil ?_);refine cE hE (fun hc33 hE=>?_) (fun hc33 hE=>?_)
        ·try dsimp only at hc33
         have hf33:=oD hc33;refine sk hK30 ?_;clear hK30 K30;refine seqK fun K34 hK34=>?_;refine block ?_;refine AWp.seqD (Sd Fv (Sd Ld (Sd Mv ?_)));obtain⟨x36,gx36,hE⟩:=bO hE;refine Sd (ix TArg.c s8_29 gx36) (Sd Fv (Sd Ld (Sd Fv (Sd Ld (Sd Mv ?_)))));obtain⟨x37,gx37,hE⟩:=bO hE;refine Sd (ix TArg.c s8_29 gx37) (Sd Fv (Sd Ld (Sd BS (Sd Mv (G0d Fv ?_)))));refine G1d 107 rfl Ld ?_;refine G0d Mv ?_
         obtain⟨x38,gx38,hE⟩:=gO hE;refine DOps.gC rfl rfl (fun hC=>ungdA (k:=108) rfl (ungdA (k:=109) rfl (idxMn (f:=TArg.c) (n:=s8_29) (TK rfl) rfl (TK rfl) rfl rfl rfl (gx38 hC)))) rfl ?_;refine G1d 110 rfl Fv ?_;refine G1d 111 rfl Ld ?_;refine G0d Fv ?_;refine G1d 113 rfl Ld ?_;refine G0d Mv ?_;obtain⟨x39,gx39,hE⟩:=gO hE;refine DOps.gC rfl rfl (fun hC=>ungdA (k:=114) rfl (ungdA (k:=115) rfl (idxMn (f:=TArg.c) (n:=s8_29) (TK rfl) rfl (TK rfl) rfl rfl rfl (gx39 hC)))) rfl ?_
         refine G1d 116 rfl Fv ?_;refine G1d 117 rfl Ld ?_;obtain⟨x40,gx40,hE⟩:=gO hE;refine Gc2d 112 118 rfl rfl rfl rfl rfl rfl (fun hC=>Z61_walk (gx40 hC)) ?_;refine G1d 119 rfl NB ?_;refine Sd PO ?_;refine DOps.nil (by decide +kernel) ?_;refine cE hE (fun hc41 hE=>?_) (fun hc41 hE=>?_)
         ·refine seqR (S As (nil ?_));exact rt hE
         refine sk hK34 ?_;clear hK34 K34;refine region ?_;refine S Mv ?_;refine SI ?_;refine S As (nil ?_);exact hK28 _ (n28,(s8_29+1)) wA hE (nS _)
        refine AWp.exit ?_;exact hK17 _ () wA hE
     rintro _ hE;try dsimp only at hE
     unfold Z75_j17 at hE;refine region ?_;refine S Mv ?_;refine SI ?_;refine S As (nil ?_);exact hK11 _ (n11,(s5_12+1)) wA hE (nS _)
    refine AWp.exit ?_;exact hK8 _ () wA hE
 rintro _ hE;try dsimp only at hE
 unfold Z75_j8 at hE;refine seqR (S As (nil ?_));exact rt hE
theorem Z75_all:∀(n:Nat),(∀{a0 a1:Sl Z8}{w0 w1:Option Nat}{r:Bool},Z75_n n a0 a1=some r->∀(H:Heap),AC Tryz.prog 11 [.d (Sl.d 9 Z8.c w0 a0),.d (Sl.d 9 Z8.c w1 a1)] H fun v h'=>v=.a (.d (.bool r))/\h'=H)
 | 0=>fun hE=>by first|cases hE|(rw [Z75_n] at hE; cases hE)
 | n+1=>Z75_step n (Z75_all n)
def Z75 (a0:(Sl Z8)) (a1:(Sl Z8)):Option Bool:=Z75_n F0 a0 a1
theorem Z75_walk {a0 a1:Sl Z8}{w0 w1:Option Nat}{r:Bool}(hE:Z75 a0 a1=some r) (H:Heap) :AC Tryz.prog 11 [.d (Sl.d 9 Z8.c w0 a0),.d (Sl.d 9 Z8.c w1 a1)] H fun v h'=>v=.a (.d (.bool r))/\h'=H:=(Z75_all F0) hE H 
end Go.Proofs

namespace Go.Proofs
open Go Go.Ab
open AOps Cert AWp Keeps KeepsT
variable {lou:Lou}
section
variable [IsLoud lou]
def Tryz.lay36_ren:Go.Shelf.Ren:=⟨fun|159=>36|165=>72|166=>73|167=>74|169=>75|230=>76|204=>77|240=>126|241=>127|197=>128|118=>129|168=>130|270=>131|262=>132|276=>181|277=>182|260=>183|242=>184|313=>185|278=>222|274=>223|275=>224|n=>n,fun|9=>9|4=>4|3=>3|5=>5|72=>130|0=>0|76=>134|75=>133|107=>139|70=>127|20=>20|37=>128|127=>181|21=>21|105=>182|164=>219|162=>225|203=>223|119=>262|46=>190|139=>265|138=>264|51=>266|160=>267|208=>292|206=>290|80=>137|n=>n,fun|13=>0|3=>2|4=>3|n=>n⟩
theorem Tryz.lay36:Go.Proofs.Lays.n159 Tryz.prog Tryz.lay36_ren:={
 mixed:=by kernel_rfl
 f118:=Tryz.func129.trans (congrArg some (by kernel_rfl))
 f159:=Tryz.func36.trans (congrArg some (by kernel_rfl))
 f165:=Tryz.func72.trans (congrArg some (by kernel_rfl))
 f166:=Tryz.func73.trans (congrArg some (by kernel_rfl))
 f167:=Tryz.func74.trans (congrArg some (by kernel_rfl))
 f168:=Tryz.func130.trans (congrArg some (by kernel_rfl))
 f169:=Tryz.func75.trans (congrArg some (by kernel_rfl))
 f197:=Tryz.func128.trans (congrArg some (by kernel_rfl))
 f204:=Tryz.func77.trans (congrArg some (by kernel_rfl))
 f230:=Tryz.func76.trans (congrArg some (by kernel_rfl))
 f240:=Tryz.func126.trans (congrArg some (by kernel_rfl))
 f241:=Tryz.func127.trans (congrArg some (by kernel_rfl))
 f242:=Tryz.func184.trans (congrArg some (by kernel_rfl))
 f260:=Tryz.func183.trans (congrArg some (by kernel_rfl))
 f262:=Tryz.func132.trans (congrArg some (by kernel_rfl))
 f270:=Tryz.func131.trans (congrArg some (by kernel_rfl))
 f274:=Tryz.func223.trans (congrArg some (by kernel_rfl))
 f275:=Tryz.func224.trans (congrArg some (by kernel_rfl))
 f276:=Tryz.func181.trans (congrArg some (by kernel_rfl))
 f277:=Tryz.func182.trans (congrArg some (by kernel_rfl))
 f278:=Tryz.func222.trans (congrArg some (by kernel_rfl))
 f313:=Tryz.func185.trans (congrArg some (by kernel_rfl))
 t0:=Tryz.underlying0
 a0:=Tryz.isAgg0
 z0:=Tryz.sizeOf0
 v0:=Tryz.zeroValue0
 t3:=Tryz.underlying3
 a3:=Tryz.isAgg3
 z3:=Tryz.sizeOf3
 v3:=Tryz.zeroValue3
 t4:=Tryz.underlying4
 a4:=Tryz.isAgg4
 z4:=Tryz.sizeOf4
 v4:=Tryz.zeroValue4
 t5:=Tryz.underlying5
 a5:=Tryz.isAgg5
 z5:=Tryz.sizeOf5
 v5:=Tryz.zeroValue5
 t9:=Tryz.underlying9
 a9:=Tryz.isAgg9
 z9:=Tryz.sizeOf9
 v9:=Tryz.zeroValue9
 t20:=Tryz.underlying20
 a20:=Tryz.isAgg20
 z20:=Tryz.sizeOf20
 v20:=Tryz.zeroValue20
 t21:=Tryz.underlying21
 a21:=Tryz.isAgg21
 z21:=Tryz.sizeOf21
 v21:=Tryz.zeroValue21
 t37:=Tryz.underlying128
 a37:=Tryz.isAgg128
 z37:=Tryz.sizeOf128
 v37:=Tryz.zeroValue128
 t46:=Tryz.underlying190
 a46:=Tryz.isAgg190
 z46:=Tryz.sizeOf190
 v46:=Tryz.zeroValue190
 t51:=Tryz.underlying266
 a51:=Tryz.isAgg266
 z51:=Tryz.sizeOf266
 v51:=Tryz.zeroValue266
 t70:=Tryz.underlying127
 a70:=Tryz.isAgg127
 z70:=Tryz.sizeOf127
 v70:=Tryz.zeroValue127
 t72:=Tryz.underlying130
 a72:=Tryz.isAgg130
 z72:=Tryz.sizeOf130
 v72:=Tryz.zeroValue130
 t75:=Tryz.underlying133
 a75:=Tryz.isAgg133
 z75:=Tryz.sizeOf133
 v75:=Tryz.zeroValue133
 t76:=Tryz.underlying134
 a76:=Tryz.isAgg134
 z76:=Tryz.sizeOf134
 v76:=Tryz.zeroValue134
 t105:=Tryz.underlying182
 a105:=Tryz.isAgg182
 z105:=Tryz.sizeOf182
 v105:=Tryz.zeroValue182
 t107:=Tryz.underlying139
 a107:=Tryz.isAgg139
 z107:=Tryz.sizeOf139
 v107:=Tryz.zeroValue139
 t119:=Tryz.underlying262
 a119:=Tryz.isAgg262
 z119:=Tryz.sizeOf262
 t127:=Tryz.underlying181
 a127:=Tryz.isAgg181
 z127:=Tryz.sizeOf181
 v127:=Tryz.zeroValue181
 t138:=Tryz.underlying264
 a138:=Tryz.isAgg264
 z138:=Tryz.sizeOf264
 v138:=Tryz.zeroValue264
 t139:=Tryz.underlying265
 a139:=Tryz.isAgg265
 z139:=Tryz.sizeOf265
 v139:=Tryz.zeroValue265
 t160:=Tryz.underlying267
 a160:=Tryz.isAgg267
 z160:=Tryz.sizeOf267
 v160:=Tryz.zeroValue267
 t162:=Tryz.underlying225
 a162:=Tryz.isAgg225
 z162:=Tryz.sizeOf225
 v162:=Tryz.zeroValue225
 t164:=Tryz.underlying219
 a164:=Tryz.isAgg219
 z164:=Tryz.sizeOf219
 v164:=Tryz.zeroValue219
 t203:=Tryz.underlying223
 a203:=Tryz.isAgg223
 z203:=Tryz.sizeOf223
 v203:=Tryz.zeroValue223
 t206:=Tryz.underlying290
 a206:=Tryz.isAgg290
 z206:=Tryz.sizeOf290
 v206:=Tryz.zeroValue290
 t208:=Tryz.underlying292
 a208:=Tryz.isAgg292
 z208:=Tryz.sizeOf292
 v208:=Tryz.zeroValue292
 g3:=by kernel_rfl
 g4:=by kernel_rfl
 g13:=by kernel_rfl }
theorem Tryz.extra36:Builder.Extra Tryz.prog Tryz.lay36_ren where
 sizeBuilder:=by kernel_rfl
 liesBuilder:=by kernel_rfl
 t5:=Tryz.underlying5
 a5:=Tryz.isAgg5
 z5:=Tryz.sizeOf5
 v5:=Tryz.zeroValue5
 infoByte:=by kernel_rfl
 cellsByte:=by kernel_rfl
 sizeByte:=by kernel_rfl
 neB5:=by decide
def Z112 (s:Bs):Option Bs:=lowerC s
theorem Z112_walk {a0 r:Bs}(hE:Z112 a0=some r) (H:Heap):AC Tryz.prog 36 [.d (.str a0)] H fun v h'=>v=.a (.d (.str r))/\h'=H:=lower_calls Tryz.lay36 Tryz.extra36 hE rfl
end
def Tryz.lay126_ren:Go.Shelf.Ren:=⟨fun|240=>126|276=>181|n=>n,fun|0=>0|4=>4|9=>9|20=>20|70=>127|72=>130|164=>219|37=>128|n=>n,fun|n=>n⟩
theorem Tryz.lay126:Go.Proofs.Lays.n240 Tryz.prog Tryz.lay126_ren:={
 mixed:=by kernel_rfl
 f240:=Tryz.func126.trans (congrArg some (by kernel_rfl))
 f276:=Tryz.func181.trans (congrArg some (by kernel_rfl))
 t0:=Tryz.underlying0
 a0:=Tryz.isAgg0
 z0:=Tryz.sizeOf0
 v0:=Tryz.zeroValue0
 t4:=Tryz.underlying4
 a4:=Tryz.isAgg4
 z4:=Tryz.sizeOf4
 v4:=Tryz.zeroValue4
 t9:=Tryz.underlying9
 a9:=Tryz.isAgg9
 z9:=Tryz.sizeOf9
 v9:=Tryz.zeroValue9
 t20:=Tryz.underlying20
 a20:=Tryz.isAgg20
 z20:=Tryz.sizeOf20
 v20:=Tryz.zeroValue20
 t70:=Tryz.underlying127
 a70:=Tryz.isAgg127
 z70:=Tryz.sizeOf127
 v70:=Tryz.zeroValue127
 t72:=Tryz.underlying130
 a72:=Tryz.isAgg130
 z72:=Tryz.sizeOf130
 v72:=Tryz.zeroValue130
 t164:=Tryz.underlying219
 a164:=Tryz.isAgg219
 z164:=Tryz.sizeOf219
 v164:=Tryz.zeroValue219 }
def Z108 (a0:Strings_Builder):Option Strings_Builder:=some ⟨true,a0.Fbuf⟩
theorem Z108_walk {a0:Strings_Builder}{c0 c0_1:Nat}{r:Strings_Builder}(hE:Z108 a0=some r) (H:Heap) (hc0:H c0=some (.tcells 130 (Strings_Builder.cg c0 (some c0_1) a0))) (ht0_1:H c0_1=some (.tok 1 a0.Fbuf.l.length (some 5))):AC Tryz.prog 126 [.d (.ptr c0 0)] H fun v h'=>v=.tup []/\h'=((H.set c0_1 (some (.tok 1 r.Fbuf.l.length (some 5)))).set c0 (some (.tcells 130 (Strings_Builder.cg c0 (some c0_1) r)))):=by
 obtain rfl:=oJ hE;refine(bld_check (T:=130) Tryz.lay126 ⟨by kernel_rfl,by kernel_rfl⟩ rfl rfl hc0).mono fun v h' e=>⟨e.1, ?_⟩;rw [e.2];show _=Heap.set (Heap.set H c0_1 _) _ _;rw [Heap.set_self H c0_1 _ ht0_1]
def Z107 (a0:Strings_Builder) (a1:Bs):Option (Int×Unit×Strings_Builder):=(Z108 a0).bind fun x3=>(appC 1 x3.Fbuf (strSl a1)).bind fun x5=>some (((a1.length:Nat):Int),(),(Strings_Builder.mk x3.Faddr x5))
theorem Z107_walk {a0:Strings_Builder}{a1:Bs}{c0 c0_1:Nat}{r:Int×Unit×Strings_Builder}(hE:Z107 a0 a1=some r) (H:Heap) (hc0:H c0=some (.tcells 130 (Strings_Builder.cg c0 (some c0_1) a0))) (ht0_1:H c0_1=some (.tok 1 a0.Fbuf.l.length (some 5))):AC Tryz.prog 73 [.d (.ptr c0 0),.d (.str a1)] H fun v h'=>v=.tup [.d (.int .i64 r.1),.d (.nilIface)]/\h'=((H.set c0_1 (some (.tok 1 r.2.2.Fbuf.l.length (some 5)))).set c0 (some (.tcells 130 (Strings_Builder.cg c0 (some c0_1) r.2.2)))):=by
 unfold Z107 at hE;refine AC.oW 19 [.tmp 4,.tmp 5] Tryz.call73 Tryz.func73 ?_;have ne_c0_c0_1:c0≠c0_1:=fun e_=>by subst e_; simp_all
 refine AWp.heqA (h':=((H.set c0_1 (some (.tok 1 a0.Fbuf.l.length (some 5)))).set c0 (some (.tcells 130 (Strings_Builder.cg c0 (some c0_1) a0))))) (by funext n_; simp only [Heap.set]; (repeat' split)<;>simp_all) ?_;refine seqR (S As (S As (nil ?_)));refine seqR (S Mv ?_);obtain⟨x3,gx3,hE⟩:=bO hE;refine sH (callH rfl rfl (Z108_walk gx3 _ hpG hpG)) rfl ?_;refine hq ((H.set c0_1 (some (.tok 1 x3.Fbuf.l.length (some 5)))).set c0 (some (.tcells 130 (Strings_Builder.cg c0 (some c0_1) x3)))) ?_
 refine nil ?_;refine seqR (S Mv (S Mv (S NP ?_)));refine s0 (fieldP (TK rfl) rfl rfl (TK rfl) rfl rfl) rfl ?_;refine s0 (loadPT (TK rfl) rfl rfl hpG rfl) rfl ?_;refine S Mv ?_;obtain⟨x5,gx5,hE⟩:=bO hE;refine sH (appST (TK rfl) rfl (TK rfl) (TK rfl) rfl rfl rfl rfl rfl rfl rfl hpG rfl rfl gx5) rfl ?_;refine hq ((H.set c0_1 (some (.tok 1 x5.l.length (some 5)))).set c0 (some (.tcells 130 (Strings_Builder.cg c0 (some c0_1) x3)))) ?_
 refine S NP ?_;refine s0 (fieldP (TK rfl) rfl rfl (TK rfl) rfl rfl) rfl ?_;refine sHn (storePT (TK rfl) rfl rfl hpG rfl (by repeat (first|exact SetAt.zero|apply SetAt.succ))) rfl rfl ?_;refine hq ((H.set c0_1 (some (.tok 1 x5.l.length (some 5)))).set c0 (some (.tcells 130 (Strings_Builder.cg c0 (some c0_1) (Strings_Builder.mk x3.Faddr x5))))) ?_;refine nil ?_;refine seqR (S Mv ?_);refine sLenS (TK rfl) rfl rfl rfl rfl fun hL7=>?_
 refine S As (S As (nil ?_));exact rt hE
def Tryz.lay75_ren:Go.Shelf.Ren:=⟨fun|169=>75|n=>n,fun|70=>127|9=>9|0=>0|72=>130|37=>128|127=>181|3=>3|5=>5|n=>n,fun|n=>n⟩
theorem Tryz.lay75:Go.Proofs.Lays.n169 Tryz.prog Tryz.lay75_ren:={
 mixed:=by kernel_rfl
 f169:=Tryz.func75.trans (congrArg some (by kernel_rfl))
 t0:=Tryz.underlying0
 a0:=Tryz.isAgg0
 z0:=Tryz.sizeOf0
 v0:=Tryz.zeroValue0
 t3:=Tryz.underlying3
 a3:=Tryz.isAgg3
 z3:=Tryz.sizeOf3
 v3:=Tryz.zeroValue3
 t9:=Tryz.underlying9
 a9:=Tryz.isAgg9
 z9:=Tryz.sizeOf9
 v9:=Tryz.zeroValue9
 t37:=Tryz.underlying128
 a37:=Tryz.isAgg128
 z37:=Tryz.sizeOf128
 v37:=Tryz.zeroValue128
 t70:=Tryz.underlying127
 a70:=Tryz.isAgg127
 z70:=Tryz.sizeOf127
 v70:=Tryz.zeroValue127
 t72:=Tryz.underlying130
 a72:=Tryz.isAgg130
 z72:=Tryz.sizeOf130
 v72:=Tryz.zeroValue130
 t127:=Tryz.underlying181
 a127:=Tryz.isAgg181
 z127:=Tryz.sizeOf181
 v127:=Tryz.zeroValue181 }
theorem Tryz.extra75:Builder.Extra Tryz.prog Tryz.lay75_ren where
 sizeBuilder:=by kernel_rfl
 liesBuilder:=by kernel_rfl
 t5:=Tryz.underlying5
 a5:=Tryz.isAgg5
 z5:=Tryz.sizeOf5
 v5:=Tryz.zeroValue5
 infoByte:=by kernel_rfl
 cellsByte:=by kernel_rfl
 sizeByte:=by kernel_rfl
 neB5:=by decide
def Z105 (a0:Strings_Builder):Option Bs:=bldStr a0
theorem Z105_walk {a0:Strings_Builder}{c0 t0:Nat}{r:Bs}(hE:Z105 a0=some r) (H:Heap) (hc0:H c0=some (.tcells 130 (Strings_Builder.cg c0 (some t0) a0))) (ht0:H t0=some (.tok 1 a0.Fbuf.l.length (some 5))):AC Tryz.prog 75 [.d (.ptr c0 0)] H fun v h'=>v=.a (.d (.str r))/\h'=(H.set t0 none).set c0 none:=bld_string Tryz.lay75 Tryz.extra75 rfl rfl rfl hE hc0 ht0
def Z106 (a0:Strings_Builder) (a1:Int):Option (Unit×Strings_Builder):=(Z108 a0).bind fun x3=>(appC 1 x3.Fbuf (⟨false,[a1]⟩:Sl Int)).bind fun x5=>some ((),(Strings_Builder.mk x3.Faddr x5))
theorem Z106_walk {a0:Strings_Builder}{a1:Int}{c0 c0_1:Nat}{r:Unit×Strings_Builder}(hE:Z106 a0 a1=some r) (H:Heap) (hc0:H c0=some (.tcells 130 (Strings_Builder.cg c0 (some c0_1) a0))) (ht0_1:H c0_1=some (.tok 1 a0.Fbuf.l.length (some 5))):AC Tryz.prog 74 [.d (.ptr c0 0),.d (.int .u8 a1)] H fun v h'=>v=.a (.d (.nilIface))/\h'=((H.set c0_1 (some (.tok 1 r.2.Fbuf.l.length (some 5)))).set c0 (some (.tcells 130 (Strings_Builder.cg c0 (some c0_1) r.2)))):=by
 unfold Z106 at hE;refine AC.oW 17 [.tmp 4] Tryz.call74 Tryz.func74 ?_;have ne_c0_c0_1:c0≠c0_1:=fun e_=>by subst e_; simp_all
 refine AWp.heqA (h':=((H.set c0_1 (some (.tok 1 a0.Fbuf.l.length (some 5)))).set c0 (some (.tcells 130 (Strings_Builder.cg c0 (some c0_1) a0))))) (by funext n_; simp only [Heap.set]; (repeat' split)<;>simp_all) ?_;refine seqR (S As (nil ?_));refine seqR (S Mv ?_);obtain⟨x3,gx3,hE⟩:=bO hE;refine sH (callH rfl rfl (Z108_walk gx3 _ hpG hpG)) rfl ?_;refine hq ((H.set c0_1 (some (.tok 1 x3.Fbuf.l.length (some 5)))).set c0 (some (.tcells 130 (Strings_Builder.cg c0 (some c0_1) x3)))) ?_
 refine nil ?_;refine seqR (S Mv (S Mv (S NP ?_)));refine s0 (fieldP (TK rfl) rfl rfl (TK rfl) rfl rfl) rfl ?_;refine s0 (loadPT (TK rfl) rfl rfl hpG rfl) rfl ?_;refine S Mv (S BV ?_);obtain⟨x5,gx5,hE⟩:=bO hE;refine sH (appMT (TK rfl) rfl (TK rfl) (TK rfl) ⟨_,rfl⟩ rfl rfl (by decide) rfl rfl rfl rfl hpG rfl rfl gx5) rfl ?_;refine hq ((H.set c0_1 (some (.tok 1 x5.l.length (some 5)))).set c0 (some (.tcells 130 (Strings_Builder.cg c0 (some c0_1) x3)))) ?_
 refine S NP ?_;refine s0 (fieldP (TK rfl) rfl rfl (TK rfl) rfl rfl) rfl ?_;refine sHn (storePT (TK rfl) rfl rfl hpG rfl (by repeat (first|exact SetAt.zero|apply SetAt.succ))) rfl rfl ?_;refine hq ((H.set c0_1 (some (.tok 1 x5.l.length (some 5)))).set c0 (some (.tcells 130 (Strings_Builder.cg c0 (some c0_1) (Strings_Builder.mk x3.Faddr x5))))) ?_;refine nil ?_;refine seqR (S As (nil ?_));exact rt hE
def Z115_j7  (y8_id3_3:Strings_Builder):Option Bs:=(Z106 y8_id3_3 (34:Int)).bind fun x10=>(Z105 x10.2).bind fun x12=>some x12
def Z115_j21 (s9_16:Nat) (k_next_15:Nat->Strings_Builder->Option Bs) (y22_id3_3:Strings_Builder):Option Bs:=k_next_15 (s9_16+1) y22_id3_3
def Z115_j27 (s9_16:Nat) (y17_id3_3:Strings_Builder) (x25:UInt8) (k_next_15:Nat->Strings_Builder->Option Bs) (s33_28:Bool):Option Bs:=bif s33_28 then((Z106 y17_id3_3 (92:Int)).bind fun x31=>(Z106 x31.2 ((x25.toNat:Nat):Int)).bind fun x32=>Z115_j21 s9_16 k_next_15 x32.2) else(bif (decide (((x25.toNat:Nat):Int)=(10:Int))) then((Z107 y17_id3_3 ([92,110]:Bs)).bind fun x35=>Z115_j21 s9_16 k_next_15 x35.2.2) else(bif (decide (((x25.toNat:Nat):Int)=(13:Int))) then((Z107 y17_id3_3 ([92,114]:Bs)).bind fun x38=>Z115_j21 s9_16 k_next_15 x38.2.2) else(bif (decide (((x25.toNat:Nat):Int)=(9:Int))) then((Z107 y17_id3_3 ([92,116]:Bs)).bind fun x41=>Z115_j21 s9_16 k_next_15 x41.2.2) else(bif ((decide ((32:Int)<=((x25.toNat:Nat):Int)))&&(decide (((x25.toNat:Nat):Int)<=(126:Int)))) then((Z106 y17_id3_3 ((x25.toNat:Nat):Int)).bind fun x46=>Z115_j21 s9_16 k_next_15 x46.2) else((Z107 y17_id3_3 ([92,117,48,48]:Bs)).bind fun x48=>(idxC ([48,49,50,51,52,53,54,55,56,57,97,98,99,100,101,102]:Bs) (Int.fdiv ((x25.toNat:Nat):Int) (2 ^ (min (Int.toNat 4) (IntKind.bits .u8))))).bind fun x50=>(Z106 x48.2.2 ((x50.toNat:Nat):Int)).bind fun x51=>(idxC ([48,49,50,51,52,53,54,55,56,57,97,98,99,100,101,102]:Bs) (IntKind.wrap .u8 ((BitVec.ofInt (IntKind.bits .u8) ((x25.toNat:Nat):Int) &&& BitVec.ofInt (IntKind.bits .u8) (15:Int)).toNat:Int))).bind fun x52=>(Z106 x51.2 ((x52.toNat:Nat):Int)).bind fun x53=>Z115_j21 s9_16 k_next_15 x53.2)))))
def Z115_l15 (a0:Bs) :Nat->Nat->Strings_Builder->Option Bs
 | 0,_,_=>none
 | n15+1,s9_16,y17_id3_3=>bif (decide (((s9_16:Nat):Int)<((a0.length:Nat):Int))) then((a0[s9_16]?).bind fun x25=>bif (decide (((x25.toNat:Nat):Int)=(34:Int))) then(Z115_j27 s9_16 y17_id3_3 x25 ((Z115_l15 a0 n15)) (decide (((x25.toNat:Nat):Int)=(34:Int)))) else(Z115_j27 s9_16 y17_id3_3 x25 ((Z115_l15 a0 n15)) (decide (((x25.toNat:Nat):Int)=(92:Int))))) else(Z115_j7   y17_id3_3)
def Z115 (a0:Bs):Option Bs:=(Z106 Strings_Builder.zero (34:Int)).bind fun x6=>Z115_l15 a0 (a0.length+1) 0 x6.2
theorem Z115_walk {a0 r:Bs}(hE:Z115 a0=some r) (H:Heap) :AC Tryz.prog 79 [.d (.str a0)] H fun v h'=>v=.a (.d (.str r))/\h'=H:=by
 unfold Z115 at hE;refine AC.oW 51 [.tmp 2] Tryz.call79 Tryz.func79 ?_;refine seqR (S As (nil ?_));refine seqR ?_;refine AOps.tokE 1 5 fun tk3_4 htk3_4=>?_;refine sE (StepE.allocT (TK rfl) rfl) rfl (fun _ _ _ ⟨id3_3,hid3_3,e1,e2,e3⟩=>?_); subst e1 e2 e3;obtain⟨ne_id3_3_tk3_4,hid3_3⟩:=Heap.set_fresh hid3_3;refine AOps.recellT id3_3 _ hpG (fun j w cs hh hx=>tok_cell 1 1 1 hh (t:=tk3_4) hpG hx rfl) ?_
 refine hq ((H.set tk3_4 (some (.tok 1 0 (some 5)))).set id3_3 (some (.tcells 130 (Strings_Builder.cg id3_3 (some tk3_4) Strings_Builder.zero)))) ?_;refine nil ?_;refine seqR ?_;obtain⟨x6,gx6,hE⟩:=bO hE;refine sH (callH rfl rfl (Z106_walk gx6 _ hpG hpG)) rfl ?_;refine hq ((H.set tk3_4 (some (.tok 1 x6.2.Fbuf.l.length (some 5)))).set id3_3 (some (.tcells 130 (Strings_Builder.cg id3_3 (some tk3_4) x6.2)))) ?_
 refine nil ?_;refine seqJH (TA 3 kN) (fun(z:Strings_Builder)=>[]) (fun z=>((H.set tk3_4 (some (.tok 1 z.Fbuf.l.length (some 5)))).set id3_3 (some (.tcells 130 (Strings_Builder.cg id3_3 (some tk3_4) z))))) (fun z=>Z115_j7 z=some r) ?_ ?_
 ·intro K7 hK7;refine seqR (S Mv ?_);refine sLenS (TK rfl) rfl rfl rfl rfl fun hL14=>?_;refine S Mv (nil ?_);refine block ?_;refine loopH (TA 0 (TA 3 (TA 8 kN))) (fun(z:Nat×Nat×Strings_Builder)=>[(9,.a (.d (.int .i64 ((z.2.1:Nat):Int))))]) (fun z=>((H.set tk3_4 (some (.tok 1 z.2.2.Fbuf.l.length (some 5)))).set id3_3 (some (.tcells 130 (Strings_Builder.cg id3_3 (some tk3_4) z.2.2))))) (fun z=>z.1) (fun z=>Z115_l15 a0 z.1 z.2.1 z.2.2=some r) ((a0.length+1),0,x6.2) hE wA ?_
  rintro ⟨n15,s9_16,y17_id3_3⟩ hE K15 hK15;try dsimp only at hE
  cases n15 with
  | zero=>cases hE
  | succ n15 =>
    rw [Z115_l15] at hE;refine seqR (S BI (nil ?_));refine seqK fun K19 hK19=>?_;refine cE hE (fun hc20 hE=>?_) (fun hc20 hE=>?_)
    ·try dsimp only at hc20
     have hf20:=oD hc20;refine sk hK19 ?_;clear hK19 K19;refine seqJH (TA 0 (TA 3 (TA 8 (TA 9 kN)))) (fun(z:Strings_Builder)=>[]) (fun z=>((H.set tk3_4 (some (.tok 1 z.Fbuf.l.length (some 5)))).set id3_3 (some (.tcells 130 (Strings_Builder.cg id3_3 (some tk3_4) z))))) (fun z=>Z115_j21 s9_16 ((Z115_l15 a0 n15)) z=some r) ?_ ?_
     ·intro K21 hK21;refine block ?_;refine seqR (S Mv (S As (nil ?_)));refine seqR (S Mv (S Mv ?_));obtain⟨x25,gx25,hE⟩:=bO hE;refine s0 (idxSn (n:=s9_16) (TK rfl) rfl rfl rfl gx25) rfl ?_;refine S As (nil ?_);refine seqR (S Mv (nil ?_));refine block ?_;refine seqJH (TA 0 (TA 3 (TA 5 (TA 8 (TA 9 (TA 15 kN)))))) (fun(z:Bool)=>[(33,.a (.d (.bool z)))]) (fun z=>((H.set tk3_4 (some (.tok 1 y17_id3_3.Fbuf.l.length (some 5)))).set id3_3 (some (.tcells 130 (Strings_Builder.cg id3_3 (some tk3_4) y17_id3_3))))) (fun z=>Z115_j27 s9_16 y17_id3_3 x25 ((Z115_l15 a0 n15)) z=some r) ?_ ?_
      ·intro K27 hK27;refine seqR (S BI (S As (nil ?_)));refine cE hE (fun hc55 hE=>?_) (fun hc55 hE=>?_)
       ·refine AWp.skip ?_;exact hK27 _ (decide (((x25.toNat:Nat):Int)=(34:Int))) wA hE
       refine region ?_;refine S BI (S As (nil ?_));exact hK27 _ (decide (((x25.toNat:Nat):Int)=(92:Int))) wA hE
      rintro s33_28 hE;try dsimp only at hE
      unfold Z115_j27 at hE;refine cE hE (fun hc29 hE=>?_) (fun hc29 hE=>?_)
      ·refine seqR ?_;obtain⟨x31,gx31,hE⟩:=bO hE;refine sH (callH rfl rfl (Z106_walk gx31 _ hpG hpG)) rfl ?_;refine hq ((H.set tk3_4 (some (.tok 1 x31.2.Fbuf.l.length (some 5)))).set id3_3 (some (.tcells 130 (Strings_Builder.cg id3_3 (some tk3_4) x31.2)))) ?_;refine nil ?_;refine region ?_;refine S Mv ?_;obtain⟨x32,gx32,hE⟩:=bO hE;refine sH (callH rfl rfl (Z106_walk gx32 _ hpG hpG)) rfl ?_;refine hq ((H.set tk3_4 (some (.tok 1 x32.2.Fbuf.l.length (some 5)))).set id3_3 (some (.tcells 130 (Strings_Builder.cg id3_3 (some tk3_4) x32.2)))) ?_
       refine nil ?_;exact hK21 _ x32.2 wA hE
      refine seqR (S BI (S As (nil ?_)));refine cE hE (fun hc34 hE=>?_) (fun hc34 hE=>?_)
      ·refine region ?_;obtain⟨x35,gx35,hE⟩:=bO hE;refine sH (callH rfl rfl (Z107_walk gx35 _ hpG hpG)) rfl ?_;refine hq ((H.set tk3_4 (some (.tok 1 x35.2.2.Fbuf.l.length (some 5)))).set id3_3 (some (.tcells 130 (Strings_Builder.cg id3_3 (some tk3_4) x35.2.2)))) ?_;refine nil ?_;exact hK21 _ x35.2.2 wA hE
      refine seqR (S BI (S As (nil ?_)));refine cE hE (fun hc37 hE=>?_) (fun hc37 hE=>?_)
      ·refine region ?_;obtain⟨x38,gx38,hE⟩:=bO hE;refine sH (callH rfl rfl (Z107_walk gx38 _ hpG hpG)) rfl ?_;refine hq ((H.set tk3_4 (some (.tok 1 x38.2.2.Fbuf.l.length (some 5)))).set id3_3 (some (.tcells 130 (Strings_Builder.cg id3_3 (some tk3_4) x38.2.2)))) ?_;refine nil ?_;exact hK21 _ x38.2.2 wA hE
      refine seqR (S BI (S As (nil ?_)));refine cE hE (fun hc40 hE=>?_) (fun hc40 hE=>?_)
      ·refine region ?_;obtain⟨x41,gx41,hE⟩:=bO hE;refine sH (callH rfl rfl (Z107_walk gx41 _ hpG hpG)) rfl ?_;refine hq ((H.set tk3_4 (some (.tok 1 x41.2.2.Fbuf.l.length (some 5)))).set id3_3 (some (.tcells 130 (Strings_Builder.cg id3_3 (some tk3_4) x41.2.2)))) ?_;refine nil ?_;exact hK21 _ x41.2.2 wA hE
      refine seqK fun K42 hK42=>?_;refine seqR (S Mv (S BI (S Mv (G0 Mv ?_))));refine G1 19 rfl BI ?_;refine S PA (nil ?_);refine cE hE (fun hc44 hE=>?_) (fun hc44 hE=>?_)
      ·refine seqR (S Mv ?_);obtain⟨x46,gx46,hE⟩:=bO hE;refine sH (callH rfl rfl (Z106_walk gx46 _ hpG hpG)) rfl ?_;refine hq ((H.set tk3_4 (some (.tok 1 x46.2.Fbuf.l.length (some 5)))).set id3_3 (some (.tcells 130 (Strings_Builder.cg id3_3 (some tk3_4) x46.2)))) ?_;refine nil ?_;refine AWp.exit ?_;exact hK21 _ x46.2 wA hE
      refine sk hK42 ?_;clear hK42 K42;refine seqR ?_;obtain⟨x48,gx48,hE⟩:=bO hE;refine sH (callH rfl rfl (Z107_walk gx48 _ hpG hpG)) rfl ?_;refine hq ((H.set tk3_4 (some (.tok 1 x48.2.2.Fbuf.l.length (some 5)))).set id3_3 (some (.tcells 130 (Strings_Builder.cg id3_3 (some tk3_4) x48.2.2)))) ?_;refine nil ?_;refine seqR (S Mv ?_);refine s0 (shrI rfl rfl (by decide)) rfl ?_;obtain⟨x50,gx50,hE⟩:=bO hE
      refine s0 (idxS (TK rfl) rfl rfl rfl gx50) rfl ?_;obtain⟨x51,gx51,hE⟩:=bO hE;refine sH (callH rfl rfl (Z106_walk gx51 _ hpG hpG)) rfl ?_;refine hq ((H.set tk3_4 (some (.tok 1 x51.2.Fbuf.l.length (some 5)))).set id3_3 (some (.tcells 130 (Strings_Builder.cg id3_3 (some tk3_4) x51.2)))) ?_;refine nil ?_;refine region ?_;refine S Mv ?_;refine s0 (andI rfl rfl) rfl ?_;obtain⟨x52,gx52,hE⟩:=bO hE;refine s0 (idxS (TK rfl) rfl rfl rfl gx52) rfl ?_
      obtain⟨x53,gx53,hE⟩:=bO hE;refine sH (callH rfl rfl (Z106_walk gx53 _ hpG hpG)) rfl ?_;refine hq ((H.set tk3_4 (some (.tok 1 x53.2.Fbuf.l.length (some 5)))).set id3_3 (some (.tcells 130 (Strings_Builder.cg id3_3 (some tk3_4) x53.2)))) ?_;refine nil ?_;exact hK21 _ x53.2 wA hE
     rintro y22_id3_3 hE;try dsimp only at hE
     unfold Z115_j21 at hE;refine region ?_;refine SI ?_;refine S Mv (nil ?_);exact hK15 _ (n15,(s9_16+1),y22_id3_3) wA hE (nS _)
    refine AWp.exit ?_;exact hK7 _ y17_id3_3 wA hE
 rintro y8_id3_3 hE;try dsimp only at hE
 unfold Z115_j7 at hE;refine seqR ?_;obtain⟨x10,gx10,hE⟩:=bO hE;refine sH (callH rfl rfl (Z106_walk gx10 _ hpG hpG)) rfl ?_;refine hq ((H.set tk3_4 (some (.tok 1 x10.2.Fbuf.l.length (some 5)))).set id3_3 (some (.tcells 130 (Strings_Builder.cg id3_3 (some tk3_4) x10.2)))) ?_;refine nil ?_;refine seqR ?_;obtain⟨x12,gx12,hE⟩:=bO hE;refine sH (callH rfl rfl (Z105_walk gx12 _ hpG hpG)) rfl ?_;refine hq H ?_
 refine S As (nil ?_);exact rt hE
section
variable [IsLoud lou]
def Tryz.lay134_ren:Go.Shelf.Ren:=⟨fun|156=>134|165=>72|166=>73|169=>75|240=>126|241=>127|276=>181|277=>182|n=>n,fun|31=>56|9=>9|3=>3|4=>4|0=>0|20=>20|72=>130|76=>134|70=>127|37=>128|75=>133|127=>181|164=>219|5=>5|80=>137|n=>n,fun|n=>n⟩
theorem Tryz.lay134:Go.Proofs.Lays.n156 Tryz.prog Tryz.lay134_ren:={
 mixed:=by kernel_rfl
 f156:=Tryz.func134.trans (congrArg some (by kernel_rfl))
 f165:=Tryz.func72.trans (congrArg some (by kernel_rfl))
 f166:=Tryz.func73.trans (congrArg some (by kernel_rfl))
 f169:=Tryz.func75.trans (congrArg some (by kernel_rfl))
 f240:=Tryz.func126.trans (congrArg some (by kernel_rfl))
 f241:=Tryz.func127.trans (congrArg some (by kernel_rfl))
 f276:=Tryz.func181.trans (congrArg some (by kernel_rfl))
 f277:=Tryz.func182.trans (congrArg some (by kernel_rfl))
 t0:=Tryz.underlying0
 a0:=Tryz.isAgg0
 z0:=Tryz.sizeOf0
 v0:=Tryz.zeroValue0
 t3:=Tryz.underlying3
 a3:=Tryz.isAgg3
 z3:=Tryz.sizeOf3
 v3:=Tryz.zeroValue3
 t4:=Tryz.underlying4
 a4:=Tryz.isAgg4
 z4:=Tryz.sizeOf4
 v4:=Tryz.zeroValue4
 t9:=Tryz.underlying9
 a9:=Tryz.isAgg9
 z9:=Tryz.sizeOf9
 v9:=Tryz.zeroValue9
 t20:=Tryz.underlying20
 a20:=Tryz.isAgg20
 z20:=Tryz.sizeOf20
 v20:=Tryz.zeroValue20
 t31:=Tryz.underlying56
 a31:=Tryz.isAgg56
 z31:=Tryz.sizeOf56
 v31:=Tryz.zeroValue56
 t37:=Tryz.underlying128
 a37:=Tryz.isAgg128
 z37:=Tryz.sizeOf128
 v37:=Tryz.zeroValue128
 t70:=Tryz.underlying127
 a70:=Tryz.isAgg127
 z70:=Tryz.sizeOf127
 v70:=Tryz.zeroValue127
 t72:=Tryz.underlying130
 a72:=Tryz.isAgg130
 z72:=Tryz.sizeOf130
 v72:=Tryz.zeroValue130
 t75:=Tryz.underlying133
 a75:=Tryz.isAgg133
 z75:=Tryz.sizeOf133
 v75:=Tryz.zeroValue133
 t76:=Tryz.underlying134
 a76:=Tryz.isAgg134
 z76:=Tryz.sizeOf134
 v76:=Tryz.zeroValue134
 t127:=Tryz.underlying181
 a127:=Tryz.isAgg181
 z127:=Tryz.sizeOf181
 v127:=Tryz.zeroValue181
 t164:=Tryz.underlying219
 a164:=Tryz.isAgg219
 z164:=Tryz.sizeOf219
 v164:=Tryz.zeroValue219 }
theorem Tryz.extra134:Builder.Extra Tryz.prog Tryz.lay134_ren where
 sizeBuilder:=by kernel_rfl
 liesBuilder:=by kernel_rfl
 t5:=Tryz.underlying5
 a5:=Tryz.isAgg5
 z5:=Tryz.sizeOf5
 v5:=Tryz.zeroValue5
 infoByte:=by kernel_rfl
 cellsByte:=by kernel_rfl
 sizeByte:=by kernel_rfl
 neB5:=by decide
def Z111 (s:Sl Bs) (sep:Bs):Option Bs:=joinA s sep
theorem Z111_walk {a0:Sl Bs}{a1:Bs}{w0:Option Nat}{r:Bs}(hE:Z111 a0 a1=some r) (H:Heap):AC Tryz.prog 134 [.d (Sl.d 1 strE w0 a0),.d (.str a1)] H fun v h'=>v=.a (.d (.str r))/\h'=H:=joinA_calls Tryz.lay134 Tryz.extra134 hE rfl
end
end Go.Proofs
