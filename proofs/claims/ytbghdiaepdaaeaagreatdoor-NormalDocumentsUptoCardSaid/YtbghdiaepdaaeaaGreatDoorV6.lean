import Derived.Test.YtbghdiaepdaaeaaGreatDoorV5
set_option maxRecDepth 100000
set_option maxHeartbeats 2000000
set_option linter.unusedVariables false
set_option linter.unusedSimpArgs false
namespace Go.Proofs
open Go Go.Ab
open AOps Cert AWp Keeps KeepsT
variable {lou:Lou}
def r19_selections_j4  (s5_5:(Sl TSel)):Option (Sl TSel):=some s5_5
def r19_selections_j32 (s5_8:(Sl TSel)) (k_next_7:(Sl TSel)->Int->Option (Sl TSel)) (s6_33:Int) (y34_l0:TSel):Option (Sl TSel):=(appC 128 s5_8 (⟨false,[y34_l0]⟩:Sl TSel)).bind fun x35=>k_next_7 x35 s6_33
def r19_selections_l36 (a1:(Sl Z8)) (s5_8:(Sl TSel)) (s6_9:Int) (k_next_7:(Sl TSel)->Int->Option (Sl TSel)) (k_rec_89:Z8->Option TSel):Nat->Int->TSel->Option (Sl TSel)
 | 0,_,_=>none
 | n36+1,s6_37,y38_l0=>guardO ((decide (s6_37<((a1.l.length:Nat):Int)))) (idxC a1.l s6_37) Z8.zero fun x41=>guardO ((decide (s6_37<((a1.l.length:Nat):Int)))) (idxC a1.l s6_9) Z8.zero fun x42=>guardO (((decide (s6_37<((a1.l.length:Nat):Int)))&&((x41.FOn==x42.FOn)))) (idxC a1.l s6_37) Z8.zero fun x43=>guardO (((decide (s6_37<((a1.l.length:Nat):Int)))&&((x41.FOn==x42.FOn)))) (idxC a1.l s6_9) Z8.zero fun x44=>bif (((decide (s6_37<((a1.l.length:Nat):Int)))&&((x41.FOn==x42.FOn)))&&((x43.FLabel==x44.FLabel))) then((idxC a1.l s6_37).bind fun x47=>(k_rec_89 x47).bind fun x48=>(appC 128 y38_l0.FSels (⟨false,[x48]⟩:Sl TSel)).bind fun x50=>(addC s6_37 (1:Int)).bind fun x51=>(r19_selections_l36 a1 s5_8 s6_9 k_next_7 k_rec_89 n36) x51 (TSel.mk y38_l0.FKind y38_l0.FAlias y38_l0.FName y38_l0.FOn y38_l0.FArgs y38_l0.FDirs x50.nl x50.l)) else(r19_selections_j32 s5_8 k_next_7 s6_37 y38_l0)
def r19_selections_j29 (a1:(Sl Z8)) (s5_8:(Sl TSel)) (s6_9:Int) (k_next_7:(Sl TSel)->Int->Option (Sl TSel)) (k_rec_89:Z8->Option TSel) (y30_l0:TSel):Option (Sl TSel):=r19_selections_l36 a1 s5_8 s6_9 k_next_7 k_rec_89 F0 s6_9 y30_l0
def r19_selections_l7 (a0:Bs) (a1:(Sl Z8)) (k_rec_89:Z8->Option TSel):Nat->(Sl TSel)->Int->Option (Sl TSel)
 | 0,_,_=>none
 | n7+1,s5_8,s6_9=>bif (decide (s6_9<((a1.l.length:Nat):Int))) then((idxC a1.l s6_9).bind fun x16=>guardO (((x16.FOn==a0))) (idxC a1.l s6_9) Z8.zero fun x17=>bif (((x16.FOn==a0))&&((x17.FLabel==([]:Bs)))) then((idxC a1.l s6_9).bind fun x20=>(k_rec_89 x20).bind fun x21=>(appC 128 s5_8 (⟨false,[x21]⟩:Sl TSel)).bind fun x23=>(addC s6_9 (1:Int)).bind fun x25=>(r19_selections_l7 a0 a1 k_rec_89 n7) x23 x25) else((idxC a1.l s6_9).bind fun x27=>(idxC a1.l s6_9).bind fun x53=>bif (!(x53.FLabel==([]:Bs))) then((idxC a1.l s6_9).bind fun x55=>(Z77 x55.FLabel).bind fun x56=>r19_selections_j29 a1 s5_8 s6_9 ((r19_selections_l7 a0 a1 k_rec_89 n7)) k_rec_89 (TSel.mk ((TSel.mk (3:Int) ([]:Bs) ([]:Bs) x27.FOn (Sl.nil:Sl TArg) (Sl.nil:Sl TDir) true ([])).FKind) ((TSel.mk (3:Int) ([]:Bs) ([]:Bs) x27.FOn (Sl.nil:Sl TArg) (Sl.nil:Sl TDir) true ([])).FAlias) ((TSel.mk (3:Int) ([]:Bs) ([]:Bs) x27.FOn (Sl.nil:Sl TArg) (Sl.nil:Sl TDir) true ([])).FName) ((TSel.mk (3:Int) ([]:Bs) ([]:Bs) x27.FOn (Sl.nil:Sl TArg) (Sl.nil:Sl TDir) true ([])).FOn) ((TSel.mk (3:Int) ([]:Bs) ([]:Bs) x27.FOn (Sl.nil:Sl TArg) (Sl.nil:Sl TDir) true ([])).FArgs) (⟨false,[(TDir.mk ([100,101,102,101,114]:Bs) (⟨false,[(TArg.mk ([108,97,98,101,108]:Bs) x56)]⟩:Sl TArg))]⟩:Sl TDir) ((TSel.mk (3:Int) ([]:Bs) ([]:Bs) x27.FOn (Sl.nil:Sl TArg) (Sl.nil:Sl TDir) true ([])).FSels).nl ((TSel.mk (3:Int) ([]:Bs) ([]:Bs) x27.FOn (Sl.nil:Sl TArg) (Sl.nil:Sl TDir) true ([])).FSels).l)) else(r19_selections_j29 a1 s5_8 s6_9 ((r19_selections_l7 a0 a1 k_rec_89 n7)) k_rec_89 (TSel.mk (3:Int) ([]:Bs) ([]:Bs) x27.FOn (Sl.nil:Sl TArg) (Sl.nil:Sl TDir) true ([]))))) else(r19_selections_j4   s5_8)
def Z76_j7  (y8_l1:TSel):Option TSel:=some y8_l1
def Z76_j5 (a0:Z8) (k_rec_50:Bs->(Sl Z8)->Option (Sl TSel)) (y6_l1:TSel):Option TSel:=bif (decide ((0:Int)<((a0.FPicks.l.length:Nat):Int))) then((k_rec_50 a0.FType.FName a0.FPicks).bind fun x13=>Z76_j7   (TSel.mk y6_l1.FKind y6_l1.FAlias y6_l1.FName y6_l1.FOn y6_l1.FArgs y6_l1.FDirs x13.nl x13.l)) else(Z76_j7   y6_l1)
def Z76_j3 (a0:Z8) (k_rec_50:Bs->(Sl Z8)->Option (Sl TSel)) (y4_l1:TSel):Option TSel:=bif (!decide (a0.FInitial=(-1:Int))) then((Z77 ([115]:Bs)).bind fun x16=>Z76_j5 a0 k_rec_50 (TSel.mk y4_l1.FKind y4_l1.FAlias y4_l1.FName y4_l1.FOn y4_l1.FArgs (⟨false,[(TDir.mk ([115,116,114,101,97,109]:Bs) (⟨false,[(TArg.mk ([108,97,98,101,108]:Bs) x16),(TArg.mk ([105,110,105,116,105,97,108,67,111,117,110,116]:Bs) (Z11.mk (2:Int) a0.FInitial ([]:Bs) true ([]) (Sl.nil:Sl Bs)))]⟩:Sl TArg))]⟩:Sl TDir) y4_l1.FSels.nl y4_l1.FSels.l)) else(Z76_j5 a0 k_rec_50 y4_l1)
mutual
def r19_selections_n:Nat->Bs->(Sl Z8)->Option (Sl TSel)
 | 0,_,_=>none
 | n+1,a0,a1=>r19_selections_l7 a0 a1 (Z76_n n) F0 (Sl.nil:Sl TSel) (0:Int)
def Z76_n:Nat->Z8->Option TSel
 | 0,_=>none
 | n+1,a0=>bif (!(a0.FKey==a0.FName)) then(Z76_j3 a0 (r19_selections_n n) (TSel.mk ((TSel.mk (1:Int) ([]:Bs) a0.FName ([]:Bs) a0.FArgs (Sl.nil:Sl TDir) true ([])).FKind) a0.FKey ((TSel.mk (1:Int) ([]:Bs) a0.FName ([]:Bs) a0.FArgs (Sl.nil:Sl TDir) true ([])).FName) ((TSel.mk (1:Int) ([]:Bs) a0.FName ([]:Bs) a0.FArgs (Sl.nil:Sl TDir) true ([])).FOn) ((TSel.mk (1:Int) ([]:Bs) a0.FName ([]:Bs) a0.FArgs (Sl.nil:Sl TDir) true ([])).FArgs) ((TSel.mk (1:Int) ([]:Bs) a0.FName ([]:Bs) a0.FArgs (Sl.nil:Sl TDir) true ([])).FDirs) ((TSel.mk (1:Int) ([]:Bs) a0.FName ([]:Bs) a0.FArgs (Sl.nil:Sl TDir) true ([])).FSels).nl ((TSel.mk (1:Int) ([]:Bs) a0.FName ([]:Bs) a0.FArgs (Sl.nil:Sl TDir) true ([])).FSels).l)) else(Z76_j3 a0 (r19_selections_n n) (TSel.mk (1:Int) ([]:Bs) a0.FName ([]:Bs) a0.FArgs (Sl.nil:Sl TDir) true ([])))
end
theorem r19_selections_step (n:Nat) (ih_50:∀{a0:Bs}{a1:Sl Z8}{w1:Option Nat}{r:Sl TSel},r19_selections_n n a0 a1=some r->∀(H:Heap),AC Tryz.prog 50 [.d (.str a0),.d (Sl.d 9 Z8.c w1 a1)] H fun v h'=>v=.a (.d (Sl.d 7 TSel.c none r))/\h'=H) (ih_89:∀{a0:Z8}{r:TSel},Z76_n n a0=some r->∀(H:Heap),AC Tryz.prog 89 [.agg (Z8.c a0)] H fun v h'=>v=.a (.agg (TSel.c r))/\h'=H):∀{a0:Bs}{a1:Sl Z8}{w1:Option Nat}{r:Sl TSel},r19_selections_n (n+1) a0 a1=some r->∀(H:Heap),AC Tryz.prog 50 [.d (.str a0),.d (Sl.d 9 Z8.c w1 a1)] H fun v h'=>v=.a (.d (Sl.d 7 TSel.c none r))/\h'=H:=by
 intro a0 a1 w1  r hE H ;rw [r19_selections_n] at hE;refine AC.oW 113 [.tmp 4] Tryz.call50 Tryz.func50 ?_;refine AWp.tok 7 fun tk1 htk1=>?_;refine seqR ?_;refine s0 (assignNil (k':=7) rfl) rfl ?_;refine nil ?_;refine seqR (S As (nil ?_));refine AWp.nilTok 5 7 tk1 rfl hpG ?_;refine seqR (S As (nil ?_));refine seqJH kN (fun(z:(Sl TSel))=>[(5,.a (.d (Sl.d 7 TSel.c (some tk1) z)))]) (fun z=>(H.set tk1 (some (.tok 7 z.l.length)))) (fun z=>r19_selections_j4 z=some r) ?_ ?_
 ·intro K4 hK4;refine block ?_;refine loopH (TA 0 (TA 1 kN)) (fun(z:Nat×(Sl TSel)×Int)=>[(5,.a (.d (Sl.d 7 TSel.c (some tk1) z.2.1))),(6,.a (.d (.int .i64 z.2.2)))]) (fun z=>(H.set tk1 (some (.tok 7 z.2.1.l.length)))) (fun z=>z.1) (fun z=>r19_selections_l7 a0 a1 (Z76_n n) z.1 z.2.1 z.2.2=some r) (F0,(Sl.nil:Sl TSel),(0:Int)) hE wA ?_;rintro ⟨n7,s5_8,s6_9⟩ hE K7 hK7;try dsimp only at hE
  cases n7 with
  | zero=>cases hE
  | succ n7 =>
    rw [r19_selections_l7] at hE;refine seqK fun K10 hK10=>?_;refine seqR (S Mv (S Mv ?_));refine sLen (f:=Z8.c) (s:=a1) (TK rfl) rfl rfl rfl rfl fun hL12=>?_;refine S BI (nil ?_);refine cE hE (fun hc13 hE=>?_) (fun hc13 hE=>?_)
    ·refine sk hK10 ?_;clear hK10 K10;refine block ?_;refine seqK fun K14 hK14=>?_;refine seqR (S Mv (S Mv ?_));obtain⟨x16,gx16,hE⟩:=bO hE;refine s0 (idxM (f:=Z8.c) (TK rfl) rfl (TK rfl) rfl rfl rfl gx16) rfl ?_;refine S Fv (S Ld (S Mv (S BS (S Mv (G0 Mv (G0 Mv ?_))))));obtain⟨x17,gx17,hE⟩:=gO hE;refine gC rfl rfl (fun hC=>ungdA (k:=23) rfl (ungdA (k:=24) rfl (idxM (f:=Z8.c) (TK rfl) rfl (TK rfl) rfl rfl rfl (gx17 hC)))) rfl ?_
     refine G1 25 rfl Fv ?_;refine G1 26 rfl Ld ?_;refine G1 27 rfl BS ?_;refine S PA (nil ?_);refine cE hE (fun hc18 hE=>?_) (fun hc18 hE=>?_)
     ·refine seqR (S Mv (S Mv ?_));obtain⟨x20,gx20,hE⟩:=bO hE;refine s0 (idxM (f:=Z8.c) (TK rfl) rfl (TK rfl) rfl rfl rfl gx20) rfl ?_;refine S Ld ?_;obtain⟨x21,gx21,hE⟩:=bO hE;refine Sc rfl rfl (ih_89 gx21) ?_;refine Sl ?_;refine Sf ?_;refine nil ?_;refine freezeA 7 _ rfl (KA 0 (KA 1 (KA 5 (KA 6 Keeps.nil)))) ?_;refine seqR (S Mv (S Ld (S BV ?_)));obtain⟨x23,gx23,hE⟩:=bO hE;refine SH (am TSel.c (TK rfl) rfl (TK rfl) (TK rfl) gx23) ?_
      refine hq (H.set tk1 (some (.tok 7 x23.l.length))) ?_;refine S As (nil ?_);refine seqR (S Mv ?_);obtain⟨x25,gx25,hE⟩:=bO hE;refine s0 (addM rfl rfl gx25) rfl ?_;refine S As (nil ?_);refine AWp.exit ?_;exact hK7 _ (n7,x23,x25) wA hE (nS _)
     refine sk hK14 ?_;clear hK14 K14;refine seqR (S Mv (S Mv ?_));obtain⟨x27,gx27,hE⟩:=bO hE;refine s0 (idxM (f:=Z8.c) (TK rfl) rfl (TK rfl) rfl rfl rfl gx27) rfl ?_;refine S Fv (S Ld (S BU ?_));refine Sl ?_;refine AOps.tok 7 fun tk8_28 htk8_28=>?_;obtain⟨ne_tk8_28_tk1,htk8_28⟩:=Heap.set_fresh htk8_28;refine AOps.relocal 0 _ rfl (fun j w cs hh hx=>tok_cell 6 7 7 hh (t:=tk8_28) hpG hx rfl) ?_;refine Sf ?_
     refine AOps.relocal 0 _ rfl (fun j w cs hh hx=>tok_cell 6 7 7 hh (t:=tk8_28) hpG hx rfl) ?_;refine nil ?_;refine seqJ (TA 0 (TA 1 (TA 5 (TA 6 (TA 8 kN))))) (fun(z:TSel)=>[]) (fun z=>[((intE .i64) z.FKind++strE z.FAlias++strE z.FName++strE z.FOn++(fun s=>[Sl.d 6 TArg.c none s]) z.FArgs++(fun s=>[Sl.d 2 TDir.c none s]) z.FDirs++[Sl.d 7 TSel.c (some tk8_28) z.FSels])]) (fun z=>((H.set tk1 (some (.tok 7 s5_8.l.length))).set tk8_28 (some (.tok 7 z.FSels.l.length)))) (fun z=>r19_selections_j29 a1 s5_8 s6_9 ((r19_selections_l7 a0 a1 (Z76_n n) n7)) (Z76_n n) z=some r) ?_ ?_
     ·intro K29 hK29;refine seqR (S Mv (S Mv ?_));obtain⟨x53,gx53,hE⟩:=bO hE;refine s0 (idxM (f:=Z8.c) (TK rfl) rfl (TK rfl) rfl rfl rfl gx53) rfl ?_;refine S Fv (S Ld (S BS (nil ?_)));refine cE hE (fun hc54 hE=>?_) (fun hc54 hE=>?_)
      ·refine region ?_;refine S Mv (S Mv ?_);obtain⟨x55,gx55,hE⟩:=bO hE;refine s0 (idxM (f:=Z8.c) (TK rfl) rfl (TK rfl) rfl rfl rfl gx55) rfl ?_;refine S Fv (S Ld ?_);obtain⟨x56,gx56,hE⟩:=bO hE;refine Sc rfl rfl (Z77_walk gx56) ?_;refine S BU (S BV (S BU (S BV (S FL ?_))));refine Sf ?_;refine nil ?_;exact hK29 _ (TSel.mk ((TSel.mk (3:Int) ([]:Bs) ([]:Bs) x27.FOn (Sl.nil:Sl TArg) (Sl.nil:Sl TDir) true ([])).FKind) ((TSel.mk (3:Int) ([]:Bs) ([]:Bs) x27.FOn (Sl.nil:Sl TArg) (Sl.nil:Sl TDir) true ([])).FAlias) ((TSel.mk (3:Int) ([]:Bs) ([]:Bs) x27.FOn (Sl.nil:Sl TArg) (Sl.nil:Sl TDir) true ([])).FName) ((TSel.mk (3:Int) ([]:Bs) ([]:Bs) x27.FOn (Sl.nil:Sl TArg) (Sl.nil:Sl TDir) true ([])).FOn) ((TSel.mk (3:Int) ([]:Bs) ([]:Bs) x27.FOn (Sl.nil:Sl TArg) (Sl.nil:Sl TDir) true ([])).FArgs) (⟨false,[(TDir.mk ([100,101,102,101,114]:Bs) (⟨false,[(TArg.mk ([108,97,98,101,108]:Bs) x56)]⟩:Sl TArg))]⟩:Sl TDir) ((TSel.mk (3:Int) ([]:Bs) ([]:Bs) x27.FOn (Sl.nil:Sl TArg) (Sl.nil:Sl TDir) true ([])).FSels).nl ((TSel.mk (3:Int) ([]:Bs) ([]:Bs) x27.FOn (Sl.nil:Sl TArg) (Sl.nil:Sl TDir) true ([])).FSels).l) wA hE
      refine AWp.skip ?_;exact hK29 _ (TSel.mk (3:Int) ([]:Bs) ([]:Bs) x27.FOn (Sl.nil:Sl TArg) (Sl.nil:Sl TDir) true ([])) wA hE
     rintro y30_l0 hE;try dsimp only at hE
     unfold r19_selections_j29 at hE;refine seqR (S Mv (S As (nil ?_)));refine seqJ (TA 0 (TA 1 (TA 5 (TA 8 kN)))) (fun(z:Int×TSel)=>[(6,.a (.d (.int .i64 z.1)))]) (fun z=>[((intE .i64) z.2.FKind++strE z.2.FAlias++strE z.2.FName++strE z.2.FOn++(fun s=>[Sl.d 6 TArg.c none s]) z.2.FArgs++(fun s=>[Sl.d 2 TDir.c none s]) z.2.FDirs++[Sl.d 7 TSel.c (some tk8_28) z.2.FSels])]) (fun z=>((H.set tk1 (some (.tok 7 s5_8.l.length))).set tk8_28 (some (.tok 7 z.2.FSels.l.length)))) (fun z=>r19_selections_j32 s5_8 ((r19_selections_l7 a0 a1 (Z76_n n) n7)) z.1 z.2=some r) ?_ ?_
     ·intro K32 hK32;refine block ?_;refine loopO (TA 0 (TA 1 (TA 5 (TA 8 (TA 9 kN))))) (fun(z:Nat×Int×TSel)=>[(6,.a (.d (.int .i64 z.2.1)))]) (fun z=>[((intE .i64) z.2.2.FKind++strE z.2.2.FAlias++strE z.2.2.FName++strE z.2.2.FOn++(fun s=>[Sl.d 6 TArg.c none s]) z.2.2.FArgs++(fun s=>[Sl.d 2 TDir.c none s]) z.2.2.FDirs++[Sl.d 7 TSel.c (some tk8_28) z.2.2.FSels])]) (fun z=>((H.set tk1 (some (.tok 7 s5_8.l.length))).set tk8_28 (some (.tok 7 z.2.2.FSels.l.length)))) (fun z=>z.1) (fun z=>r19_selections_l36 a1 s5_8 s6_9 ((r19_selections_l7 a0 a1 (Z76_n n) n7)) (Z76_n n) z.1 z.2.1 z.2.2=some r) (F0,s6_9,y30_l0) hE wA ?_
      rintro ⟨n36,s6_37,y38_l0⟩ hE K36 hK36;try dsimp only at hE
      cases n36 with
      | zero=>cases hE
      | succ n36 =>
        rw [r19_selections_l36] at hE;refine seqK fun K39 hK39=>?_;refine AWp.seqD (Sd Mv (Sd Mv ?_));refine DOps.s0 (lenM' (f:=Z8.c) (s:=a1) (TK rfl) rfl rfl rfl) rfl ?_;refine Sd BI (Sd Mv (G0d Mv (G0d Mv ?_)));obtain⟨x41,gx41,hE⟩:=gO hE;refine DOps.gC rfl rfl (fun hC=>ungdA (k:=70) rfl (ungdA (k:=71) rfl (idxM (f:=Z8.c) (TK rfl) rfl (TK rfl) rfl rfl rfl (gx41 hC)))) rfl ?_;refine G1d 72 rfl Fv ?_
        refine G1d 73 rfl Ld ?_;refine G0d Mv (G0d Mv ?_);obtain⟨x42,gx42,hE⟩:=gO hE;refine DOps.gC rfl rfl (fun hC=>ungdA (k:=75) rfl (ungdA (k:=76) rfl (idxM (f:=Z8.c) (TK rfl) rfl (TK rfl) rfl rfl rfl (gx42 hC)))) rfl ?_;refine G1d 77 rfl Fv ?_;refine G1d 78 rfl Ld ?_;refine G2d 74 79 rfl rfl BS ?_;refine Sd PA (Sd Mv (G0d Mv (G0d Mv ?_)));obtain⟨x43,gx43,hE⟩:=gO hE;refine DOps.gC rfl rfl (fun hC=>ungdA (k:=83) rfl (ungdA (k:=84) rfl (idxM (f:=Z8.c) (TK rfl) rfl (TK rfl) rfl rfl rfl (gx43 hC)))) rfl ?_
        refine G1d 85 rfl Fv ?_;refine G1d 86 rfl Ld ?_;refine G0d Mv (G0d Mv ?_);obtain⟨x44,gx44,hE⟩:=gO hE;refine DOps.gC rfl rfl (fun hC=>ungdA (k:=88) rfl (ungdA (k:=89) rfl (idxM (f:=Z8.c) (TK rfl) rfl (TK rfl) rfl rfl rfl (gx44 hC)))) rfl ?_;refine G1d 90 rfl Fv ?_;refine G1d 91 rfl Ld ?_;refine G2d 87 92 rfl rfl BS ?_;refine Sd PA ?_;refine DOps.nil (by decide +kernel) ?_;refine cE hE (fun hc45 hE=>?_) (fun hc45 hE=>?_)
        ·refine sk hK39 ?_;clear hK39 K39;refine block ?_;refine seqR (S Mv (S Mv ?_));obtain⟨x47,gx47,hE⟩:=bO hE;refine s0 (idxM (f:=Z8.c) (TK rfl) rfl (TK rfl) rfl rfl rfl gx47) rfl ?_;refine S Ld ?_;obtain⟨x48,gx48,hE⟩:=bO hE;refine Sc rfl rfl (ih_89 gx48) ?_;refine Sl ?_;refine Sf ?_;refine nil ?_;refine freezeA 10 _ rfl (KA 0 (KA 1 (KA 5 (KA 6 (KA 8 (KA 9 Keeps.nil)))))) ?_;refine seqR (S FL (S LL (S Ld (S BV ?_))))
         obtain⟨x50,gx50,hE⟩:=bO hE;refine SH (am TSel.c (TK rfl) rfl (TK rfl) (TK rfl) gx50) ?_;refine hq ((H.set tk1 (some (.tok 7 s5_8.l.length))).set tk8_28 (some (.tok 7 x50.l.length))) ?_;refine S FL ?_;refine Sf ?_;refine nil ?_;refine region ?_;refine S Mv ?_;obtain⟨x51,gx51,hE⟩:=bO hE;refine s0 (addM rfl rfl gx51) rfl ?_;refine S As (nil ?_);exact hK36 _ (n36,x51,(TSel.mk y38_l0.FKind y38_l0.FAlias y38_l0.FName y38_l0.FOn y38_l0.FArgs y38_l0.FDirs x50.nl x50.l)) wA hE (nS _)
        refine AWp.exit ?_;exact hK32 _ (s6_37,y38_l0) wA hE
     rintro ⟨s6_33,y34_l0⟩ hE;try dsimp only at hE
     unfold r19_selections_j32 at hE;refine AWp.relocal 0 _ rfl (fun j w cs hh hx=>untok_cell 6 hx rfl) ?_;refine AWp.relocal 0 (TSel.c y34_l0) rfl (fun j w cs hh hx=>by rw [TSel.cu_eq]; exact hx) ?_;refine region ?_;refine S Mv (S LL (S BV ?_));obtain⟨x35,gx35,hE⟩:=bO hE;refine SH (am TSel.c (TK rfl) rfl (TK rfl) (TK rfl) gx35) ?_;refine hq ((H.set tk1 (some (.tok 7 x35.l.length))).set tk8_28 (some (.tok 7 y34_l0.FSels.l.length))) ?_
     refine S As (nil ?_);exact hK7 _ (n7,x35,s6_33) (Weak.toFA (by(intro id_ o_ he_); (have e_tk8_28:id_≠tk8_28:=fun e_=>by rw [e_] at he_; simp [Heap.set,htk8_28,ne_tk8_28_tk1] at he_); (rw [<- he_]); (simp only [Heap.set,if_neg e_tk8_28]); (first|done|rfl))) hE (nS _)
    refine AWp.exit ?_;exact hK4 _ s5_8 wA hE
 rintro s5_5 hE;try dsimp only at hE
 unfold r19_selections_j4 at hE;refine seqR (S Mv (S As (nil ?_)));refine AWp.dropTok 4 rfl ?_;refine AWp.ret ?_;repeat (first|refine xBlock_ret ?_|refine xThen_ret ?_)
 obtain rfl:=oJ hE;refine retQ.retF H rfl ⟨rfl,rfl⟩ ?_
 first|exact Heap.sub_set htk1|(simp only [Heap.set_set]; exact Heap.sub_set htk1)
theorem Z76_step (n:Nat) (ih_50:∀{a0:Bs}{a1:Sl Z8}{w1:Option Nat}{r:Sl TSel},r19_selections_n n a0 a1=some r->∀(H:Heap),AC Tryz.prog 50 [.d (.str a0),.d (Sl.d 9 Z8.c w1 a1)] H fun v h'=>v=.a (.d (Sl.d 7 TSel.c none r))/\h'=H) (ih_89:∀{a0:Z8}{r:TSel},Z76_n n a0=some r->∀(H:Heap),AC Tryz.prog 89 [.agg (Z8.c a0)] H fun v h'=>v=.a (.agg (TSel.c r))/\h'=H):∀{a0:Z8}{r:TSel},Z76_n (n+1) a0=some r->∀(H:Heap),AC Tryz.prog 89 [.agg (Z8.c a0)] H fun v h'=>v=.a (.agg (TSel.c r))/\h'=H:=by
 intro a0   r hE H ;rw [Z76_n] at hE;refine AC.oW 42 [.cell 2 99] Tryz.call89 Tryz.func89 ?_;refine seqR (S BX ?_);refine Sl ?_;refine nil ?_;refine seqR (S Fv (S Ld (S Fv (S Ld (S BU ?_)))));refine Sl ?_;refine Sf ?_;refine nil ?_;refine seqJ (TA 1 (TA 2 (TA 3 kN))) (fun(z:TSel)=>[]) (fun z=>[TSel.c TSel.zero,TSel.c z]) (fun z=>H) (fun z=>Z76_j3 a0 (r19_selections_n n) z=some r) ?_ ?_
 ·intro K3 hK3;refine seqR (S Fv (S Ld (S Fv (S Ld (S BS (nil ?_))))));refine cE hE (fun hc18 hE=>?_) (fun hc18 hE=>?_)
  ·refine region ?_;refine S Fv (S Ld (S FL ?_));refine AOps.relocal 1 (TSel.cu (TSel.mk (1:Int) ([]:Bs) a0.FName ([]:Bs) a0.FArgs (Sl.nil:Sl TDir) true ([]))) rfl (fun j w cs hh hx=>by rw [<- TSel.cu_eq]; exact hx) ?_;refine Sf ?_;refine AOps.relocal 1 (TSel.c (TSel.mk ((TSel.mk (1:Int) ([]:Bs) a0.FName ([]:Bs) a0.FArgs (Sl.nil:Sl TDir) true ([])).FKind) a0.FKey ((TSel.mk (1:Int) ([]:Bs) a0.FName ([]:Bs) a0.FArgs (Sl.nil:Sl TDir) true ([])).FName) ((TSel.mk (1:Int) ([]:Bs) a0.FName ([]:Bs) a0.FArgs (Sl.nil:Sl TDir) true ([])).FOn) ((TSel.mk (1:Int) ([]:Bs) a0.FName ([]:Bs) a0.FArgs (Sl.nil:Sl TDir) true ([])).FArgs) ((TSel.mk (1:Int) ([]:Bs) a0.FName ([]:Bs) a0.FArgs (Sl.nil:Sl TDir) true ([])).FDirs) ((TSel.mk (1:Int) ([]:Bs) a0.FName ([]:Bs) a0.FArgs (Sl.nil:Sl TDir) true ([])).FSels).nl ((TSel.mk (1:Int) ([]:Bs) a0.FName ([]:Bs) a0.FArgs (Sl.nil:Sl TDir) true ([])).FSels).l)) rfl (fun j w cs hh hx=>by rw [TSel.cu_eq]; exact hx) ?_
   refine nil ?_;exact hK3 _ (TSel.mk ((TSel.mk (1:Int) ([]:Bs) a0.FName ([]:Bs) a0.FArgs (Sl.nil:Sl TDir) true ([])).FKind) a0.FKey ((TSel.mk (1:Int) ([]:Bs) a0.FName ([]:Bs) a0.FArgs (Sl.nil:Sl TDir) true ([])).FName) ((TSel.mk (1:Int) ([]:Bs) a0.FName ([]:Bs) a0.FArgs (Sl.nil:Sl TDir) true ([])).FOn) ((TSel.mk (1:Int) ([]:Bs) a0.FName ([]:Bs) a0.FArgs (Sl.nil:Sl TDir) true ([])).FArgs) ((TSel.mk (1:Int) ([]:Bs) a0.FName ([]:Bs) a0.FArgs (Sl.nil:Sl TDir) true ([])).FDirs) ((TSel.mk (1:Int) ([]:Bs) a0.FName ([]:Bs) a0.FArgs (Sl.nil:Sl TDir) true ([])).FSels).nl ((TSel.mk (1:Int) ([]:Bs) a0.FName ([]:Bs) a0.FArgs (Sl.nil:Sl TDir) true ([])).FSels).l) wA hE
  refine AWp.skip ?_;exact hK3 _ (TSel.mk (1:Int) ([]:Bs) a0.FName ([]:Bs) a0.FArgs (Sl.nil:Sl TDir) true ([])) wA hE
 rintro y4_l1 hE;try dsimp only at hE
 unfold Z76_j3 at hE;refine seqJ (TA 1 (TA 2 (TA 3 kN))) (fun(z:TSel)=>[]) (fun z=>[TSel.c TSel.zero,TSel.c z]) (fun z=>H) (fun z=>Z76_j5 a0 (r19_selections_n n) z=some r) ?_ ?_
 ·intro K5 hK5;refine seqR (S Fv (S Ld (S BI (nil ?_))));refine cE hE (fun hc15 hE=>?_) (fun hc15 hE=>?_)
  ·refine AWp.relocal 1 (TSel.cu y4_l1) rfl (fun j w cs hh hx=>by rw [<- TSel.cu_eq]; exact hx) ?_;refine AWp.draw rfl ?_;obtain⟨x16,gx16,hE⟩:=bO hE;refine Scd rfl rfl (Z77_walk gx16) ?_;refine Sd BU (Sd Fv (Sd Ld (Sd BU (Sd BU (Sd BV (Sd BU (Sd BV (Sd FL ?_))))))));refine DOps.sLn (storeL1 (TK rfl) rfl rfl rfl rfl (by repeat (first|exact SetAt.zero|apply SetAt.succ)) (by repeat (first|exact SetAt.zero|apply SetAt.succ))) ?_
   refine DOps.nil (by decide +kernel) ?_;exact hK5 _ (TSel.mk y4_l1.FKind y4_l1.FAlias y4_l1.FName y4_l1.FOn y4_l1.FArgs (⟨false,[(TDir.mk ([115,116,114,101,97,109]:Bs) (⟨false,[(TArg.mk ([108,97,98,101,108]:Bs) x16),(TArg.mk ([105,110,105,116,105,97,108,67,111,117,110,116]:Bs) (Z11.mk (2:Int) a0.FInitial ([]:Bs) true ([]) (Sl.nil:Sl Bs)))]⟩:Sl TArg))]⟩:Sl TDir) y4_l1.FSels.nl y4_l1.FSels.l) (Weak.trans (Weak.relocal 1 (TSel.c (TSel.mk y4_l1.FKind y4_l1.FAlias y4_l1.FName y4_l1.FOn y4_l1.FArgs (⟨false,[(TDir.mk ([115,116,114,101,97,109]:Bs) (⟨false,[(TArg.mk ([108,97,98,101,108]:Bs) x16),(TArg.mk ([105,110,105,116,105,97,108,67,111,117,110,116]:Bs) (Z11.mk (2:Int) a0.FInitial ([]:Bs) true ([]) (Sl.nil:Sl Bs)))]⟩:Sl TArg))]⟩:Sl TDir) y4_l1.FSels.nl y4_l1.FSels.l)) rfl (fun j w cs hh hx=>by rw [TSel.cu_eq]; exact hx)) wA) hE
  refine AWp.skip ?_;exact hK5 _ y4_l1 wA hE
 rintro y6_l1 hE;try dsimp only at hE
 unfold Z76_j5 at hE;refine seqJ (TA 2 (TA 3 kN)) (fun(z:TSel)=>[]) (fun z=>[TSel.c TSel.zero,TSel.c z]) (fun z=>H) (fun z=>Z76_j7 z=some r) ?_ ?_
 ·intro K7 hK7;refine seqR (S Fv ?_);refine s0 (loadV (TK rfl) rfl rfl (congrArg (fun x=>some (A.d x)) (Z8.FPicksD_eq _))) rfl ?_;refine sLen (f:=Z8.c) (s:=a0.FPicks) (TK rfl) rfl rfl rfl rfl fun hL11=>?_;refine S BI (nil ?_);refine cE hE (fun hc12 hE=>?_) (fun hc12 hE=>?_)
  ·refine region ?_;refine S Fv (S Fv (S Ld (S Fv ?_)));refine s0 (loadV (TK rfl) rfl rfl (congrArg (fun x=>some (A.d x)) (Z8.FPicksD_eq _))) rfl ?_;obtain⟨x13,gx13,hE⟩:=bO hE;refine Sc rfl rfl (ih_50 gx13) ?_;refine S FL ?_;refine AOps.relocal 1 (TSel.cu y6_l1) rfl (fun j w cs hh hx=>by rw [<- TSel.cu_eq]; exact hx) ?_;refine Sf ?_;refine AOps.relocal 1 (TSel.c (TSel.mk y6_l1.FKind y6_l1.FAlias y6_l1.FName y6_l1.FOn y6_l1.FArgs y6_l1.FDirs x13.nl x13.l)) rfl (fun j w cs hh hx=>by rw [TSel.cu_eq]; exact hx) ?_
   refine nil ?_;exact hK7 _ (TSel.mk y6_l1.FKind y6_l1.FAlias y6_l1.FName y6_l1.FOn y6_l1.FArgs y6_l1.FDirs x13.nl x13.l) wA hE
  refine AWp.skip ?_;exact hK7 _ y6_l1 wA hE
 rintro y8_l1 hE;try dsimp only at hE
 unfold Z76_j7 at hE;refine seqR (S LL ?_);refine Sf ?_;refine nil ?_;exact rt hE
theorem r19_selections_all:∀(n:Nat),(∀{a0:Bs}{a1:Sl Z8}{w1:Option Nat}{r:Sl TSel},r19_selections_n n a0 a1=some r->∀(H:Heap),AC Tryz.prog 50 [.d (.str a0),.d (Sl.d 9 Z8.c w1 a1)] H fun v h'=>v=.a (.d (Sl.d 7 TSel.c none r))/\h'=H)/\(∀{a0:Z8}{r:TSel},Z76_n n a0=some r->∀(H:Heap),AC Tryz.prog 89 [.agg (Z8.c a0)] H fun v h'=>v=.a (.agg (TSel.c r))/\h'=H)
 | 0=>⟨fun hE=>by first|cases hE|(rw [r19_selections_n] at hE; cases hE),fun hE=>by first|cases hE|(rw [Z76_n] at hE; cases hE)⟩
 | n+1=>⟨r19_selections_step n (r19_selections_all n).1 (r19_selections_all n).2,Z76_step n (r19_selections_all n).1 (r19_selections_all n).2⟩
def r19_selections (a0:Bs) (a1:(Sl Z8)):Option (Sl TSel):=r19_selections_n F0 a0 a1
theorem r19_selections_walk {a0:Bs}{a1:Sl Z8}{w1:Option Nat}{r:Sl TSel}(hE:r19_selections a0 a1=some r) (H:Heap) :AC Tryz.prog 50 [.d (.str a0),.d (Sl.d 9 Z8.c w1 a1)] H fun v h'=>v=.a (.d (Sl.d 7 TSel.c none r))/\h'=H:=(r19_selections_all F0).1 hE H 
def Z74_j5 (a0:Z9)  (s3_6:(Sl TSel)):Option Z10:=some (Z10.mk (⟨false,[(TOp.mk a0.FKind ([]:Bs) (Sl.nil:Sl TVar) s3_6)]⟩:Sl TOp) (Sl.nil:Sl Z5))
def Z74 (a0:Z9):Option Z10:=(Z73 a0.FKind).bind fun x3=>(r19_selections x3 a0.FPicks).bind fun x4=>bif (decide (((x4.l.length:Nat):Int)=(0:Int))) then(Z74_j5 a0  (⟨false,[(TSel.mk (1:Int) ([]:Bs) ([95,95,116,121,112,101,110,97,109,101]:Bs) ([]:Bs) (Sl.nil:Sl TArg) (⟨false,[(TDir.mk ([115,107,105,112]:Bs) (⟨false,[(TArg.mk ([105,102]:Bs) (Z11.mk (1:Int) (1:Int) ([]:Bs) true ([]) (Sl.nil:Sl Bs)))]⟩:Sl TArg))]⟩:Sl TDir) true ([]))]⟩:Sl TSel)) else(Z74_j5 a0  x4)
theorem Z74_walk {a0:Z9}{r:Z10}(hE:Z74 a0=some r) (H:Heap) :AC Tryz.prog 19 [.agg (Z9.c a0)] H fun v h'=>v=.a (.agg (Z10.c r))/\h'=H:=by
 unfold Z74 at hE;refine AC.oW 28 [.cell 2 40] Tryz.call19 Tryz.func19 ?_;refine seqR (S BX ?_);refine Sl ?_;refine nil ?_;refine AWp.seqD (Sd Fv (Sd Ld ?_));obtain⟨x3,gx3,hE⟩:=bO hE;refine Scd rfl rfl (Z73_walk gx3) ?_;refine Sd Fv (Sd Ld ?_);obtain⟨x4,gx4,hE⟩:=bO hE;refine Scd rfl rfl (r19_selections_walk gx4) ?_;refine Sd As ?_;refine DOps.nil (by decide +kernel) ?_;refine seqJH (TA 1 (TA 2 kN)) (fun(z:(Sl TSel))=>[(3,.a (.d (Sl.d 7 TSel.c none z)))]) (fun z=>H) (fun z=>Z74_j5 a0 z=some r) ?_ ?_
 ·intro K5 hK5;refine seqR (S Mv ?_);refine sLen (f:=TSel.c) (s:=x4) (TK rfl) rfl rfl rfl rfl fun hL9=>?_;refine S BI (nil ?_);refine cE hE (fun hc10 hE=>?_) (fun hc10 hE=>?_)
  ·refine seqR (S BU ?_);refine Sl ?_;refine Sf ?_;refine nil ?_;refine freezeA 4 _ rfl (KA 1 (KA 2 Keeps.nil)) ?_;refine region ?_;refine S Ld (S BU (S BV (S BU (S BV (S BU (S BV (S As (nil ?_))))))));exact hK5 _ (⟨false,[(TSel.mk (1:Int) ([]:Bs) ([95,95,116,121,112,101,110,97,109,101]:Bs) ([]:Bs) (Sl.nil:Sl TArg) (⟨false,[(TDir.mk ([115,107,105,112]:Bs) (⟨false,[(TArg.mk ([105,102]:Bs) (Z11.mk (1:Int) (1:Int) ([]:Bs) true ([]) (Sl.nil:Sl Bs)))]⟩:Sl TArg))]⟩:Sl TDir) true ([]))]⟩:Sl TSel) wA hE
  refine AWp.skip ?_;exact hK5 _ x4 wA hE
 rintro s3_6 hE;try dsimp only at hE
 unfold Z74_j5 at hE;refine seqR (S Fv (S Ld (S Mv (S BU (S BV (S BU ?_))))));refine Sf ?_;refine nil ?_;exact rt hE
section
variable [IsLoud lou]
def Z38 (a0:Z9):Option Bool:=(Z41 a0.FPicks).bind fun x3=>guardO (!x3) (Z45 a0) Z10.zero fun x4=>guardO (!x3) (Z74 a0) Z10.zero fun x5=>guardO (!x3) (Z68 x4 x5) false fun x6=>guardO ((x3||x6)) (Z40 ) false fun x7=>some ((x3||x6)&&x7)
theorem Z38_walk {a0:Z9}{oT:Ab.Obj}{gT:Nat}{r:Bool}(hE:Z38 a0=some r) (H:Heap) (hgT:H gT=some oT) (hoT:IsTab Tryz.prog oT):AC Tryz.prog 5 [.agg (Z9.c a0)] H fun v h'=>v=.a (.d (.bool r))/\h'=H:=by
 unfold Z38 at hE;refine AC.oW 16 [.tmp 2] Tryz.call5 Tryz.func5 ?_;refine seqR (S BX (S As (nil ?_)));refine AWp.seqD (Sd Fv (Sd Ld ?_));obtain⟨x3,gx3,hE⟩:=bO hE;refine Scd rfl rfl (Z41_walk gx3) ?_;refine Sd Mv (G0d Ld ?_);obtain⟨x4,gx4,hE⟩:=gO hE;refine Gc1d 7 rfl rfl rfl rfl rfl (fun hC=>Z45_walk (gx4 hC)) ?_;refine G0d Ld ?_;obtain⟨x5,gx5,hE⟩:=gO hE;refine Gc1d 9 rfl rfl rfl rfl rfl (fun hC=>Z74_walk (gx5 hC)) ?_
 obtain⟨x6,gx6,hE⟩:=gO hE;refine Gc2d 8 10 rfl rfl rfl rfl rfl rfl (fun hC=>Z68_walk (gx6 hC)) ?_;refine Sd PO (Sd Mv ?_);obtain⟨x7,gx7,hE⟩:=gO hE;refine DOps.gC rfl rfl (fun hC=>callR rfl rfl (Z40_walk (gT:=gT) (oT:=oT) (gx7 hC) _ hpG (by assumption))) rfl ?_;refine Sd PA (Sd As ?_);refine DOps.nil (by decide +kernel) ?_;exact rt hE
end
end Go.Proofs

namespace Go.Proofs
open Go Go.Ab
def Z65_q23 (a1:Int):List Bs->Int->Option (Int)
 | [],s5_24=>some s5_24
 | h23::r23,s5_24=>bif (decide (s5_24<=a1)) then((addC s5_24 (1:Int)).bind fun x31=>on (h23) fun x32=>(addC x31 ((x32.length:Nat):Int)).bind fun x34=>Z65_q23 a1 (r23) x34) else(some s5_24)
theorem Z65_l23_qe {a0:Z11}{a1:Int}{k_rec_57:Z11->Int->Option Int}  (Kb23:(Int)->Option Int) (hend:∀(n23:Nat) (s5_24:Int) (s6_25:Nat),Z65_j5 a0 a1 k_rec_57 s5_24=Kb23 s5_24):∀(n23:Nat) (s5_24:Int) (s6_25:Nat),(0<n23/\a0.FKeys.l.length<s6_25+n23)->Z65_l23 a0 a1 k_rec_57 n23 s5_24 s6_25=Option.bind (Z65_q23 a1 (a0.FKeys.l.drop s6_25) s5_24) Kb23:=by
 intro n23;induction n23 with
 | zero=>intro s5_24 s6_25 hn; exact absurd hn.1 (by omega)
 | succ n23 ih23 =>
  intro s5_24 s6_25 hn;rw [Z65_l23];by_cases hlt:s6_25<a0.FKeys.l.length
  ·obtain⟨h23,hh23⟩:=Qa hlt;rw [Q.drop_of hh23,Z65_q23];refine Q.condAT (Q.ltT hlt) ?_;refine Q.condO ?_ ?_
   ·refine Q.bindO rfl fun x31=>?_;refine Q.bindPO hh23 fun x32 hx_x32=>?_;refine Q.bindO rfl fun x34=>?_;all_goals exact ih23 _ _ ⟨by omega,by omega⟩
   all_goals exact hend n23 s5_24 s6_25
  rw [dL (by omega),Z65_q23];refine Q.condAF (Q.ltF hlt) ?_;exact hend n23 s5_24 s6_25
def Z65_q11 (a1:Int) (k_rec_57:Z11->Int->Option Int):List Z11->Int->Option (Int)
 | [],s5_12=>some s5_12
 | h11::r11,s5_12=>bif (decide (s5_12<=a1)) then(on (h11) fun x19=>(k_rec_57 x19 a1).bind fun x20=>(addC s5_12 x20).bind fun x21=>Z65_q11 a1 k_rec_57 (r11) x21) else(some s5_12)
theorem Z65_l11_qe {a0:Z11}{a1:Int}{k_rec_57:Z11->Int->Option Int}  (Kb11:(Int)->Option Int) (hend:∀(n11:Nat) (s5_12:Int) (s7_13:Nat),Z65_j7   s5_12=Kb11 s5_12):∀(n11:Nat) (s5_12:Int) (s7_13:Nat),(0<n11/\a0.FItems.l.length<s7_13+n11)->Z65_l11 a0 a1 k_rec_57 n11 s5_12 s7_13=Option.bind (Z65_q11 a1 k_rec_57 (a0.FItems.l.drop s7_13) s5_12) Kb11:=by
 intro n11;induction n11 with
 | zero=>intro s5_12 s7_13 hn; exact absurd hn.1 (by omega)
 | succ n11 ih11 =>
  intro s5_12 s7_13 hn;rw [Z65_l11];by_cases hlt:s7_13<a0.FItems.l.length
  ·obtain⟨h11,hh11⟩:=Qa hlt;rw [Q.drop_of hh11,Z65_q11];refine Q.condAT (Q.ltT hlt) ?_;refine Q.condO ?_ ?_
   ·refine Q.bindPO hh11 fun x19 hx_x19=>?_;refine Q.bindO rfl fun x20=>?_;refine Q.bindO rfl fun x21=>?_;all_goals exact ih11 _ _ ⟨by omega,by omega⟩
   all_goals exact hend n11 s5_12 s7_13
  rw [dL (by omega),Z65_q11];refine Q.condAF (Q.ltF hlt) ?_;exact hend n11 s5_12 s7_13
def Z65_qn:Nat->Z11->Int->Option Int
 | 0,_,_=>none
 | n+1,a0,a1=>(addC (1:Int) ((a0.FText.length:Nat):Int)).bind fun x4=>Option.bind (Z65_q23 a1 a0.FKeys.l x4) fun s5_24=>on (s5_24) fun s5_6=>Option.bind (Z65_q11 a1 (Z65_qn n) a0.FItems.l s5_6) fun s5_12=>on (s5_12) fun s5_8=>some s5_8
theorem Z65_qall:∀n:Nat,Z65_n n=Z65_qn n:=by
 intro n;induction n with
 | zero=>exact(by funext a0 a1; first|rfl|(rw [Z65_n,Z65_qn]))
 | succ n ih =>
  funext a0 a1
  refine Qs ?_;rw [Z65_n,Z65_qn];try rw [ih]
  refine Q.bindO rfl fun x4=>?_;refine Q.wrapOO fun Kb23 hKb23=>?_;refine Z65_l23_qe  Kb23 ?_ _ _ _ ⟨Nat.succ_pos _,by omega⟩;intro n23 s5_24 s6_25;refine Qe (hKb23 _) ?_;refine Q.wrapPO fun Kj5 hKj5=>?_;have hj5:∀(s5_6:Int),Z65_j5 a0 a1 (Z65_qn n) s5_6=Kj5 s5_6:=by
   intro s5_6;refine Qe (hKj5 _) ?_;unfold Z65_j5;refine Q.wrapOO fun Kb11 hKb11=>?_;refine Z65_l11_qe  Kb11 ?_ _ _ _ ⟨Nat.succ_pos _,by omega⟩;intro n11 s5_12 s7_13;refine Qe (hKb11 _) ?_;refine Q.wrapPO fun Kj7 hKj7=>?_;have hj7:∀(s5_8:Int),Z65_j7  s5_8=Kj7 s5_8:=by
    intro s5_8;refine Qe (hKj7 _) ?_;unfold Z65_j7;all_goals rfl
   all_goals exact hj7 _
  all_goals exact hj5 _
def Z65_q (a0:Z11) (a1:Int):Option Int:=Z65_qn F0 a0 a1
theorem Z65_eq (a0:Z11) (a1:Int):Z65 a0 a1=Z65_q a0 a1:=by
 unfold Z65 Z65_q; rw [(Z65_qall F0)]
def Z42_q23 :List TArg->Int->Option (Int)
 | [],s3_24=>some s3_24
 | h23::r23,s3_24=>bif (decide (s3_24<=(300:Int))) then((addC s3_24 (1:Int)).bind fun x31=>on (h23) fun x32=>(Z65_q x32.FValue (300:Int)).bind fun x33=>(addC x31 x33).bind fun x34=>Z42_q23  (r23) x34) else(some s3_24)
theorem Z42_l23_qe {a0:Z8}{k_rec_23:Z8->Option Int}  (Kb23:(Int)->Option Int) (hend:∀(n23:Nat) (s3_24:Int) (s4_25:Nat),Z42_j5 a0 k_rec_23 s3_24=Kb23 s3_24):∀(n23:Nat) (s3_24:Int) (s4_25:Nat),(0<n23/\a0.FArgs.l.length<s4_25+n23)->Z42_l23 a0 k_rec_23 n23 s3_24 s4_25=Option.bind (Z42_q23  (a0.FArgs.l.drop s4_25) s3_24) Kb23:=by
 intro n23;induction n23 with
 | zero=>intro s3_24 s4_25 hn; exact absurd hn.1 (by omega)
 | succ n23 ih23 =>
  intro s3_24 s4_25 hn;rw [Z42_l23];by_cases hlt:s4_25<a0.FArgs.l.length
  ·obtain⟨h23,hh23⟩:=Qa hlt;rw [Q.drop_of hh23,Z42_q23];refine Q.condAT (Q.ltT hlt) ?_;refine Q.condO ?_ ?_
   ·refine Q.bindO rfl fun x31=>?_;refine Q.bindPO hh23 fun x32 hx_x32=>?_;refine Q.bindO (Z65_eq _ _) fun x33=>?_;refine Q.bindO rfl fun x34=>?_;all_goals exact ih23 _ _ ⟨by omega,by omega⟩
   all_goals exact hend n23 s3_24 s4_25
  rw [dL (by omega),Z42_q23];refine Q.condAF (Q.ltF hlt) ?_;exact hend n23 s3_24 s4_25
def Z42_q11 (k_rec_23:Z8->Option Int):List Z8->Int->Option (Int)
 | [],s3_12=>some s3_12
 | h11::r11,s3_12=>bif (decide (s3_12<=(300:Int))) then(on (h11) fun x19=>(k_rec_23 x19).bind fun x20=>(addC s3_12 x20).bind fun x21=>Z42_q11 k_rec_23 (r11) x21) else(some s3_12)
theorem Z42_l11_qe {a0:Z8}{k_rec_23:Z8->Option Int}  (Kb11:(Int)->Option Int) (hend:∀(n11:Nat) (s3_12:Int) (s5_13:Nat),Z42_j7   s3_12=Kb11 s3_12):∀(n11:Nat) (s3_12:Int) (s5_13:Nat),(0<n11/\a0.FPicks.l.length<s5_13+n11)->Z42_l11 a0 k_rec_23 n11 s3_12 s5_13=Option.bind (Z42_q11 k_rec_23 (a0.FPicks.l.drop s5_13) s3_12) Kb11:=by
 intro n11;induction n11 with
 | zero=>intro s3_12 s5_13 hn; exact absurd hn.1 (by omega)
 | succ n11 ih11 =>
  intro s3_12 s5_13 hn;rw [Z42_l11];by_cases hlt:s5_13<a0.FPicks.l.length
  ·obtain⟨h11,hh11⟩:=Qa hlt;rw [Q.drop_of hh11,Z42_q11];refine Q.condAT (Q.ltT hlt) ?_;refine Q.condO ?_ ?_
   ·refine Q.bindPO hh11 fun x19 hx_x19=>?_;refine Q.bindO rfl fun x20=>?_;refine Q.bindO rfl fun x21=>?_;all_goals exact ih11 _ _ ⟨by omega,by omega⟩
   all_goals exact hend n11 s3_12 s5_13
  rw [dL (by omega),Z42_q11];refine Q.condAF (Q.ltF hlt) ?_;exact hend n11 s3_12 s5_13
def Z42_qn:Nat->Z8->Option Int
 | 0,_=>none
 | n+1,a0=>(addC (1:Int) ((a0.FType.FWraps.l.length:Nat):Int)).bind fun x4=>Option.bind (Z42_q23  a0.FArgs.l x4) fun s3_24=>on (s3_24) fun s3_6=>Option.bind (Z42_q11 (Z42_qn n) a0.FPicks.l s3_6) fun s3_12=>on (s3_12) fun s3_8=>some s3_8
theorem Z42_qall:∀n:Nat,Z42_n n=Z42_qn n:=by
 intro n;induction n with
 | zero=>exact(by funext a0; first|rfl|(rw [Z42_n,Z42_qn]))
 | succ n ih =>
  funext a0
  refine Qs ?_;rw [Z42_n,Z42_qn];try rw [ih]
  refine Q.bindO rfl fun x4=>?_;refine Q.wrapOO fun Kb23 hKb23=>?_;refine Z42_l23_qe  Kb23 ?_ _ _ _ ⟨Nat.succ_pos _,by omega⟩;intro n23 s3_24 s4_25;refine Qe (hKb23 _) ?_;refine Q.wrapPO fun Kj5 hKj5=>?_;have hj5:∀(s3_6:Int),Z42_j5 a0 (Z42_qn n) s3_6=Kj5 s3_6:=by
   intro s3_6;refine Qe (hKj5 _) ?_;unfold Z42_j5;refine Q.wrapOO fun Kb11 hKb11=>?_;refine Z42_l11_qe  Kb11 ?_ _ _ _ ⟨Nat.succ_pos _,by omega⟩;intro n11 s3_12 s5_13;refine Qe (hKb11 _) ?_;refine Q.wrapPO fun Kj7 hKj7=>?_;have hj7:∀(s3_8:Int),Z42_j7  s3_8=Kj7 s3_8:=by
    intro s3_8;refine Qe (hKj7 _) ?_;unfold Z42_j7;all_goals rfl
   all_goals exact hj7 _
  all_goals exact hj5 _
def Z42_q (a0:Z8):Option Int:=Z42_qn F0 a0
theorem Z42_eq (a0:Z8):Z42 a0=Z42_q a0:=by
 unfold Z42 Z42_q; rw [(Z42_qall F0)]
def Z41_q7 :List Z8->Int->Option (Int)
 | [],s3_8=>some s3_8
 | h7::r7,s3_8=>bif (decide (s3_8<=(300:Int))) then(on (h7) fun x15=>(Z42_q x15).bind fun x16=>(addC s3_8 x16).bind fun x17=>Z41_q7  (r7) x17) else(some s3_8)
theorem Z41_l7_qe {a0:(Sl Z8)}  (Kb7:(Int)->Option Bool) (hend:∀(n7:Nat) (s3_8:Int) (s4_9:Nat),Z41_j3   s3_8=Kb7 s3_8):∀(n7:Nat) (s3_8:Int) (s4_9:Nat),(0<n7/\a0.l.length<s4_9+n7)->Z41_l7 a0 n7 s3_8 s4_9=Option.bind (Z41_q7  (a0.l.drop s4_9) s3_8) Kb7:=by
 intro n7;induction n7 with
 | zero=>intro s3_8 s4_9 hn; exact absurd hn.1 (by omega)
 | succ n7 ih7 =>
  intro s3_8 s4_9 hn;rw [Z41_l7];by_cases hlt:s4_9<a0.l.length
  ·obtain⟨h7,hh7⟩:=Qa hlt;rw [Q.drop_of hh7,Z41_q7];refine Q.condAT (Q.ltT hlt) ?_;refine Q.condO ?_ ?_
   ·refine Q.bindPO hh7 fun x15 hx_x15=>?_;refine Q.bindO (Z42_eq _) fun x16=>?_;refine Q.bindO rfl fun x17=>?_;all_goals exact ih7 _ _ ⟨by omega,by omega⟩
   all_goals exact hend n7 s3_8 s4_9
  rw [dL (by omega),Z41_q7];refine Q.condAF (Q.ltF hlt) ?_;exact hend n7 s3_8 s4_9
def Z41_q (a0:(Sl Z8)):Option Bool:=Option.bind (Z41_q7  a0.l (0:Int)) fun s3_8=>on (s3_8) fun s3_4=>some (decide ((300:Int)<s3_4))
theorem Z41_eq (a0:(Sl Z8)):Z41 a0=Z41_q a0:=by
 unfold Z41 Z41_q;refine Qs ?_;refine Q.wrapOO fun Kb7 hKb7=>?_;refine Z41_l7_qe  Kb7 ?_ _ _ _ ⟨Nat.succ_pos _,by omega⟩;intro n7 s3_8 s4_9;refine Qe (hKb7 _) ?_;refine Q.wrapPO fun Kj3 hKj3=>?_;have hj3:∀(s3_4:Int),Z41_j3  s3_4=Kj3 s3_4:=by
  intro s3_4;refine Qe (hKj3 _) ?_;unfold Z41_j3;all_goals rfl
 all_goals exact hj3 _
def Z83_q (a0:Int):Bs:=bif (decide (a0=(1:Int))) then(([81,117,101,114,121]:Bs)) else(bif (decide (a0=(2:Int))) then(([77,117,116,97,116,105,111,110]:Bs)) else(bif (decide (a0=(3:Int))) then(([83,117,98,115,99,114,105,112,116,105,111,110]:Bs)) else(([]:Bs))))
theorem Z83_eq (a0:Int):Z83 a0=some (Z83_q a0):=by
 unfold Z83 Z83_q;refine Q.condP ?_ ?_
 ·all_goals rfl
 refine Q.condP ?_ ?_
 ·all_goals rfl
 refine Q.condP ?_ ?_
 ·all_goals rfl
 all_goals rfl
def Z130_q (a0:Z11) (a1:Z11):Option Bool:=(Z125 a0 a1).bind fun x3=>some (decide (x3=(0:Int)))
def Z87_q (a0:(Sl Bs)):Option (Sl Bs):=bif a0.nl then(some (Sl.nil:Sl Bs)) else((appC 16 (⟨false,[]⟩:Sl Bs) a0).bind fun x7=>some x7)
theorem Z87_eq (a0:(Sl Bs)):Z87 a0=Z87_q a0:=by
 unfold Z87 Z87_q;refine Qs ?_;refine Q.condO ?_ ?_
 ·all_goals rfl
 refine Q.bindO rfl fun x7=>?_;all_goals rfl
def Z133_q8 (k_rec_141:Z11->Option Z11):List Z11->(Sl Z11)->Option ((Sl Z11))
 | [],s3_9=>some s3_9
 | h8::r8,s3_9=>on (h8) fun x16=>(k_rec_141 x16).bind fun x17=>(appC 80 s3_9 (⟨false,[x17]⟩:Sl Z11)).bind fun x18=>Z133_q8 k_rec_141 (r8) x18
theorem Z133_l8_qe {a0:(Sl Z11)}{k_rec_141:Z11->Option Z11}  (Kb8:((Sl Z11))->Option (Sl Z11)) (hend:∀(n8:Nat) (s3_9:(Sl Z11)) (s8_10:Nat),Z133_j3   s3_9=Kb8 s3_9):∀(n8:Nat) (s3_9:(Sl Z11)) (s8_10:Nat),(0<n8/\a0.l.length<s8_10+n8)->Z133_l8 a0 k_rec_141 n8 s3_9 s8_10=Option.bind (Z133_q8 k_rec_141 (a0.l.drop s8_10) s3_9) Kb8:=by
 intro n8;induction n8 with
 | zero=>intro s3_9 s8_10 hn; exact absurd hn.1 (by omega)
 | succ n8 ih8 =>
  intro s3_9 s8_10 hn;rw [Z133_l8];by_cases hlt:s8_10<a0.l.length
  ·obtain⟨h8,hh8⟩:=Qa hlt;rw [Q.drop_of hh8,Z133_q8];refine QT hlt ?_;refine Q.bindPO hh8 fun x16 hx_x16=>?_;refine Q.bindO rfl fun x17=>?_;refine Q.bindO rfl fun x18=>?_;all_goals exact ih8 _ _ ⟨by omega,by omega⟩
  rw [dL (by omega),Z133_q8];refine QF hlt ?_;exact hend n8 s3_9 s8_10
mutual
def value_Copy_qn:Nat->Z11->Option Z11
 | 0,_=>none
 | n+1,a0=>((Z133_qn n) a0.FItems).bind fun x3=>(Z87_q a0.FKeys).bind fun x5=>some (Z11.mk a0.FKind a0.FInt a0.FText x3.nl x3.l x5)
def Z133_qn:Nat->(Sl Z11)->Option (Sl Z11)
 | 0,_=>none
 | n+1,a0=>Option.bind (Z133_q8 (value_Copy_qn n) a0.l (Sl.nil:Sl Z11)) fun s3_9=>on (s3_9) fun s3_4=>some s3_4
end
theorem value_Copy_qall:∀n:Nat,value_Copy_n n=value_Copy_qn n/\Z133_n n=Z133_qn n:=by
 intro n;induction n with
 | zero=>exact⟨(by funext a0; first|rfl|(rw [value_Copy_n,value_Copy_qn])),(by funext a0; first|rfl|(rw [Z133_n,Z133_qn]))⟩
 | succ n ih =>
  refine⟨?_, ?_⟩
  ·funext a0
   refine Qs ?_;rw [value_Copy_n,value_Copy_qn];try rw [ih.1]
   try rw [ih.2]
   refine Q.bindO rfl fun x3=>?_;refine Q.bindO (Z87_eq _) fun x5=>?_;all_goals rfl
  funext a0
  refine Qs ?_;rw [Z133_n,Z133_qn];try rw [ih.1]
  try rw [ih.2]
  refine Q.wrapOO fun Kb8 hKb8=>?_;refine Z133_l8_qe  Kb8 ?_ _ _ _ ⟨Nat.succ_pos _,by omega⟩;intro n8 s3_9 s8_10;refine Qe (hKb8 _) ?_;refine Q.wrapPO fun Kj3 hKj3=>?_;have hj3:∀(s3_4:(Sl Z11)),Z133_j3  s3_4=Kj3 s3_4:=by
   intro s3_4;refine Qe (hKj3 _) ?_;unfold Z133_j3;all_goals rfl
  all_goals exact hj3 _
def value_Copy_q (a0:Z11):Option Z11:=value_Copy_qn F0 a0
theorem value_Copy_eq (a0:Z11):value_Copy a0=value_Copy_q a0:=by
 unfold value_Copy value_Copy_q; rw [(value_Copy_qall F0).1]
def Z132_q (a0:Bs):Z11:=(Z11.mk (3:Int) (0:Int) a0 true ([]) (Sl.nil:Sl Bs))
theorem Z132_eq (a0:Bs):Z132 a0=some (Z132_q a0):=by
 unfold Z132 Z132_q;all_goals rfl
end Go.Proofs

namespace Go.Proofs
open Go Go.Ab
end Go.Proofs

namespace Go.Proofs
open Go Go.Ab
def Z67_q11 (a1:(Sl Int)):List Int->Nat->Option (Unit ⊕ Bool)
 | [],s5_12=>some (Sum.inl ())
 | h11::r11,s5_12=>on (h11) fun x19=>(a1.l[s5_12]?).bind fun x20=>bif (!decide (x19=x20)) then(some (Sum.inr false)) else(Z67_q11 a1 (r11) (s5_12+1) )
theorem Z67_l11_qe {a0:(Sl Int)}{a1:(Sl Int)}  (Kb11:(Unit ⊕ Bool)->Option Bool) (hend:∀(n11:Nat) (s5_12:Nat),Z67_j8   =Kb11 (Sum.inl ())) (hret:∀e:Bool,some e=Kb11 (Sum.inr e)):∀(n11:Nat) (s5_12:Nat),(0<n11/\a0.l.length<s5_12+n11)->Z67_l11 a0 a1 n11 s5_12=Option.bind (Z67_q11 a1 (a0.l.drop s5_12) s5_12 ) Kb11:=by
 intro n11;induction n11 with
 | zero=>intro s5_12 hn; exact absurd hn.1 (by omega)
 | succ n11 ih11 =>
  intro s5_12 hn;rw [Z67_l11];by_cases hlt:s5_12<a0.l.length
  ·obtain⟨h11,hh11⟩:=Qa hlt;rw [Q.drop_of hh11,Z67_q11];refine QT hlt ?_;refine Q.bindPO hh11 fun x19 hx_x19=>?_;refine Q.bindO rfl fun x20=>?_;refine Q.condO ?_ ?_
   ·all_goals exact hret _
   all_goals exact ih11 _ ⟨by omega,by omega⟩
  rw [dL (by omega),Z67_q11];refine QF hlt ?_;exact hend n11 s5_12
def Z67_q (a0:(Sl Int)) (a1:(Sl Int)):Option Bool:=bif (!decide (((a0.l.length:Nat):Int)=((a1.l.length:Nat):Int))) then(some false) else(Option.bind (Z67_q11 a1 a0.l 0 ) fun o11=>match o11 with|Sum.inl _=>(on (()) fun _=>some true)|Sum.inr e11=>(some e11))
theorem Z67_eq (a0:(Sl Int)) (a1:(Sl Int)):Z67 a0 a1=Z67_q a0 a1:=by
 unfold Z67 Z67_q;refine Qs ?_;refine Q.condO ?_ ?_
 ·all_goals rfl
 refine Q.wrapOO fun Kb11 hKb11=>?_;refine Z67_l11_qe  Kb11 ?_ ?_ _ _ ⟨Nat.succ_pos _,by omega⟩
 ·intro n11 s5_12;refine Qe (hKb11 _) ?_;try dsimp only
  refine Q.wrapPO fun Kj8 hKj8=>?_;have hj8:Z67_j8  =Kj8 ():=by
   refine Qe (hKj8 _) ?_;unfold Z67_j8;all_goals rfl
  all_goals exact hj8
 intro e11;refine Qe (hKb11 _) ?_;try dsimp only
 all_goals rfl
def Z66_q (a0:TRef) (a1:TRef):Option Bool:=guardO (((a0.FName==a1.FName))) (Z67_q a0.FWraps a1.FWraps) false fun x3=>some (((a0.FName==a1.FName))&&x3)
theorem Z66_eq (a0:TRef) (a1:TRef):Z66 a0 a1=Z66_q a0 a1:=by
 unfold Z66 Z66_q;refine Qs ?_;refine Q.guardOO (Z67_eq _ _) fun x3=>?_;all_goals rfl
def Z62_q (a0:Int) (a1:Int):Int:=bif (decide (a0<a1)) then((-1:Int)) else(bif (decide (a1<a0)) then((1:Int)) else((0:Int)))
theorem Z62_eq (a0:Int) (a1:Int):Z62 a0 a1=some (Z62_q a0 a1):=by
 unfold Z62 Z62_q;refine Q.condP ?_ ?_
 ·all_goals rfl
 refine Q.condP ?_ ?_
 ·all_goals rfl
 all_goals rfl
def Z64_q (a0:Bs) (a1:Bs):Int:=bif (Op.bytesLess a0 a1) then((-1:Int)) else(bif (!(Op.bytesLess a0 a1||a0==a1)) then((1:Int)) else((0:Int)))
theorem Z64_eq (a0:Bs) (a1:Bs):Z64 a0 a1=some (Z64_q a0 a1):=by
 unfold Z64 Z64_q;refine Q.condP ?_ ?_
 ·all_goals rfl
 refine Q.condP ?_ ?_
 ·all_goals rfl
 all_goals rfl
def Z63_q (a0:Z11) (a1:Int):Option Bs:=bif (decide (a1<((a0.FKeys.l.length:Nat):Int))) then((idxC a0.FKeys.l a1).bind fun x7=>some x7) else(some ([]:Bs))
theorem Z63_eq (a0:Z11) (a1:Int):Z63 a0 a1=Z63_q a0 a1:=by
 unfold Z63 Z63_q;refine Qs ?_;refine Q.condO ?_ ?_
 ·refine Q.bindO rfl fun x7=>?_;all_goals rfl
 all_goals rfl
def Z61_q (a0:Z11) (a1:Z11):Option Bool:=(Z60 a0 a1).bind fun x3=>some (decide (x3=(0:Int)))
theorem Z61_eq (a0:Z11) (a1:Z11):Z61 a0 a1=Z61_q a0 a1:=by
 unfold Z61 Z61_q;refine Qs ?_;refine Q.bindO rfl fun x3=>?_;all_goals rfl
def Z72_q11 (a1:(Sl TVar)):List TVar->Nat->Option (Unit ⊕ Bool)
 | [],s5_12=>some (Sum.inl ())
 | h11::r11,s5_12=>on (h11) fun x19=>(a1.l[s5_12]?).bind fun x20=>on (bif !(!(x19.FName==x20.FName)) then h11 else TVar.zero) fun x21=>guardO (!(!(x19.FName==x20.FName))) (a1.l[s5_12]?) TVar.zero fun x22=>on (bif !((!(x19.FName==x20.FName))||(!(x21.FHas==x22.FHas))) then h11 else TVar.zero) fun x23=>guardO (!((!(x19.FName==x20.FName))||(!(x21.FHas==x22.FHas)))) (a1.l[s5_12]?) TVar.zero fun x24=>guardO (!((!(x19.FName==x20.FName))||(!(x21.FHas==x22.FHas)))) (Z66_q x23.FType x24.FType) false fun x25=>on (bif !(((!(x19.FName==x20.FName))||(!(x21.FHas==x22.FHas)))||(!x25)) then h11 else TVar.zero) fun x26=>guardO (!(((!(x19.FName==x20.FName))||(!(x21.FHas==x22.FHas)))||(!x25))) (a1.l[s5_12]?) TVar.zero fun x27=>guardO (!(((!(x19.FName==x20.FName))||(!(x21.FHas==x22.FHas)))||(!x25))) (Z61_q x26.FDefault x27.FDefault) false fun x28=>bif ((((!(x19.FName==x20.FName))||(!(x21.FHas==x22.FHas)))||(!x25))||(!x28)) then(some (Sum.inr false)) else(Z72_q11 a1 (r11) (s5_12+1) )
theorem Z72_l11_qe {a0:(Sl TVar)}{a1:(Sl TVar)}  (Kb11:(Unit ⊕ Bool)->Option Bool) (hend:∀(n11:Nat) (s5_12:Nat),Z72_j8   =Kb11 (Sum.inl ())) (hret:∀e:Bool,some e=Kb11 (Sum.inr e)):∀(n11:Nat) (s5_12:Nat),(0<n11/\a0.l.length<s5_12+n11)->Z72_l11 a0 a1 n11 s5_12=Option.bind (Z72_q11 a1 (a0.l.drop s5_12) s5_12 ) Kb11:=by
 intro n11;induction n11 with
 | zero=>intro s5_12 hn; exact absurd hn.1 (by omega)
 | succ n11 ih11 =>
  intro s5_12 hn;rw [Z72_l11];by_cases hlt:s5_12<a0.l.length
  ·obtain⟨h11,hh11⟩:=Qa hlt;rw [Q.drop_of hh11,Z72_q11];refine QT hlt ?_;refine Q.bindPO hh11 fun x19 hx_x19=>?_;refine Q.bindO rfl fun x20=>?_;refine Q.guardPO hh11 fun x21 hx_x21=>?_;refine Q.guardOO rfl fun x22=>?_;refine Q.guardPO hh11 fun x23 hx_x23=>?_;refine Q.guardOO rfl fun x24=>?_;refine Q.guardOO (Z66_eq _ _) fun x25=>?_;refine Q.guardPO hh11 fun x26 hx_x26=>?_;refine Q.guardOO rfl fun x27=>?_
   refine Q.guardOO (Z61_eq _ _) fun x28=>?_;refine Q.condO ?_ ?_
   ·all_goals exact hret _
   all_goals exact ih11 _ ⟨by omega,by omega⟩
  rw [dL (by omega),Z72_q11];refine QF hlt ?_;exact hend n11 s5_12
def Z72_q (a0:(Sl TVar)) (a1:(Sl TVar)):Option Bool:=bif (!decide (((a0.l.length:Nat):Int)=((a1.l.length:Nat):Int))) then(some false) else(Option.bind (Z72_q11 a1 a0.l 0 ) fun o11=>match o11 with|Sum.inl _=>(on (()) fun _=>some true)|Sum.inr e11=>(some e11))
theorem Z72_eq (a0:(Sl TVar)) (a1:(Sl TVar)):Z72 a0 a1=Z72_q a0 a1:=by
 unfold Z72 Z72_q;refine Qs ?_;refine Q.condO ?_ ?_
 ·all_goals rfl
 refine Q.wrapOO fun Kb11 hKb11=>?_;refine Z72_l11_qe  Kb11 ?_ ?_ _ _ ⟨Nat.succ_pos _,by omega⟩
 ·intro n11 s5_12;refine Qe (hKb11 _) ?_;try dsimp only
  refine Q.wrapPO fun Kj8 hKj8=>?_;have hj8:Z72_j8  =Kj8 ():=by
   refine Qe (hKj8 _) ?_;unfold Z72_j8;all_goals rfl
  all_goals exact hj8
 intro e11;refine Qe (hKb11 _) ?_;try dsimp only
 all_goals rfl
def Z69_q11 (a1:(Sl TArg)):List TArg->Nat->Option (Unit ⊕ Bool)
 | [],s5_12=>some (Sum.inl ())
 | h11::r11,s5_12=>on (h11) fun x19=>(a1.l[s5_12]?).bind fun x20=>on (bif !(!(x19.FName==x20.FName)) then h11 else TArg.zero) fun x21=>guardO (!(!(x19.FName==x20.FName))) (a1.l[s5_12]?) TArg.zero fun x22=>guardO (!(!(x19.FName==x20.FName))) (Z61_q x21.FValue x22.FValue) false fun x23=>bif ((!(x19.FName==x20.FName))||(!x23)) then(some (Sum.inr false)) else(Z69_q11 a1 (r11) (s5_12+1) )
theorem Z69_l11_qe {a0:(Sl TArg)}{a1:(Sl TArg)}  (Kb11:(Unit ⊕ Bool)->Option Bool) (hend:∀(n11:Nat) (s5_12:Nat),Z69_j8   =Kb11 (Sum.inl ())) (hret:∀e:Bool,some e=Kb11 (Sum.inr e)):∀(n11:Nat) (s5_12:Nat),(0<n11/\a0.l.length<s5_12+n11)->Z69_l11 a0 a1 n11 s5_12=Option.bind (Z69_q11 a1 (a0.l.drop s5_12) s5_12 ) Kb11:=by
 intro n11;induction n11 with
 | zero=>intro s5_12 hn; exact absurd hn.1 (by omega)
 | succ n11 ih11 =>
  intro s5_12 hn;rw [Z69_l11];by_cases hlt:s5_12<a0.l.length
  ·obtain⟨h11,hh11⟩:=Qa hlt;rw [Q.drop_of hh11,Z69_q11];refine QT hlt ?_;refine Q.bindPO hh11 fun x19 hx_x19=>?_;refine Q.bindO rfl fun x20=>?_;refine Q.guardPO hh11 fun x21 hx_x21=>?_;refine Q.guardOO rfl fun x22=>?_;refine Q.guardOO (Z61_eq _ _) fun x23=>?_;refine Q.condO ?_ ?_
   ·all_goals exact hret _
   all_goals exact ih11 _ ⟨by omega,by omega⟩
  rw [dL (by omega),Z69_q11];refine QF hlt ?_;exact hend n11 s5_12
def Z69_q (a0:(Sl TArg)) (a1:(Sl TArg)):Option Bool:=bif (!decide (((a0.l.length:Nat):Int)=((a1.l.length:Nat):Int))) then(some false) else(Option.bind (Z69_q11 a1 a0.l 0 ) fun o11=>match o11 with|Sum.inl _=>(on (()) fun _=>some true)|Sum.inr e11=>(some e11))
theorem Z69_eq (a0:(Sl TArg)) (a1:(Sl TArg)):Z69 a0 a1=Z69_q a0 a1:=by
 unfold Z69 Z69_q;refine Qs ?_;refine Q.condO ?_ ?_
 ·all_goals rfl
 refine Q.wrapOO fun Kb11 hKb11=>?_;refine Z69_l11_qe  Kb11 ?_ ?_ _ _ ⟨Nat.succ_pos _,by omega⟩
 ·intro n11 s5_12;refine Qe (hKb11 _) ?_;try dsimp only
  refine Q.wrapPO fun Kj8 hKj8=>?_;have hj8:Z69_j8  =Kj8 ():=by
   refine Qe (hKj8 _) ?_;unfold Z69_j8;all_goals rfl
  all_goals exact hj8
 intro e11;refine Qe (hKb11 _) ?_;try dsimp only
 all_goals rfl
def Z70_q11 (a1:(Sl TDir)):List TDir->Nat->Option (Unit ⊕ Bool)
 | [],s5_12=>some (Sum.inl ())
 | h11::r11,s5_12=>on (h11) fun x19=>(a1.l[s5_12]?).bind fun x20=>on (bif !(!(x19.FName==x20.FName)) then h11 else TDir.zero) fun x21=>guardO (!(!(x19.FName==x20.FName))) (a1.l[s5_12]?) TDir.zero fun x22=>guardO (!(!(x19.FName==x20.FName))) (Z69_q x21.FArgs x22.FArgs) false fun x23=>bif ((!(x19.FName==x20.FName))||(!x23)) then(some (Sum.inr false)) else(Z70_q11 a1 (r11) (s5_12+1) )
theorem Z70_l11_qe {a0:(Sl TDir)}{a1:(Sl TDir)}  (Kb11:(Unit ⊕ Bool)->Option Bool) (hend:∀(n11:Nat) (s5_12:Nat),Z70_j8   =Kb11 (Sum.inl ())) (hret:∀e:Bool,some e=Kb11 (Sum.inr e)):∀(n11:Nat) (s5_12:Nat),(0<n11/\a0.l.length<s5_12+n11)->Z70_l11 a0 a1 n11 s5_12=Option.bind (Z70_q11 a1 (a0.l.drop s5_12) s5_12 ) Kb11:=by
 intro n11;induction n11 with
 | zero=>intro s5_12 hn; exact absurd hn.1 (by omega)
 | succ n11 ih11 =>
  intro s5_12 hn;rw [Z70_l11];by_cases hlt:s5_12<a0.l.length
  ·obtain⟨h11,hh11⟩:=Qa hlt;rw [Q.drop_of hh11,Z70_q11];refine QT hlt ?_;refine Q.bindPO hh11 fun x19 hx_x19=>?_;refine Q.bindO rfl fun x20=>?_;refine Q.guardPO hh11 fun x21 hx_x21=>?_;refine Q.guardOO rfl fun x22=>?_;refine Q.guardOO (Z69_eq _ _) fun x23=>?_;refine Q.condO ?_ ?_
   ·all_goals exact hret _
   all_goals exact ih11 _ ⟨by omega,by omega⟩
  rw [dL (by omega),Z70_q11];refine QF hlt ?_;exact hend n11 s5_12
def Z70_q (a0:(Sl TDir)) (a1:(Sl TDir)):Option Bool:=bif (!decide (((a0.l.length:Nat):Int)=((a1.l.length:Nat):Int))) then(some false) else(Option.bind (Z70_q11 a1 a0.l 0 ) fun o11=>match o11 with|Sum.inl _=>(on (()) fun _=>some true)|Sum.inr e11=>(some e11))
theorem Z70_eq (a0:(Sl TDir)) (a1:(Sl TDir)):Z70 a0 a1=Z70_q a0 a1:=by
 unfold Z70 Z70_q;refine Qs ?_;refine Q.condO ?_ ?_
 ·all_goals rfl
 refine Q.wrapOO fun Kb11 hKb11=>?_;refine Z70_l11_qe  Kb11 ?_ ?_ _ _ ⟨Nat.succ_pos _,by omega⟩
 ·intro n11 s5_12;refine Qe (hKb11 _) ?_;try dsimp only
  refine Q.wrapPO fun Kj8 hKj8=>?_;have hj8:Z70_j8  =Kj8 ():=by
   refine Qe (hKj8 _) ?_;unfold Z70_j8;all_goals rfl
  all_goals exact hj8
 intro e11;refine Qe (hKb11 _) ?_;try dsimp only
 all_goals rfl
def Z71_q11 (a1:(Sl TSel)) (k_rec_47:(Sl TSel)->(Sl TSel)->Option Bool):List TSel->Nat->Option (Unit ⊕ Bool)
 | [],s5_12=>some (Sum.inl ())
 | h11::r11,s5_12=>on (h11) fun x19=>(a1.l[s5_12]?).bind fun x20=>guardO (!((((!decide (x19.FKind=x20.FKind))||(!(x19.FAlias==x20.FAlias)))||(!(x19.FName==x20.FName)))||(!(x19.FOn==x20.FOn)))) (Z69_q x19.FArgs x20.FArgs) false fun x22=>guardO (!(((((!decide (x19.FKind=x20.FKind))||(!(x19.FAlias==x20.FAlias)))||(!(x19.FName==x20.FName)))||(!(x19.FOn==x20.FOn)))||(!x22))) (Z70_q x19.FDirs x20.FDirs) false fun x23=>guardO (!((((((!decide (x19.FKind=x20.FKind))||(!(x19.FAlias==x20.FAlias)))||(!(x19.FName==x20.FName)))||(!(x19.FOn==x20.FOn)))||(!x22))||(!x23))) (k_rec_47 x19.FSels x20.FSels) false fun x24=>bif (((((((!decide (x19.FKind=x20.FKind))||(!(x19.FAlias==x20.FAlias)))||(!(x19.FName==x20.FName)))||(!(x19.FOn==x20.FOn)))||(!x22))||(!x23))||(!x24)) then(some (Sum.inr false)) else(Z71_q11 a1 k_rec_47 (r11) (s5_12+1) )
theorem Z71_l11_qe {a0:(Sl TSel)}{a1:(Sl TSel)}{k_rec_47:(Sl TSel)->(Sl TSel)->Option Bool}  (Kb11:(Unit ⊕ Bool)->Option Bool) (hend:∀(n11:Nat) (s5_12:Nat),Z71_j8   =Kb11 (Sum.inl ())) (hret:∀e:Bool,some e=Kb11 (Sum.inr e)):∀(n11:Nat) (s5_12:Nat),(0<n11/\a0.l.length<s5_12+n11)->Z71_l11 a0 a1 k_rec_47 n11 s5_12=Option.bind (Z71_q11 a1 k_rec_47 (a0.l.drop s5_12) s5_12 ) Kb11:=by
 intro n11;induction n11 with
 | zero=>intro s5_12 hn; exact absurd hn.1 (by omega)
 | succ n11 ih11 =>
  intro s5_12 hn;rw [Z71_l11];by_cases hlt:s5_12<a0.l.length
  ·obtain⟨h11,hh11⟩:=Qa hlt;rw [Q.drop_of hh11,Z71_q11];refine QT hlt ?_;refine Q.bindPO hh11 fun x19 hx_x19=>?_;refine Q.bindO rfl fun x20=>?_;refine Q.guardOO (Z69_eq _ _) fun x22=>?_;refine Q.guardOO (Z70_eq _ _) fun x23=>?_;refine Q.guardOO rfl fun x24=>?_;refine Q.condO ?_ ?_
   ·all_goals exact hret _
   all_goals exact ih11 _ ⟨by omega,by omega⟩
  rw [dL (by omega),Z71_q11];refine QF hlt ?_;exact hend n11 s5_12
def Z71_qn:Nat->(Sl TSel)->(Sl TSel)->Option Bool
 | 0,_,_=>none
 | n+1,a0,a1=>bif (!decide (((a0.l.length:Nat):Int)=((a1.l.length:Nat):Int))) then(some false) else(Option.bind (Z71_q11 a1 (Z71_qn n) a0.l 0 ) fun o11=>match o11 with|Sum.inl _=>(on (()) fun _=>some true)|Sum.inr e11=>(some e11))
theorem Z71_qall:∀n:Nat,Z71_n n=Z71_qn n:=by
 intro n;induction n with
 | zero=>exact(by funext a0 a1; first|rfl|(rw [Z71_n,Z71_qn]))
 | succ n ih =>
  funext a0 a1
  refine Qs ?_;rw [Z71_n,Z71_qn];try rw [ih]
  refine Q.condO ?_ ?_
  ·all_goals rfl
  refine Q.wrapOO fun Kb11 hKb11=>?_;refine Z71_l11_qe  Kb11 ?_ ?_ _ _ ⟨Nat.succ_pos _,by omega⟩
  ·intro n11 s5_12;refine Qe (hKb11 _) ?_;try dsimp only
   refine Q.wrapPO fun Kj8 hKj8=>?_;have hj8:Z71_j8  =Kj8 ():=by
    refine Qe (hKj8 _) ?_;unfold Z71_j8;all_goals rfl
   all_goals exact hj8
  intro e11;refine Qe (hKb11 _) ?_;try dsimp only
  all_goals rfl
def Z71_q (a0:(Sl TSel)) (a1:(Sl TSel)):Option Bool:=Z71_qn F0 a0 a1
theorem Z71_eq (a0:(Sl TSel)) (a1:(Sl TSel)):Z71 a0 a1=Z71_q a0 a1:=by
 unfold Z71 Z71_q; rw [(Z71_qall F0)]
end Go.Proofs
