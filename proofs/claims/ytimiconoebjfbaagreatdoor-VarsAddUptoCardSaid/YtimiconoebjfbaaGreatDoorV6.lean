import Derived.Test.YtimiconoebjfbaaGreatDoorV5
set_option maxRecDepth 100000
set_option maxHeartbeats 2000000
set_option linter.unusedVariables false
set_option linter.unusedSimpArgs false
namespace Go.Proofs
open Go Go.Ab
open AOps Cert AWp Keeps KeepsT
variable {lou:Lou}
def vars_checker_sels_j9 (s13_4:Nat) (k_next_3:Nat->Z8->Option Z8) (y10_c0:Z8):Option Z8:=k_next_3 (s13_4+1) y10_c0
def vars_checker_sels_j22 (a3:Bs) (s13_4:Nat) (x12:TSel) (x20:Z8) (k_next_3:Nat->Z8->Option Z8) (k_rec_18:Z8->(Sl TSel)->Bs->Bs->Option Z8) (s10_23:Bs):Option Z8:=(k_rec_18 x20 x12.FSels s10_23 a3).bind fun x24=>vars_checker_sels_j9 s13_4 k_next_3 x24
def vars_checker_sels_l3 (a1:(Sl TSel)) (a2:Bs) (a3:Bs) (k_rec_18:Z8->(Sl TSel)->Bs->Bs->Option Z8) (k_rec_52:Z8->TSel->Bs->Bs->Option Z8):Nat->Nat->Z8->Option Z8
 | 0,_,_=>none
 | n3+1,s13_4,y5_c0=>bif (decide (((s13_4:Nat):Int)<((a1.l.length:Nat):Int))) then((a1.l[s13_4]?).bind fun x12=>bif (decide (x12.FKind=(2:Int))) then((Z145 y5_c0 x12.FDirs a3).bind fun x16=>vars_checker_sels_j9 s13_4 ((vars_checker_sels_l3 a1 a2 a3 k_rec_18 k_rec_52 n3)) x16) else(bif (decide (x12.FKind=(3:Int))) then((Z145 y5_c0 x12.FDirs a3).bind fun x20=>bif (!(x12.FOn==([]:Bs))) then(vars_checker_sels_j22 a3 s13_4 x12 x20 ((vars_checker_sels_l3 a1 a2 a3 k_rec_18 k_rec_52 n3)) k_rec_18 x12.FOn) else(vars_checker_sels_j22 a3 s13_4 x12 x20 ((vars_checker_sels_l3 a1 a2 a3 k_rec_18 k_rec_52 n3)) k_rec_18 a2)) else((k_rec_52 y5_c0 x12 a2 a3).bind fun x27=>vars_checker_sels_j9 s13_4 ((vars_checker_sels_l3 a1 a2 a3 k_rec_18 k_rec_52 n3)) x27))) else(some y5_c0)
def Z146_j11 (a1:TSel) (x7:Bs) (y10_l0:Z2) (k_rec_18:Z8->(Sl TSel)->Bs->Bs->Option Z8) (y12_c0:Z8):Option Z8:=(Z145 y12_c0 a1.FDirs x7).bind fun x14=>(k_rec_18 x14 a1.FSels y10_l0.FType.FName x7).bind fun x15=>some x15
def Z146_l18 (a1:TSel) (x7:Bs) (y10_l0:Z2) (k_rec_18:Z8->(Sl TSel)->Bs->Bs->Option Z8):Nat->Nat->Z8->Option Z8
 | 0,_,_=>none
 | n18+1,s54_19,y20_c0=>bif (decide (((s54_19:Nat):Int)<((a1.FArgs.l.length:Nat):Int))) then((a1.FArgs.l[s54_19]?).bind fun x26=>(Z106 y10_l0.FArgs x26.FName).bind fun x28=>(Z147 y20_c0 x26.FValue x28.1.FType x28.2 x7).bind fun x29=>(Z146_l18 a1 x7 y10_l0 k_rec_18 n18) (s54_19+1) x29) else(Z146_j11 a1 x7 y10_l0 k_rec_18 y20_c0)
def Z146_j9 (a0:Z8) (a1:TSel) (x7:Bs) (k_rec_18:Z8->(Sl TSel)->Bs->Bs->Option Z8) (y10_l0:Z2):Option Z8:=Z146_l18 a1 x7 y10_l0 k_rec_18 (a1.FArgs.l.length+1) 0 a0
def Z146_j3 (a0:Z8) (a1:TSel) (a2:Bs) (a3:Bs) (k_rec_18:Z8->(Sl TSel)->Bs->Bs->Option Z8) (s8_4:Bs):Option Z8:=(catC ([47]:Bs) s8_4).bind fun x6=>(catC a3 x6).bind fun x7=>(Z105 a0.Fd a2).bind fun x31=>guardO (x31.2) (Z103 a0.Fd a2) false fun x33=>bif (x31.2&&x33) then((Z104 x31.1 a1.FName).bind fun x35=>Z146_j9 a0 a1 x7 k_rec_18 x35.1) else(Z146_j9 a0 a1 x7 k_rec_18 Z2.zero)
mutual
def vars_checker_sels_n:Nat->Z8->(Sl TSel)->Bs->Bs->Option Z8
 | 0,_,_,_,_=>none
 | n+1,a0,a1,a2,a3=>vars_checker_sels_l3 a1 a2 a3 (vars_checker_sels_n n) (Z146_n n) (a1.l.length+1) 0 a0
def Z146_n:Nat->Z8->TSel->Bs->Bs->Option Z8
 | 0,_,_,_,_=>none
 | n+1,a0,a1,a2,a3=>bif ((a1.FAlias==([]:Bs))) then(Z146_j3 a0 a1 a2 a3 (vars_checker_sels_n n) a1.FName) else(Z146_j3 a0 a1 a2 a3 (vars_checker_sels_n n) a1.FAlias)
end
theorem vars_checker_sels_step (n:Nat) (ih_18:∀{a0:Z8}{a1:Sl TSel}{a2 a3:Bs}{w1:Option Nat}{c0 c0_2:Nat}{r:Z8},vars_checker_sels_n n a0 a1 a2 a3=some r->∀(H:Heap) (hc0:H c0=some (.cells (Z8.cg (some c0_2) a0))) (ht0_2:H c0_2=some (.tok 2 a0.Fout.l.length)),ACalls Tryz.prog 18 [.d (.ptr c0 0),.d (Sl.d 7 TSel.c w1 a1),.d (.str a2),.d (.str a3)] H fun v h'=>v=.tup []/\h'=((H.set c0_2 (some (.tok 2 r.Fout.l.length))).set c0 (some (.cells (Z8.cg (some c0_2) r))))) (ih_52:∀{a0:Z8}{a1:TSel}{a2 a3:Bs}{c0 c0_2:Nat}{r:Z8},Z146_n n a0 a1 a2 a3=some r->∀(H:Heap) (hc0:H c0=some (.cells (Z8.cg (some c0_2) a0))) (ht0_2:H c0_2=some (.tok 2 a0.Fout.l.length)),ACalls Tryz.prog 52 [.d (.ptr c0 0),.agg (TSel.c a1),.d (.str a2),.d (.str a3)] H fun v h'=>v=.tup []/\h'=((H.set c0_2 (some (.tok 2 r.Fout.l.length))).set c0 (some (.cells (Z8.cg (some c0_2) r))))):∀{a0:Z8}{a1:Sl TSel}{a2 a3:Bs}{w1:Option Nat}{c0 c0_2:Nat}{r:Z8},vars_checker_sels_n (n+1) a0 a1 a2 a3=some r->∀(H:Heap) (hc0:H c0=some (.cells (Z8.cg (some c0_2) a0))) (ht0_2:H c0_2=some (.tok 2 a0.Fout.l.length)),ACalls Tryz.prog 18 [.d (.ptr c0 0),.d (Sl.d 7 TSel.c w1 a1),.d (.str a2),.d (.str a3)] H fun v h'=>v=.tup []/\h'=((H.set c0_2 (some (.tok 2 r.Fout.l.length))).set c0 (some (.cells (Z8.cg (some c0_2) r)))):=by
 intro a0 a1 a2 a3 w1 c0 c0_2 r hE H hc0 ht0_2;rw [vars_checker_sels_n] at hE;refine ACalls.oW 51 [] Tryz.call18 Tryz.func18 ?_;have ne_c0_c0_2:c0≠c0_2:=fun e_=>by subst e_; simp_all
 refine AWp.heqA (h':=((H.set c0_2 (some (.tok 2 a0.Fout.l.length))).set c0 (some (.cells (Z8.cg (some c0_2) a0))))) (by funext n_; simp only [Heap.set]; (repeat' split)<;>simp_all) ?_;refine seqR (S Mv ?_);refine sLen (f:=TSel.c) (s:=a1) (TK rfl) rfl rfl rfl rfl fun hL2=>?_;refine S Mv (nil ?_);refine block ?_;refine loopH (TA 0 (TA 2 (TA 3 (TA 11 (TA 12 KeepsT.nil))))) (fun(z:Nat×Nat×Z8)=>[(13,.a (.d (.int .i64 ((z.2.1:Nat):Int))))]) (fun z=>((H.set c0_2 (some (.tok 2 z.2.2.Fout.l.length))).set c0 (some (.cells (Z8.cg (some c0_2) z.2.2))))) (fun z=>z.1) (fun z=>vars_checker_sels_l3 a1 a2 a3 (vars_checker_sels_n n) (Z146_n n) z.1 z.2.1 z.2.2=some r) ((a1.l.length+1),0,a0) hE Weak.toA ?_
 rintro ⟨n3,s13_4,y5_c0⟩ hE K3 hK3;try dsimp only at hE
 cases n3 with
 | zero=>cases hE
 | succ n3 =>
   rw [vars_checker_sels_l3] at hE;refine seqR (S BI (nil ?_));refine seqK fun K7 hK7=>?_;refine cE hE (fun hc8 hE=>?_) (fun hc8 hE=>?_)
   ·try dsimp only at hc8
    have hf8:=of_decide_eq_true hc8;refine sk hK7 ?_;clear hK7 K7;refine seqJH (TA 0 (TA 2 (TA 3 (TA 11 (TA 12 (TA 13 KeepsT.nil)))))) (fun(z:Z8)=>[]) (fun z=>((H.set c0_2 (some (.tok 2 z.Fout.l.length))).set c0 (some (.cells (Z8.cg (some c0_2) z))))) (fun z=>vars_checker_sels_j9 s13_4 ((vars_checker_sels_l3 a1 a2 a3 (vars_checker_sels_n n) (Z146_n n) n3)) z=some r) ?_ ?_
    ·intro K9 hK9;refine block ?_;refine seqR ?_;obtain⟨x12,gx12,hE⟩:=bO hE;refine S (ix TSel.c s13_4 gx12) (S Ld ?_);refine Sl ?_;refine Sf ?_;refine nil ?_;refine freezeA 9 _ rfl (KA 0 (KA 2 (KA 3 (KA 11 (KA 12 (KA 13 Keeps.nil)))))) ?_;refine seqR (S Fv (S Ld (nil ?_)));refine block ?_;refine seqR (S BI (S As (nil ?_)));refine cE hE (fun hc15 hE=>?_) (fun hc15 hE=>?_)
     ·refine region ?_;refine S Mv (S Fv (S Ld (S Mv ?_)));obtain⟨x16,gx16,hE⟩:=bO hE;refine sH (callH rfl rfl (Z145_walk gx16 _ hpG hpG)) rfl ?_;refine hq ((H.set c0_2 (some (.tok 2 x16.Fout.l.length))).set c0 (some (.cells (Z8.cg (some c0_2) x16)))) ?_;refine nil ?_;exact hK9 _ x16 Weak.toA hE
     refine seqR (S BI (S As (nil ?_)));refine cE hE (fun hc18 hE=>?_) (fun hc18 hE=>?_)
     ·refine seqR (S Mv (S Fv (S Ld (S Mv ?_))));obtain⟨x20,gx20,hE⟩:=bO hE;refine sH (callH rfl rfl (Z145_walk gx20 _ hpG hpG)) rfl ?_;refine hq ((H.set c0_2 (some (.tok 2 x20.Fout.l.length))).set c0 (some (.cells (Z8.cg (some c0_2) x20)))) ?_;refine nil ?_;refine seqR (S Mv (S As (nil ?_)));refine seqJH (TA 0 (TA 2 (TA 3 (TA 9 (TA 11 (TA 12 (TA 13 KeepsT.nil))))))) (fun(z:Bs)=>[(10,.a (.d (.str z)))]) (fun z=>((H.set c0_2 (some (.tok 2 x20.Fout.l.length))).set c0 (some (.cells (Z8.cg (some c0_2) x20))))) (fun z=>vars_checker_sels_j22 a3 s13_4 x12 x20 ((vars_checker_sels_l3 a1 a2 a3 (vars_checker_sels_n n) (Z146_n n) n3)) (vars_checker_sels_n n) z=some r) ?_ ?_
      ·intro K22 hK22;refine seqR (S Fv (S Ld (S BS (nil ?_))));refine cE hE (fun hc26 hE=>?_) (fun hc26 hE=>?_)
       ·refine region ?_;refine S Fv (S Ld (S As (nil ?_)));exact hK22 _ x12.FOn Weak.toA hE
       refine AWp.skip ?_;exact hK22 _ a2 Weak.toA hE
      rintro s10_23 hE;try dsimp only at hE
      unfold vars_checker_sels_j22 at hE;refine region ?_;refine S Mv (S Fv ?_);refine s0 (loadV (TK rfl) rfl rfl (congrArg (fun x=>some (A.d x)) (TSel.FSelsD_eq _))) rfl ?_;refine S Mv (S Mv ?_);obtain⟨x24,gx24,hE⟩:=bO hE;refine sH (callH rfl rfl (ih_18 gx24 _ hpG hpG)) rfl ?_;refine hq ((H.set c0_2 (some (.tok 2 x24.Fout.l.length))).set c0 (some (.cells (Z8.cg (some c0_2) x24)))) ?_;refine nil ?_
      exact hK9 _ x24 Weak.toA hE
     refine region ?_;refine S Mv (S Ld (S Mv (S Mv ?_)));obtain⟨x27,gx27,hE⟩:=bO hE;refine sH (callH rfl rfl (ih_52 gx27 _ hpG hpG)) rfl ?_;refine hq ((H.set c0_2 (some (.tok 2 x27.Fout.l.length))).set c0 (some (.cells (Z8.cg (some c0_2) x27)))) ?_;refine nil ?_;exact hK9 _ x27 Weak.toA hE
    rintro y10_c0 hE;try dsimp only at hE
    unfold vars_checker_sels_j9 at hE;refine region ?_;refine SI ?_;refine S Mv (nil ?_);exact hK3 _ (n3,(s13_4+1),y10_c0) Weak.toA hE (Nat.lt_succ_self _)
   refine AWp.exit ?_;repeat (first|refine xBlock_normal ?_|refine xThen_exit ?_|refine xBlock_exit ?_)
   obtain rfl:=Option.some.inj hE;refine retQ.normalF ((H.set c0_2 (some (.tok 2 y5_c0.Fout.l.length))).set c0 (some (.cells (Z8.cg (some c0_2) y5_c0)))) (xs:=[]) rfl ⟨rfl,rfl⟩ ?_;exact(fun _ _ h=>h)
theorem Z146_step (n:Nat) (ih_18:∀{a0:Z8}{a1:Sl TSel}{a2 a3:Bs}{w1:Option Nat}{c0 c0_2:Nat}{r:Z8},vars_checker_sels_n n a0 a1 a2 a3=some r->∀(H:Heap) (hc0:H c0=some (.cells (Z8.cg (some c0_2) a0))) (ht0_2:H c0_2=some (.tok 2 a0.Fout.l.length)),ACalls Tryz.prog 18 [.d (.ptr c0 0),.d (Sl.d 7 TSel.c w1 a1),.d (.str a2),.d (.str a3)] H fun v h'=>v=.tup []/\h'=((H.set c0_2 (some (.tok 2 r.Fout.l.length))).set c0 (some (.cells (Z8.cg (some c0_2) r))))) (ih_52:∀{a0:Z8}{a1:TSel}{a2 a3:Bs}{c0 c0_2:Nat}{r:Z8},Z146_n n a0 a1 a2 a3=some r->∀(H:Heap) (hc0:H c0=some (.cells (Z8.cg (some c0_2) a0))) (ht0_2:H c0_2=some (.tok 2 a0.Fout.l.length)),ACalls Tryz.prog 52 [.d (.ptr c0 0),.agg (TSel.c a1),.d (.str a2),.d (.str a3)] H fun v h'=>v=.tup []/\h'=((H.set c0_2 (some (.tok 2 r.Fout.l.length))).set c0 (some (.cells (Z8.cg (some c0_2) r))))):∀{a0:Z8}{a1:TSel}{a2 a3:Bs}{c0 c0_2:Nat}{r:Z8},Z146_n (n+1) a0 a1 a2 a3=some r->∀(H:Heap) (hc0:H c0=some (.cells (Z8.cg (some c0_2) a0))) (ht0_2:H c0_2=some (.tok 2 a0.Fout.l.length)),ACalls Tryz.prog 52 [.d (.ptr c0 0),.agg (TSel.c a1),.d (.str a2),.d (.str a3)] H fun v h'=>v=.tup []/\h'=((H.set c0_2 (some (.tok 2 r.Fout.l.length))).set c0 (some (.cells (Z8.cg (some c0_2) r)))):=by
 intro a0 a1 a2 a3  c0 c0_2 r hE H hc0 ht0_2;rw [Z146_n] at hE;refine ACalls.oW 88 [] Tryz.call52 Tryz.func52 ?_;have ne_c0_c0_2:c0≠c0_2:=fun e_=>by subst e_; simp_all
 refine AWp.heqA (h':=((H.set c0_2 (some (.tok 2 a0.Fout.l.length))).set c0 (some (.cells (Z8.cg (some c0_2) a0))))) (by funext n_; simp only [Heap.set]; (repeat' split)<;>simp_all) ?_;refine seqR (S BX (nil ?_));refine seqR (S Fv (S Ld (S As (nil ?_))));refine seqJH (TA 0 (TA 2 (TA 3 (TA 5 KeepsT.nil)))) (fun(z:Bs)=>[(8,.a (.d (.str z)))]) (fun z=>((H.set c0_2 (some (.tok 2 a0.Fout.l.length))).set c0 (some (.cells (Z8.cg (some c0_2) a0))))) (fun z=>Z146_j3 a0 a1 a2 a3 (vars_checker_sels_n n) z=some r) ?_ ?_
 ·intro K3 hK3;refine seqR (S Mv (S BS (nil ?_)));refine cE hE (fun hc37 hE=>?_) (fun hc37 hE=>?_)
  ·refine region ?_;refine S Fv (S Ld (S As (nil ?_)));exact hK3 _ a1.FName Weak.toA hE
  refine AWp.skip ?_;exact hK3 _ a1.FAlias Weak.toA hE
 rintro s8_4 hE;try dsimp only at hE
 unfold Z146_j3 at hE;refine seqR (S Mv (S Mv ?_));obtain⟨x6,gx6,hE⟩:=bO hE;refine s0 (catM rfl rfl gx6) rfl ?_;obtain⟨x7,gx7,hE⟩:=bO hE;refine s0 (catM rfl rfl gx7) rfl ?_;refine S As (nil ?_);refine seqR ?_;refine Sl ?_;refine nil ?_;refine seqJ (TA 0 (TA 3 (TA 5 (TA 9 KeepsT.nil)))) (fun(z:Z2)=>[]) (fun z=>[Z2.c z]) (fun z=>((H.set c0_2 (some (.tok 2 a0.Fout.l.length))).set c0 (some (.cells (Z8.cg (some c0_2) a0))))) (fun z=>Z146_j9 a0 a1 x7 (vars_checker_sels_n n) z=some r) ?_ ?_
 ·intro K9 hK9;refine seqR (S Mv (S NP ?_));refine s0 (fieldP (TK rfl) rfl rfl (TK rfl) rfl rfl) rfl ?_;refine s0 (loadP (TK rfl) rfl rfl hpG rfl) rfl ?_;refine S Mv ?_;obtain⟨x31,gx31,hE⟩:=bO hE;refine Sc rfl rfl (Z105_walk gx31) ?_;refine S Mv (S EX (S EX ?_));refine Sl ?_;refine Sf ?_;refine S As (nil ?_);refine freezeA 10 _ rfl (KA 0 (KA 2 (KA 3 (KA 5 (KA 9 (KA 11 Keeps.nil)))))) ?_;refine seqR (S Mv (S Mv (G0 Mv ?_)))
  refine G1 37 rfl NP ?_;refine gC rfl rfl (fun hC=>ungdA (k:=38) rfl (fieldP (TK rfl) rfl rfl (TK rfl) rfl rfl)) rfl ?_;refine gC rfl rfl (fun hC=>ungdA (k:=39) rfl (loadP (TK rfl) rfl rfl hpG rfl)) rfl ?_;refine G0 Mv ?_;obtain⟨x33,gx33,hE⟩:=gO hE;refine Gc2 40 41 rfl rfl rfl rfl rfl rfl (fun hC=>Z103_walk (gx33 hC)) ?_;refine S PA (nil ?_);refine cE hE (fun hc34 hE=>?_) (fun hc34 hE=>?_)
  ·refine region ?_;refine S Ld (S Fv (S Ld ?_));obtain⟨x35,gx35,hE⟩:=bO hE;refine Sc rfl rfl (Z104_walk gx35) ?_;refine S Mv (S EX (S EX ?_));refine Sf ?_;refine nil ?_;exact hK9 _ x35.1 Weak.toA hE
  refine AWp.skip ?_;exact hK9 _ Z2.zero Weak.toA hE
 rintro y10_l0 hE;try dsimp only at hE
 unfold Z146_j9 at hE;refine seqJH (TA 0 (TA 3 (TA 5 (TA 9 KeepsT.nil)))) (fun(z:Z8)=>[]) (fun z=>((H.set c0_2 (some (.tok 2 z.Fout.l.length))).set c0 (some (.cells (Z8.cg (some c0_2) z))))) (fun z=>Z146_j11 a1 x7 y10_l0 (vars_checker_sels_n n) z=some r) ?_ ?_
 ·intro K11 hK11;refine seqR (S Fv (S Ld ?_));refine sLen (f:=TArg.c) (s:=a1.FArgs) (TK rfl) rfl rfl rfl rfl fun hL17=>?_;refine S Mv (nil ?_);refine block ?_;refine loopH (TA 0 (TA 3 (TA 5 (TA 9 (TA 52 (TA 53 KeepsT.nil)))))) (fun(z:Nat×Nat×Z8)=>[(54,.a (.d (.int .i64 ((z.2.1:Nat):Int))))]) (fun z=>((H.set c0_2 (some (.tok 2 z.2.2.Fout.l.length))).set c0 (some (.cells (Z8.cg (some c0_2) z.2.2))))) (fun z=>z.1) (fun z=>Z146_l18 a1 x7 y10_l0 (vars_checker_sels_n n) z.1 z.2.1 z.2.2=some r) ((a1.FArgs.l.length+1),0,a0) hE Weak.toA ?_
  rintro ⟨n18,s54_19,y20_c0⟩ hE K18 hK18;try dsimp only at hE
  cases n18 with
  | zero=>cases hE
  | succ n18 =>
    rw [Z146_l18] at hE;refine seqR (S BI (nil ?_));refine seqK fun K22 hK22=>?_;refine cE hE (fun hc23 hE=>?_) (fun hc23 hE=>?_)
    ·try dsimp only at hc23
     have hf23:=of_decide_eq_true hc23;refine sk hK22 ?_;clear hK22 K22;refine seqK fun K24 hK24=>?_;refine block ?_;refine seqR ?_;obtain⟨x26,gx26,hE⟩:=bO hE;refine S (ix TArg.c s54_19 gx26) (S Ld ?_);refine Sl ?_;refine Sf ?_;refine nil ?_;refine freezeA 13 _ rfl (KA 0 (KA 3 (KA 5 (KA 9 (KA 52 (KA 53 (KA 54 Keeps.nil))))))) ?_;refine seqR (S FL (S LL (S Fv (S Ld ?_))));obtain⟨x28,gx28,hE⟩:=bO hE
     refine Sc rfl rfl (Z106_walk gx28) ?_;refine S Mv (S EX (S EX ?_));refine Sl ?_;refine Sf ?_;refine S As (nil ?_);refine freezeA 14 _ rfl (KA 0 (KA 3 (KA 5 (KA 9 (KA 13 (KA 15 (KA 52 (KA 53 (KA 54 Keeps.nil))))))))) ?_;refine region ?_;refine S Mv (S Fv (S Ld (S Fv (S Ld (S Mv (S Mv ?_))))));obtain⟨x29,gx29,hE⟩:=bO hE;refine sH (callH rfl rfl (Z147_walk gx29 _ hpG hpG)) rfl ?_;refine hq ((H.set c0_2 (some (.tok 2 x29.Fout.l.length))).set c0 (some (.cells (Z8.cg (some c0_2) x29)))) ?_
     refine nil ?_;refine hK24 _ ?_;clear hK24 K24;refine region ?_;refine SI ?_;refine S Mv (nil ?_);exact hK18 _ (n18,(s54_19+1),x29) Weak.toA hE (Nat.lt_succ_self _)
    refine AWp.exit ?_;exact hK11 _ y20_c0 Weak.toA hE
 rintro y12_c0 hE;try dsimp only at hE
 unfold Z146_j11 at hE;refine seqR (S Mv (S Fv (S Ld (S Mv ?_))));obtain⟨x14,gx14,hE⟩:=bO hE;refine sH (callH rfl rfl (Z145_walk gx14 _ hpG hpG)) rfl ?_;refine hq ((H.set c0_2 (some (.tok 2 x14.Fout.l.length))).set c0 (some (.cells (Z8.cg (some c0_2) x14)))) ?_;refine nil ?_;refine region ?_;refine S Mv (S Fv ?_);refine s0 (loadV (TK rfl) rfl rfl (congrArg (fun x=>some (A.d x)) (TSel.FSelsD_eq _))) rfl ?_
 refine S FL (S FL (S LL (S Mv ?_)));obtain⟨x15,gx15,hE⟩:=bO hE;refine sH (callH rfl rfl (ih_18 gx15 _ hpG hpG)) rfl ?_;refine hq ((H.set c0_2 (some (.tok 2 x15.Fout.l.length))).set c0 (some (.cells (Z8.cg (some c0_2) x15)))) ?_;refine nil ?_;repeat (first|refine xBlock_normal ?_|refine xThen_exit ?_|refine xBlock_exit ?_)
 obtain rfl:=Option.some.inj hE;refine retQ.normalF ((H.set c0_2 (some (.tok 2 x15.Fout.l.length))).set c0 (some (.cells (Z8.cg (some c0_2) x15)))) (xs:=[]) rfl ⟨rfl,rfl⟩ ?_;exact(fun _ _ h=>h)
theorem vars_checker_sels_all:∀(n:Nat),(∀{a0:Z8}{a1:Sl TSel}{a2 a3:Bs}{w1:Option Nat}{c0 c0_2:Nat}{r:Z8},vars_checker_sels_n n a0 a1 a2 a3=some r->∀(H:Heap) (hc0:H c0=some (.cells (Z8.cg (some c0_2) a0))) (ht0_2:H c0_2=some (.tok 2 a0.Fout.l.length)),ACalls Tryz.prog 18 [.d (.ptr c0 0),.d (Sl.d 7 TSel.c w1 a1),.d (.str a2),.d (.str a3)] H fun v h'=>v=.tup []/\h'=((H.set c0_2 (some (.tok 2 r.Fout.l.length))).set c0 (some (.cells (Z8.cg (some c0_2) r)))))/\(∀{a0:Z8}{a1:TSel}{a2 a3:Bs}{c0 c0_2:Nat}{r:Z8},Z146_n n a0 a1 a2 a3=some r->∀(H:Heap) (hc0:H c0=some (.cells (Z8.cg (some c0_2) a0))) (ht0_2:H c0_2=some (.tok 2 a0.Fout.l.length)),ACalls Tryz.prog 52 [.d (.ptr c0 0),.agg (TSel.c a1),.d (.str a2),.d (.str a3)] H fun v h'=>v=.tup []/\h'=((H.set c0_2 (some (.tok 2 r.Fout.l.length))).set c0 (some (.cells (Z8.cg (some c0_2) r)))))
 | 0=>⟨fun hE=>by first|cases hE|(rw [vars_checker_sels_n] at hE; cases hE),fun hE=>by first|cases hE|(rw [Z146_n] at hE; cases hE)⟩
 | n+1=>⟨vars_checker_sels_step n (vars_checker_sels_all n).1 (vars_checker_sels_all n).2,Z146_step n (vars_checker_sels_all n).1 (vars_checker_sels_all n).2⟩
def vars_checker_sels (a0:Z8) (a1:(Sl TSel)) (a2:Bs) (a3:Bs):Option Z8:=vars_checker_sels_n F0 a0 a1 a2 a3
theorem vars_checker_sels_walk {a0:Z8}{a1:Sl TSel}{a2 a3:Bs}{w1:Option Nat}{c0 c0_2:Nat}{r:Z8}(hE:vars_checker_sels a0 a1 a2 a3=some r) (H:Heap) (hc0:H c0=some (.cells (Z8.cg (some c0_2) a0))) (ht0_2:H c0_2=some (.tok 2 a0.Fout.l.length)):ACalls Tryz.prog 18 [.d (.ptr c0 0),.d (Sl.d 7 TSel.c w1 a1),.d (.str a2),.d (.str a3)] H fun v h'=>v=.tup []/\h'=((H.set c0_2 (some (.tok 2 r.Fout.l.length))).set c0 (some (.cells (Z8.cg (some c0_2) r)))):=(vars_checker_sels_all F0).1 hE H hc0 ht0_2
def Z109 (a0:Int):Option Bs:=bif (decide (a0=(1:Int))) then(some ([81,117,101,114,121]:Bs)) else(bif (decide (a0=(2:Int))) then(some ([77,117,116,97,116,105,111,110]:Bs)) else(bif (decide (a0=(3:Int))) then(some ([83,117,98,115,99,114,105,112,116,105,111,110]:Bs)) else(some ([]:Bs))))
theorem Z109_walk {a0:Int}{r:Bs}(hE:Z109 a0=some r) (H:Heap) :ACalls Tryz.prog 19 [.d (.int .i64 a0)] H fun v h'=>v=.a (.d (.str r))/\h'=H:=by
 unfold Z109 at hE;refine ACalls.oW 10 [.tmp 2] Tryz.call19 Tryz.func19 ?_;refine seqR (S As (nil ?_));refine seqK fun K2 hK2=>?_;refine seqR (S Mv (nil ?_));refine block ?_;refine seqR (S BI (S As (nil ?_)));refine cE hE (fun hc5 hE=>?_) (fun hc5 hE=>?_)
 ·refine seqR (S As (nil ?_));exact rt hE
 refine seqR (S BI (S As (nil ?_)));refine cE hE (fun hc8 hE=>?_) (fun hc8 hE=>?_)
 ·refine seqR (S As (nil ?_));exact rt hE
 refine seqR (S BI (S As (nil ?_)));refine cE hE (fun hc11 hE=>?_) (fun hc11 hE=>?_)
 ·refine seqR (S As (nil ?_));exact rt hE
 refine sk hK2 ?_;clear hK2 K2;refine seqR (S As (nil ?_));exact rt hE
def Z21_j3  (s2_4:(Sl Bs)) (s8_5:Bool):Option ((Sl Bs)×Bool):=some (s2_4,s8_5)
def Z21_j16 (s17_12:Nat) (k_next_9:(Sl Bs)->Bool->Nat->Option ((Sl Bs)×Bool)) (s2_17:(Sl Bs)) (s8_18:Bool):Option ((Sl Bs)×Bool):=k_next_9 s2_17 s8_18 (s17_12+1)
def Z21_j22 (a0:Z6) (s17_12:Nat) (k_next_9:(Sl Bs)->Bool->Nat->Option ((Sl Bs)×Bool)) (k_rec_53:Z6->(Sl TSel)->(Sl Bs)->Option ((Sl Bs)×Bool)) (s2_23:(Sl Bs)) (s8_24:Bool) (s11_25:(Sl TSel)):Option ((Sl Bs)×Bool):=(k_rec_53 a0 s11_25 s2_23).bind fun x28=>Z21_j16 s17_12 k_next_9 x28.1 (s8_24&&x28.2)
def Z21_l9 (a0:Z6) (a1:(Sl TSel)) (k_rec_53:Z6->(Sl TSel)->(Sl Bs)->Option ((Sl Bs)×Bool)):Nat->(Sl Bs)->Bool->Nat->Option ((Sl Bs)×Bool)
 | 0,_,_,_=>none
 | n9+1,s2_10,s8_11,s17_12=>bif (decide (((s17_12:Nat):Int)<((a1.l.length:Nat):Int))) then((a1.l[s17_12]?).bind fun x20=>bif (decide (x20.FKind=(2:Int))) then((Z18 a0 x20.FName).bind fun x32=>guardO (!(!x32.2)) (Z116 s2_10 x20.FName) false fun x36=>bif ((!x32.2)||x36) then(Z21_j16 s17_12 ((Z21_l9 a0 a1 k_rec_53 n9)) s2_10 (s8_11&&x32.2)) else((appC 16 s2_10 (⟨false,[x20.FName]⟩:Sl Bs)).bind fun x39=>Z21_j22 a0 s17_12 ((Z21_l9 a0 a1 k_rec_53 n9)) k_rec_53 x39 (s8_11&&x32.2) x32.1.FSels)) else(Z21_j22 a0 s17_12 ((Z21_l9 a0 a1 k_rec_53 n9)) k_rec_53 s2_10 s8_11 x20.FSels)) else(Z21_j3   s2_10 s8_11)
def Z21_n:Nat->Z6->(Sl TSel)->(Sl Bs)->Option ((Sl Bs)×Bool)
 | 0,_,_,_=>none
 | n+1,a0,a1,a2=>Z21_l9 a0 a1 (Z21_n n) (a1.l.length+1) a2 true 0
theorem Z21_step (n:Nat) (ih_53:∀{a0:Z6}{a1:Sl TSel}{a2:Sl Bs}{w1:Option Nat}{g2:Nat}{r:((Sl Bs)×Bool)},Z21_n n a0 a1 a2=some r->∀(H:Heap) (hg2:H g2=some (.tok 1 a2.l.length)),ACalls Tryz.prog 53 [.agg (Z6.c a0),.d (Sl.d 7 TSel.c w1 a1),.d (Sl.d 1 strE (some g2) a2)] H fun v h'=>v=.tup [.d (Sl.d 1 strE (some g2) r.1),.d (.bool r.2)]/\h'=(H.set g2 (some (.tok 1 r.1.l.length)))):∀{a0:Z6}{a1:Sl TSel}{a2:Sl Bs}{w1:Option Nat}{g2:Nat}{r:((Sl Bs)×Bool)},Z21_n (n+1) a0 a1 a2=some r->∀(H:Heap) (hg2:H g2=some (.tok 1 a2.l.length)),ACalls Tryz.prog 53 [.agg (Z6.c a0),.d (Sl.d 7 TSel.c w1 a1),.d (Sl.d 1 strE (some g2) a2)] H fun v h'=>v=.tup [.d (Sl.d 1 strE (some g2) r.1),.d (.bool r.2)]/\h'=(H.set g2 (some (.tok 1 r.1.l.length))):=by
 intro a0 a1 a2 w1 g2 r hE H hg2;rw [Z21_n] at hE;refine ACalls.oW 66 [.tmp 6,.tmp 7] Tryz.call53 Tryz.func53 ?_;refine AWp.heqA (h':=(H.set g2 (some (.tok 1 a2.l.length)))) (by funext n_; simp only [Heap.set]; (repeat' split)<;>simp_all) ?_;refine seqR (S BX (S As (S As (nil ?_))));refine seqR (S As (nil ?_));refine seqJH KeepsT.nil (fun(z:(Sl Bs)×Bool)=>[(2,.a (.d (Sl.d 1 strE (some g2) z.1))),(8,.a (.d (.bool z.2)))]) (fun z=>(H.set g2 (some (.tok 1 z.1.l.length)))) (fun z=>Z21_j3 z.1 z.2=some r) ?_ ?_
 ·intro K3 hK3;refine seqR (S Mv ?_);refine sLen (f:=TSel.c) (s:=a1) (TK rfl) rfl rfl rfl rfl fun hL8=>?_;refine S Mv (nil ?_);refine block ?_;refine loopH (TA 3 (TA 15 (TA 16 KeepsT.nil))) (fun(z:Nat×(Sl Bs)×Bool×Nat)=>[(2,.a (.d (Sl.d 1 strE (some g2) z.2.1))),(8,.a (.d (.bool z.2.2.1))),(17,.a (.d (.int .i64 ((z.2.2.2:Nat):Int))))]) (fun z=>(H.set g2 (some (.tok 1 z.2.1.l.length)))) (fun z=>z.1) (fun z=>Z21_l9 a0 a1 (Z21_n n) z.1 z.2.1 z.2.2.1 z.2.2.2=some r) ((a1.l.length+1),a2,true,0) hE Weak.toA ?_
  rintro ⟨n9,s2_10,s8_11,s17_12⟩ hE K9 hK9;try dsimp only at hE
  cases n9 with
  | zero=>cases hE
  | succ n9 =>
    rw [Z21_l9] at hE;refine seqR (S BI (nil ?_));refine seqK fun K14 hK14=>?_;refine cE hE (fun hc15 hE=>?_) (fun hc15 hE=>?_)
    ·try dsimp only at hc15
     have hf15:=of_decide_eq_true hc15;refine sk hK14 ?_;clear hK14 K14;refine seqJH (TA 3 (TA 15 (TA 16 (TA 17 KeepsT.nil)))) (fun(z:(Sl Bs)×Bool)=>[(2,.a (.d (Sl.d 1 strE (some g2) z.1))),(8,.a (.d (.bool z.2)))]) (fun z=>(H.set g2 (some (.tok 1 z.1.l.length)))) (fun z=>Z21_j16 s17_12 ((Z21_l9 a0 a1 (Z21_n n) n9)) z.1 z.2=some r) ?_ ?_
     ·intro K16 hK16;refine block ?_;refine seqR ?_;obtain⟨x20,gx20,hE⟩:=bO hE;refine S (ix TSel.c s17_12 gx20) (S Ld ?_);refine Sl ?_;refine Sf ?_;refine nil ?_;refine freezeA 10 _ rfl (KA 2 (KA 3 (KA 8 (KA 15 (KA 16 (KA 17 Keeps.nil)))))) ?_;refine seqR (S Fv ?_);refine s0 (loadV (TK rfl) rfl rfl (congrArg (fun x=>some (A.d x)) (TSel.FSelsD_eq _))) rfl ?_;refine S As (nil ?_);refine seqJH (TA 3 (TA 15 (TA 16 (TA 17 KeepsT.nil)))) (fun(z:(Sl Bs)×Bool×(Sl TSel))=>[(2,.a (.d (Sl.d 1 strE (some g2) z.1))),(8,.a (.d (.bool z.2.1))),(11,.a (.d (Sl.d 7 TSel.c none z.2.2)))]) (fun z=>(H.set g2 (some (.tok 1 z.1.l.length)))) (fun z=>Z21_j22 a0 s17_12 ((Z21_l9 a0 a1 (Z21_n n) n9)) (Z21_n n) z.1 z.2.1 z.2.2=some r) ?_ ?_
      ·intro K22 hK22;refine seqR (S Fv (S Ld (S BI (nil ?_))));refine cE hE (fun hc30 hE=>?_) (fun hc30 hE=>?_)
       ·refine seqR (S Ld (S Fv (S Ld ?_)));obtain⟨x32,gx32,hE⟩:=bO hE;refine Sc rfl rfl (Z18_walk gx32) ?_;refine S Mv (S EX (S EX ?_));refine Sl ?_;refine Sf ?_;refine S As (nil ?_);refine freezeA 12 _ rfl (KA 2 (KA 3 (KA 8 (KA 10 (KA 13 (KA 15 (KA 16 (KA 17 Keeps.nil)))))))) ?_;refine seqR (S Mv (S Mv (G0 Mv (S PA (S As (nil ?_))))));refine seqK fun K34 hK34=>?_;refine seqR (S Mv (S NB (S Mv (G0 Mv (G0 Fv ?_)))))
        refine G1 41 rfl Ld ?_;obtain⟨x36,gx36,hE⟩:=gO hE;refine Gc2 40 42 rfl rfl rfl rfl rfl rfl (fun hC=>Z116_walk (gx36 hC)) ?_;refine S PO (nil ?_);refine cE hE (fun hc37 hE=>?_) (fun hc37 hE=>?_)
        ·refine AWp.exit ?_;exact hK16 _ (s2_10,(s8_11&&x32.2)) Weak.toA hE
        refine sk hK34 ?_;clear hK34 K34;refine seqR (S Mv (S Fv (S Ld (S BV ?_))));obtain⟨x39,gx39,hE⟩:=bO hE;refine SH (am strE (TK rfl) rfl (TK rfl) (TK rfl) gx39) ?_;refine hq (H.set g2 (some (.tok 1 x39.l.length))) ?_;refine S As (nil ?_);refine region ?_;refine S Fv (S Ld (S As (nil ?_)));exact hK22 _ (x39,(s8_11&&x32.2),x32.1.FSels) Weak.toA hE
       refine AWp.skip ?_;exact hK22 _ (s2_10,s8_11,x20.FSels) Weak.toA hE
      rintro ⟨s2_23,s8_24,s11_25⟩ hE;try dsimp only at hE
      unfold Z21_j22 at hE;refine seqR (S As (nil ?_));refine seqR (S Ld (S Mv (S Mv ?_)));obtain⟨x28,gx28,hE⟩:=bO hE;refine sH (callH rfl rfl (ih_53 gx28 _ hpG)) rfl ?_;refine hq (H.set g2 (some (.tok 1 x28.1.l.length))) ?_;refine S Mv (S EX (S EX (S As (S As (nil ?_)))));refine region ?_;refine S Mv (S Mv (G0 Mv (S PA (S As (nil ?_)))));exact hK16 _ (x28.1,(s8_24&&x28.2)) Weak.toA hE
     rintro ⟨s2_17,s8_18⟩ hE;try dsimp only at hE
     unfold Z21_j16 at hE;refine region ?_;refine SI ?_;refine S Mv (nil ?_);exact hK9 _ (n9,s2_17,s8_18,(s17_12+1)) Weak.toA hE (Nat.lt_succ_self _)
    refine AWp.exit ?_;exact hK3 _ (s2_10,s8_11) Weak.toA hE
 rintro ⟨s2_4,s8_5⟩ hE;try dsimp only at hE
 unfold Z21_j3 at hE;refine seqR (S Mv (S Mv (S As (S As (nil ?_)))));exact rt hE
theorem Z21_all:∀(n:Nat),(∀{a0:Z6}{a1:Sl TSel}{a2:Sl Bs}{w1:Option Nat}{g2:Nat}{r:((Sl Bs)×Bool)},Z21_n n a0 a1 a2=some r->∀(H:Heap) (hg2:H g2=some (.tok 1 a2.l.length)),ACalls Tryz.prog 53 [.agg (Z6.c a0),.d (Sl.d 7 TSel.c w1 a1),.d (Sl.d 1 strE (some g2) a2)] H fun v h'=>v=.tup [.d (Sl.d 1 strE (some g2) r.1),.d (.bool r.2)]/\h'=(H.set g2 (some (.tok 1 r.1.l.length))))
 | 0=>fun hE=>by first|cases hE|(rw [Z21_n] at hE; cases hE)
 | n+1=>Z21_step n (Z21_all n)
def Z21 (a0:Z6) (a1:(Sl TSel)) (a2:(Sl Bs)):Option ((Sl Bs)×Bool):=Z21_n F0 a0 a1 a2
theorem Z21_walk {a0:Z6}{a1:Sl TSel}{a2:Sl Bs}{w1:Option Nat}{g2:Nat}{r:((Sl Bs)×Bool)}(hE:Z21 a0 a1 a2=some r) (H:Heap) (hg2:H g2=some (.tok 1 a2.l.length)):ACalls Tryz.prog 53 [.agg (Z6.c a0),.d (Sl.d 7 TSel.c w1 a1),.d (Sl.d 1 strE (some g2) a2)] H fun v h'=>v=.tup [.d (Sl.d 1 strE (some g2) r.1),.d (.bool r.2)]/\h'=(H.set g2 (some (.tok 1 r.1.l.length))):=(Z21_all F0) hE H hg2
def Z20 (a0:Z6) (a1:Z3):Option Bool:=(Z21 a0 a1.FSels (Sl.nil:Sl Bs)).bind fun x4=>(Z116 x4.1 a1.FName).bind fun x6=>some x6
theorem Z20_walk {a0:Z6}{a1:Z3}{r:Bool}(hE:Z20 a0 a1=some r) (H:Heap) :ACalls Tryz.prog 54 [.agg (Z6.c a0),.agg (Z3.c a1)] H fun v h'=>v=.a (.d (.bool r))/\h'=H:=by
 unfold Z20 at hE;refine ACalls.oW 18 [.tmp 4] Tryz.call54 Tryz.func54 ?_;refine seqR (S BX (S BX (S As (nil ?_))));refine AWp.tok 1 fun tk2_3 htk2_3=>?_;refine seqR (S Ld (S Fv (S Ld ?_)));obtain⟨x4,gx4,hE⟩:=bO hE;refine sH (callH rfl rfl (ACalls.asArgs (.cons (.refl _) (.cons (.refl _) (.cons (AsArg.nil (k':=1) (t:=tk2_3) hpG) .nil))) (Z21_walk gx4 _ hpG))) rfl ?_;refine hq (H.set tk2_3 (some (.tok 1 x4.1.l.length))) ?_
 refine S Mv (S EX (S EX (S As (S As (nil ?_)))));refine AWp.dropTok 5 rfl ?_;refine seqR (S Mv (S Fv (S Ld ?_)));obtain⟨x6,gx6,hE⟩:=bO hE;refine Sc rfl rfl (Z116_walk gx6) ?_;refine S As (nil ?_);refine AWp.ret ?_;repeat (first|refine xBlock_ret ?_|refine xThen_ret ?_)
 obtain rfl:=Option.some.inj hE;refine retQ.retF H rfl ⟨rfl,rfl⟩ ?_
 first|exact Heap.sub_set htk2_3|(simp only [Heap.set_set]; exact Heap.sub_set htk2_3)
def Z19_j5 (x4:((Sl Bs)×Bool))  (s7_6:Bool):Option ((Sl Bs)×Bool):=some (x4.1,s7_6)
def Z19_l10 (a0:Z6) (x4:((Sl Bs)×Bool)) :Nat->Bool->Nat->Option ((Sl Bs)×Bool)
 | 0,_,_=>none
 | n10+1,s7_11,s20_12=>bif (decide (((s20_12:Nat):Int)<((x4.1.l.length:Nat):Int))) then((x4.1.l[s20_12]?).bind fun x18=>(Z18 a0 x18).bind fun x20=>guardO (s7_11) (Z20 a0 x20.1) false fun x21=>(Z19_l10 a0 x4 n10) (s7_11&&(!x21)) (s20_12+1)) else(Z19_j5 x4  s7_11)
def Z19 (a0:Z6) (a1:(Sl TSel)):Option ((Sl Bs)×Bool):=(Z21 a0 a1 (Sl.nil:Sl Bs)).bind fun x4=>Z19_l10 a0 x4 (x4.1.l.length+1) x4.2 0
theorem Z19_walk {a0:Z6}{a1:Sl TSel}{w1:Option Nat}{r:((Sl Bs)×Bool)}(hE:Z19 a0 a1=some r) (H:Heap) :ACalls Tryz.prog 20 [.agg (Z6.c a0),.d (Sl.d 7 TSel.c w1 a1)] H fun v h'=>v=.tup [.d (Sl.d 1 strE none r.1),.d (.bool r.2)]/\h'=H:=by
 unfold Z19 at hE;refine ACalls.oW 40 [.tmp 4,.tmp 5] Tryz.call20 Tryz.func20 ?_;refine seqR (S BX ?_);refine s0 (assignNil (k':=1) rfl) rfl ?_;refine S As (nil ?_);refine AWp.tok 1 fun tk2_3 htk2_3=>?_;refine seqR (S Ld (S Mv ?_));obtain⟨x4,gx4,hE⟩:=bO hE;refine sH (callH rfl rfl (ACalls.asArgs (.cons (.refl _) (.cons (.refl _) (.cons (AsArg.nil (k':=1) (t:=tk2_3) hpG) .nil))) (Z21_walk gx4 _ hpG))) rfl ?_
 refine hq (H.set tk2_3 (some (.tok 1 x4.1.l.length))) ?_;refine S Mv (S EX (S EX (S As (S As (nil ?_)))));refine AWp.dropTok 6 rfl ?_;refine seqJH (TA 6 KeepsT.nil) (fun(z:Bool)=>[(7,.a (.d (.bool z)))]) (fun z=>(H.set tk2_3 (some (.tok 1 x4.1.l.length)))) (fun z=>Z19_j5 x4 z=some r) ?_ ?_
 ·intro K5 hK5;refine seqR (S Mv ?_);refine sLen (f:=strE) (s:=x4.1) (TK rfl) rfl rfl rfl rfl fun hL9=>?_;refine S Mv (nil ?_);refine block ?_;refine loopH (TA 2 (TA 6 (TA 18 (TA 19 KeepsT.nil)))) (fun(z:Nat×Bool×Nat)=>[(7,.a (.d (.bool z.2.1))),(20,.a (.d (.int .i64 ((z.2.2:Nat):Int))))]) (fun z=>(H.set tk2_3 (some (.tok 1 x4.1.l.length)))) (fun z=>z.1) (fun z=>Z19_l10 a0 x4 z.1 z.2.1 z.2.2=some r) ((x4.1.l.length+1),x4.2,0) hE Weak.toA ?_
  rintro ⟨n10,s7_11,s20_12⟩ hE K10 hK10;try dsimp only at hE
  cases n10 with
  | zero=>cases hE
  | succ n10 =>
    rw [Z19_l10] at hE;refine seqR (S BI (nil ?_));refine seqK fun K14 hK14=>?_;refine cE hE (fun hc15 hE=>?_) (fun hc15 hE=>?_)
    ·try dsimp only at hc15
     have hf15:=of_decide_eq_true hc15;refine sk hK14 ?_;clear hK14 K14;refine seqK fun K16 hK16=>?_;refine block ?_;refine seqR ?_;obtain⟨x18,gx18,hE⟩:=bO hE;refine S (ix strE s20_12 gx18) (S Ld (S As (nil ?_)));refine seqR (S Ld (S Mv ?_));obtain⟨x20,gx20,hE⟩:=bO hE;refine Sc rfl rfl (Z18_walk gx20) ?_;refine S Mv (S EX (S EX ?_));refine Sl ?_;refine Sf ?_;refine S As (nil ?_);refine freezeA 10 _ rfl (KA 2 (KA 6 (KA 7 (KA 18 (KA 19 (KA 20 Keeps.nil)))))) ?_
     refine region ?_;refine S Mv (S Mv (G0 Ld (G0 Ld ?_)));obtain⟨x21,gx21,hE⟩:=gO hE;refine Gc2 32 33 rfl rfl rfl rfl rfl rfl (fun hC=>Z20_walk (gx21 hC)) ?_;refine G1 34 rfl NB ?_;refine S PA (S As (nil ?_));refine hK16 _ ?_;clear hK16 K16;refine region ?_;refine SI ?_;refine S Mv (nil ?_);exact hK10 _ (n10,(s7_11&&(!x21)),(s20_12+1)) Weak.toA hE (Nat.lt_succ_self _)
    refine AWp.exit ?_;exact hK5 _ s7_11 Weak.toA hE
 rintro s7_6 hE;try dsimp only at hE
 unfold Z19_j5 at hE;refine seqR (S Mv (S Mv (S As (S As (nil ?_)))));refine AWp.ret ?_;repeat (first|refine xBlock_ret ?_|refine xThen_ret ?_)
 obtain rfl:=Option.some.inj hE;refine retQ.retF H rfl ⟨rfl,rfl⟩ ?_
 first|exact Heap.sub_set htk2_3|(simp only [Heap.set_set]; exact Heap.sub_set htk2_3)
end Go.Proofs

namespace Go.Proofs
open Go Go.Ab
open AOps Cert AWp Keeps KeepsT
variable {lou:Lou}
def Z139_j5  (y6_id16_3:Z8):Option (Sl Z1):=some y6_id16_3.Fout
def Z139_j16 (s20_11:Nat) (k_next_10:Nat->Z8->Option (Sl Z1)) (y17_id16_3:Z8):Option (Sl Z1):=k_next_10 (s20_11+1) y17_id16_3
def Z139_l31 (a1:Z6) (s20_11:Nat) (x28:((Sl Bs)×Bool)) (k_next_10:Nat->Z8->Option (Sl Z1)):Nat->Nat->Z8->Option (Sl Z1)
 | 0,_,_=>none
 | n31+1,s54_32,y33_id16_3=>bif (decide (((s54_32:Nat):Int)<((x28.1.l.length:Nat):Int))) then((x28.1.l[s54_32]?).bind fun x39=>(Z18 a1 x39).bind fun x41=>(vars_checker_sels y33_id16_3 x41.1.FSels x41.1.FOn x41.1.FName).bind fun x42=>(Z139_l31 a1 s20_11 x28 k_next_10 n31) (s54_32+1) x42) else(Z139_j16 s20_11 k_next_10 y33_id16_3)
def Z139_l10 (a1:Z6) :Nat->Nat->Z8->Option (Sl Z1)
 | 0,_,_=>none
 | n10+1,s20_11,y12_id16_3=>bif (decide (((s20_11:Nat):Int)<((a1.FOps.l.length:Nat):Int))) then((a1.FOps.l[s20_11]?).bind fun x19=>(Z141 a1 ((s20_11:Nat):Int)).bind fun x22=>(Z143 (Z8.mk y12_id16_3.Fd x19.FVars y12_id16_3.Fout) x19 x22).bind fun x23=>(Z109 x19.FKind).bind fun x25=>(vars_checker_sels x23 x19.FSels x25 x19.FName).bind fun x26=>(Z19 a1 x19.FSels).bind fun x28=>Z139_l31 a1 s20_11 x28 ((Z139_l10 a1 n10)) (x28.1.l.length+1) 0 x26) else(Z139_j5   y12_id16_3)
def Z139 (a0:TDoc) (a1:Z6):Option (Sl Z1):=Z139_l10 a1 (a1.FOps.l.length+1) 0 (Z8.mk a0 (Sl.nil:Sl TVar) (Sl.nil:Sl Z1))
theorem Z139_walk {a0:TDoc}{a1:Z6}{oT:Ab.Obj}{gT:Nat}{r:Sl Z1}(hE:Z139 a0 a1=some r) (H:Heap) (hgT:H gT=some oT) (hoT:IsTab Tryz.prog oT):ACalls Tryz.prog 6 [.agg (TDoc.c a0),.agg (Z6.c a1)] H fun v h'=>v=.a (.d (Sl.d 2 Z1.c none r))/\h'=H:=by
 unfold Z139 at hE;refine ACalls.oW 78 [.tmp 4] Tryz.call6 Tryz.func6 ?_;refine seqR (S BX (S BX ?_));refine s0 (assignNil (k':=2) rfl) rfl ?_;refine nil ?_;refine seqR (S Ld (S BU ?_));refine AOps.tok 2 fun tk16_4 htk16_4=>?_;have ne_tk16_4_gT:tk16_4≠gT:=fun e_=>by subst e_; simp_all
 refine sE (StepE.boxO rfl) rfl (fun _ _ _ ⟨id16_3,hid16_3,e1,e2,e3⟩=>?_); subst e1 e2 e3;obtain⟨ne_id16_3_tk16_4,hid16_3⟩:=Heap.set_fresh hid16_3;have ne_id16_3_gT:id16_3≠gT:=fun e_=>by subst e_; simp_all
 refine AOps.recell id16_3 _ hpG (fun j w cs hh hx=>tok_cell 2 2 2 hh (t:=tk16_4) hpG hx rfl) ?_;refine hq ((H.set tk16_4 (some (.tok 2 0))).set id16_3 (some (.cells (Z8.cg (some tk16_4) (Z8.mk a0 (Sl.nil:Sl TVar) (Sl.nil:Sl Z1)))))) ?_;refine S As (nil ?_);refine seqJH (TA 5 KeepsT.nil) (fun(z:Z8)=>[]) (fun z=>((H.set tk16_4 (some (.tok 2 z.Fout.l.length))).set id16_3 (some (.cells (Z8.cg (some tk16_4) z))))) (fun z=>Z139_j5 z=some r) ?_ ?_
 ·intro K5 hK5;refine seqR (S Fv (S Ld ?_));refine sLen (f:=TOp.c) (s:=a1.FOps) (TK rfl) rfl rfl rfl rfl fun hL9=>?_;refine S Mv (nil ?_);refine block ?_;refine loopH (TA 3 (TA 5 (TA 18 (TA 19 KeepsT.nil)))) (fun(z:Nat×Nat×Z8)=>[(20,.a (.d (.int .i64 ((z.2.1:Nat):Int))))]) (fun z=>((H.set tk16_4 (some (.tok 2 z.2.2.Fout.l.length))).set id16_3 (some (.cells (Z8.cg (some tk16_4) z.2.2))))) (fun z=>z.1) (fun z=>Z139_l10 a1 z.1 z.2.1 z.2.2=some r) ((a1.FOps.l.length+1),0,(Z8.mk a0 (Sl.nil:Sl TVar) (Sl.nil:Sl Z1))) hE Weak.toA ?_
  rintro ⟨n10,s20_11,y12_id16_3⟩ hE K10 hK10;try dsimp only at hE
  cases n10 with
  | zero=>cases hE
  | succ n10 =>
    rw [Z139_l10] at hE;refine seqR (S BI (nil ?_));refine seqK fun K14 hK14=>?_;refine cE hE (fun hc15 hE=>?_) (fun hc15 hE=>?_)
    ·try dsimp only at hc15
     have hf15:=of_decide_eq_true hc15;refine sk hK14 ?_;clear hK14 K14;refine seqJH (TA 3 (TA 5 (TA 18 (TA 19 (TA 20 KeepsT.nil))))) (fun(z:Z8)=>[]) (fun z=>((H.set tk16_4 (some (.tok 2 z.Fout.l.length))).set id16_3 (some (.cells (Z8.cg (some tk16_4) z))))) (fun z=>Z139_j16 s20_11 ((Z139_l10 a1 n10)) z=some r) ?_ ?_
     ·intro K16 hK16;refine block ?_;refine seqR (S Mv ?_);obtain⟨x19,gx19,hE⟩:=bO hE;refine S (ix TOp.c s20_11 gx19) (S Ld ?_);refine Sl ?_;refine S As ?_;refine Sf ?_;refine nil ?_;refine freezeA 7 _ rfl (KA 3 (KA 5 (KA 6 (KA 18 (KA 19 (KA 20 Keeps.nil)))))) ?_;refine seqR (S Mv (S Fv (S Ld (S NP ?_))));refine s0 (fieldP (TK rfl) rfl rfl (TK rfl) rfl rfl) rfl ?_;refine sHn (storeP1 (TK rfl) rfl rfl hpG rfl (by repeat (first|exact SetAt.zero|apply SetAt.succ))) rfl rfl ?_
      refine hq ((H.set tk16_4 (some (.tok 2 y12_id16_3.Fout.l.length))).set id16_3 (some (.cells (Z8.cg (some tk16_4) (Z8.mk y12_id16_3.Fd x19.FVars y12_id16_3.Fout))))) ?_;refine nil ?_;refine AWp.seqD (Sd Mv (Sd Ld (Sd Ld (Sd Mv ?_))));obtain⟨x22,gx22,hE⟩:=bO hE;refine Scd rfl rfl (Z141_walk gx22) ?_;obtain⟨x23,gx23,hE⟩:=bO hE;refine DOps.sH (callH rfl rfl (Z143_walk (gT:=gT) (oT:=oT) gx23 _ hpG hpG hpG (by assumption))) rfl ?_
      refine DOps.Dh ((H.set tk16_4 (some (.tok 2 x23.Fout.l.length))).set id16_3 (some (.cells (Z8.cg (some tk16_4) x23)))) ?_;refine DOps.nil (by decide +kernel) ?_;refine AWp.seqD (Sd Mv (Sd Fv (Sd Ld (Sd Fv (Sd Ld ?_)))));obtain⟨x25,gx25,hE⟩:=bO hE;refine Scd rfl rfl (Z109_walk gx25) ?_;refine Sd Fv (Sd Ld ?_);obtain⟨x26,gx26,hE⟩:=bO hE;refine DOps.sH (callH rfl rfl (vars_checker_sels_walk gx26 _ hpG hpG)) rfl ?_
      refine DOps.Dh ((H.set tk16_4 (some (.tok 2 x26.Fout.l.length))).set id16_3 (some (.cells (Z8.cg (some tk16_4) x26)))) ?_;refine DOps.nil (by decide +kernel) ?_;refine seqR (S Ld (S Fv (S Ld ?_)));obtain⟨x28,gx28,hE⟩:=bO hE;refine Sc rfl rfl (Z19_walk gx28) ?_;refine S Mv (S EX (S EX (S As (S As (nil ?_)))));refine seqR (S Mv ?_);refine sLen (f:=strE) (s:=x28.1) (TK rfl) rfl rfl rfl rfl fun hL30=>?_
      refine S Mv (nil ?_);refine block ?_;refine loopH (TA 3 (TA 5 (TA 18 (TA 19 (TA 20 (TA 52 (TA 53 KeepsT.nil))))))) (fun(z:Nat×Nat×Z8)=>[(54,.a (.d (.int .i64 ((z.2.1:Nat):Int))))]) (fun z=>((H.set tk16_4 (some (.tok 2 z.2.2.Fout.l.length))).set id16_3 (some (.cells (Z8.cg (some tk16_4) z.2.2))))) (fun z=>z.1) (fun z=>Z139_l31 a1 s20_11 x28 ((Z139_l10 a1 n10)) z.1 z.2.1 z.2.2=some r) ((x28.1.l.length+1),0,x26) hE Weak.toA ?_
      rintro ⟨n31,s54_32,y33_id16_3⟩ hE K31 hK31;try dsimp only at hE
      cases n31 with
      | zero=>cases hE
      | succ n31 =>
        rw [Z139_l31] at hE;refine seqR (S BI (nil ?_));refine seqK fun K35 hK35=>?_;refine cE hE (fun hc36 hE=>?_) (fun hc36 hE=>?_)
        ·try dsimp only at hc36
         have hf36:=of_decide_eq_true hc36;refine sk hK35 ?_;clear hK35 K35;refine seqK fun K37 hK37=>?_;refine block ?_;refine seqR ?_;obtain⟨x39,gx39,hE⟩:=bO hE;refine S (ix strE s54_32 gx39) (S Ld (S As (nil ?_)));refine seqR (S Ld (S Mv ?_));obtain⟨x41,gx41,hE⟩:=bO hE;refine Sc rfl rfl (Z18_walk gx41) ?_;refine S Mv (S EX (S EX ?_));refine Sl ?_;refine Sf ?_;refine S As (nil ?_);refine freezeA 12 _ rfl (KA 3 (KA 5 (KA 18 (KA 19 (KA 20 (KA 52 (KA 53 (KA 54 Keeps.nil)))))))) ?_
         refine region ?_;refine S Mv (S Fv (S Ld (S Fv (S Ld (S Fv (S Ld ?_))))));obtain⟨x42,gx42,hE⟩:=bO hE;refine sH (callH rfl rfl (vars_checker_sels_walk gx42 _ hpG hpG)) rfl ?_;refine hq ((H.set tk16_4 (some (.tok 2 x42.Fout.l.length))).set id16_3 (some (.cells (Z8.cg (some tk16_4) x42)))) ?_;refine nil ?_;refine hK37 _ ?_;clear hK37 K37;refine region ?_;refine SI ?_;refine S Mv (nil ?_);exact hK31 _ (n31,(s54_32+1),x42) Weak.toA hE (Nat.lt_succ_self _)
        refine AWp.exit ?_;exact hK16 _ y33_id16_3 Weak.toA hE
     rintro y17_id16_3 hE;try dsimp only at hE
     unfold Z139_j16 at hE;refine region ?_;refine SI ?_;refine S Mv (nil ?_);exact hK10 _ (n10,(s20_11+1),y17_id16_3) Weak.toA hE (Nat.lt_succ_self _)
    refine AWp.exit ?_;exact hK5 _ y12_id16_3 Weak.toA hE
 rintro y6_id16_3 hE;try dsimp only at hE
 unfold Z139_j5 at hE;refine seqR (S Mv (S NP ?_));refine s0 (fieldP (TK rfl) rfl rfl (TK rfl) rfl rfl) rfl ?_;refine s0 (loadP (TK rfl) rfl rfl hpG rfl) rfl ?_;refine S As (nil ?_);refine AWp.dropTok 4 rfl ?_;refine AWp.ret ?_;repeat (first|refine xBlock_ret ?_|refine xThen_ret ?_)
 obtain rfl:=Option.some.inj hE;refine retQ.retF H rfl ⟨rfl,rfl⟩ ?_;intro id_ o_ he_;have e_tk16_4:id_≠tk16_4:=fun e_=>by subst e_; simp_all [Heap.set]
 have e_id16_3:id_≠id16_3:=fun e_=>by subst e_; simp_all [Heap.set]
 rw [<- he_];simp only [Heap.set] at he_ ⊢
 (repeat' split)<;>simp_all
theorem eqt_49:eqTab Tryz.prog 49=some [.int .i64,.str]:=by kernel_rfl
def Z52_j8  :Option Bool:=some true
def Z52_l11 (a0:(Sl Z1)) (a1:(Sl Z1)) :Nat->Nat->Option Bool
 | 0,_=>none
 | n11+1,s5_12=>bif (decide (((s5_12:Nat):Int)<((a0.l.length:Nat):Int))) then((a0.l[s5_12]?).bind fun x19=>(a1.l[s5_12]?).bind fun x20=>bif (!(decide (x19.FErr=x20.FErr)&&((x19.FAt==x20.FAt)&&true))) then(some false) else((Z52_l11 a0 a1 n11) (s5_12+1))) else(Z52_j8   )
def Z52 (a0:(Sl Z1)) (a1:(Sl Z1)):Option Bool:=bif (!decide (((a0.l.length:Nat):Int)=((a1.l.length:Nat):Int))) then(some false) else(Z52_l11 a0 a1 (a0.l.length+1) 0)
theorem Z52_walk {a0 a1:Sl Z1}{w0 w1:Option Nat}{r:Bool}(hE:Z52 a0 a1=some r) (H:Heap) :ACalls Tryz.prog 10 [.d (Sl.d 2 Z1.c w0 a0),.d (Sl.d 2 Z1.c w1 a1)] H fun v h'=>v=.a (.d (.bool r))/\h'=H:=by
 unfold Z52 at hE;refine ACalls.oW 26 [.tmp 4] Tryz.call10 Tryz.func10 ?_;refine seqR (S As (nil ?_));refine seqK fun K2 hK2=>?_;refine seqR (S Mv ?_);refine sLen (f:=Z1.c) (s:=a0) (TK rfl) rfl rfl rfl rfl fun hL4=>?_;refine S Mv ?_;refine sLen (f:=Z1.c) (s:=a1) (TK rfl) rfl rfl rfl rfl fun hL5=>?_;refine S BI (nil ?_);refine cE hE (fun hc6 hE=>?_) (fun hc6 hE=>?_)
 ·refine seqR (S As (nil ?_));exact rt hE
 refine sk hK2 ?_;clear hK2 K2;refine seqJH KeepsT.nil (fun(z:Unit)=>[]) (fun z=>H) (fun z=>Z52_j8 =some r) ?_ ?_
 ·intro K8 hK8;refine seqR (S As (nil ?_));refine block ?_;refine loopH (TA 0 (TA 1 KeepsT.nil)) (fun(z:Nat×Nat)=>[(5,.a (.d (.int .i64 ((z.2:Nat):Int))))]) (fun z=>H) (fun z=>z.1) (fun z=>Z52_l11 a0 a1 z.1 z.2=some r) ((a0.l.length+1),0) hE Weak.toA ?_;rintro ⟨n11,s5_12⟩ hE K11 hK11;try dsimp only at hE
  cases n11 with
  | zero=>cases hE
  | succ n11 =>
    rw [Z52_l11] at hE;refine seqK fun K13 hK13=>?_;refine seqR (S Mv (S Mv ?_));refine sLen (f:=Z1.c) (s:=a0) (TK rfl) rfl rfl rfl rfl fun hL15=>?_;refine S BI (nil ?_);refine cE hE (fun hc16 hE=>?_) (fun hc16 hE=>?_)
    ·try dsimp only at hc16
     have hf16:=of_decide_eq_true hc16;refine sk hK13 ?_;clear hK13 K13;refine seqK fun K17 hK17=>?_;refine block ?_;refine AWp.seqD (Sd Mv (Sd Mv ?_));obtain⟨x19,gx19,hE⟩:=bO hE;refine Sd (ix Z1.c s5_12 gx19) (Sd Ld (Sd Mv (Sd Mv ?_)));obtain⟨x20,gx20,hE⟩:=bO hE;refine Sd (ix Z1.c s5_12 gx20) (Sd Ld ?_);refine DOps.s0 (neStruct eqt_49 rfl rfl rfl rfl) rfl ?_;refine DOps.nil (by decide +kernel) ?_
     refine cE hE (fun hc21 hE=>?_) (fun hc21 hE=>?_)
     ·refine seqR (S As (nil ?_));exact rt hE
     refine sk hK17 ?_;clear hK17 K17;refine region ?_;refine S Mv ?_;refine SI ?_;refine S As (nil ?_);exact hK11 _ (n11,(s5_12+1)) Weak.toA hE (Nat.lt_succ_self _)
    refine AWp.exit ?_;exact hK8 _ () Weak.toA hE
 rintro _ hE;try dsimp only at hE
 unfold Z52_j8 at hE;refine seqR (S As (nil ?_));exact rt hE
def Z23 :Option Bool:=(Z141 (Z6.mk (⟨false,[(TOp.mk (1:Int) ([113]:Bs) (⟨false,[(TVar.mk ([109]:Bs) (TRef.mk ([73,110,116]:Bs) (Sl.nil:Sl Int)) false Z7.zero)]⟩:Sl TVar) (⟨false,[(TSel.mk (1:Int) ([]:Bs) ([120]:Bs) ([]:Bs) (⟨false,[(TArg.mk ([110]:Bs) (Z7.mk (7:Int) (0:Int) ([122]:Bs) true ([]) (Sl.nil:Sl Bs)))]⟩:Sl TArg) (Sl.nil:Sl TDir) true ([]))]⟩:Sl TSel))]⟩:Sl TOp) (Sl.nil:Sl Z3)) (0:Int)).bind fun x6=>guardO ((decide (((x6.l.length:Nat):Int)=(1:Int)))) (x6.l[0]?) ([]:Bs) fun x8=>guardO (((decide (((x6.l.length:Nat):Int)=(1:Int)))&&((x8==([122]:Bs))))) (((Z6.mk (⟨false,[(TOp.mk (1:Int) ([113]:Bs) (⟨false,[(TVar.mk ([109]:Bs) (TRef.mk ([73,110,116]:Bs) (Sl.nil:Sl Int)) false Z7.zero)]⟩:Sl TVar) (⟨false,[(TSel.mk (1:Int) ([]:Bs) ([120]:Bs) ([]:Bs) (⟨false,[(TArg.mk ([110]:Bs) (Z7.mk (7:Int) (0:Int) ([122]:Bs) true ([]) (Sl.nil:Sl Bs)))]⟩:Sl TArg) (Sl.nil:Sl TDir) true ([]))]⟩:Sl TSel))]⟩:Sl TOp) (Sl.nil:Sl Z3)).FOps).l[0]?) TOp.zero fun x9=>guardO (((decide (((x6.l.length:Nat):Int)=(1:Int)))&&((x8==([122]:Bs))))) (x9.FVars.l[0]?) TVar.zero fun x10=>guardO (((decide (((x6.l.length:Nat):Int)=(1:Int)))&&((x8==([122]:Bs))))) (Z140 (TDoc.mk (⟨false,[(TDef.mk (1:Int) ([81,117,101,114,121]:Bs) (Sl.nil:Sl Bs) (Sl.nil:Sl TDir) (⟨false,[(Z2.mk ([120]:Bs) (⟨false,[(Z4.mk ([110]:Bs) (TRef.mk ([73,110,116]:Bs) (Sl.nil:Sl Int)) false Z7.zero (Sl.nil:Sl TDir))]⟩:Sl Z4) (TRef.mk ([73,110,116]:Bs) (Sl.nil:Sl Int)) (Sl.nil:Sl TDir))]⟩:Sl Z2) (Sl.nil:Sl Z5) (Sl.nil:Sl Z4))]⟩:Sl TDef)) x10 (TRef.mk ([73,110,116]:Bs) (Sl.nil:Sl Int)) false) false fun x11=>guardO ((((decide (((x6.l.length:Nat):Int)=(1:Int)))&&((x8==([122]:Bs))))&&x11)) (Z139 (TDoc.mk (⟨false,[(TDef.mk (1:Int) ([81,117,101,114,121]:Bs) (Sl.nil:Sl Bs) (Sl.nil:Sl TDir) (⟨false,[(Z2.mk ([120]:Bs) (⟨false,[(Z4.mk ([110]:Bs) (TRef.mk ([73,110,116]:Bs) (Sl.nil:Sl Int)) false Z7.zero (Sl.nil:Sl TDir))]⟩:Sl Z4) (TRef.mk ([73,110,116]:Bs) (Sl.nil:Sl Int)) (Sl.nil:Sl TDir))]⟩:Sl Z2) (Sl.nil:Sl Z5) (Sl.nil:Sl Z4))]⟩:Sl TDef)) (Z6.mk (⟨false,[(TOp.mk (1:Int) ([113]:Bs) (⟨false,[(TVar.mk ([109]:Bs) (TRef.mk ([73,110,116]:Bs) (Sl.nil:Sl Int)) false Z7.zero)]⟩:Sl TVar) (⟨false,[(TSel.mk (1:Int) ([]:Bs) ([120]:Bs) ([]:Bs) (⟨false,[(TArg.mk ([110]:Bs) (Z7.mk (7:Int) (0:Int) ([122]:Bs) true ([]) (Sl.nil:Sl Bs)))]⟩:Sl TArg) (Sl.nil:Sl TDir) true ([]))]⟩:Sl TSel))]⟩:Sl TOp) (Sl.nil:Sl Z3))) (Sl.nil:Sl Z1) fun x12=>guardO ((((decide (((x6.l.length:Nat):Int)=(1:Int)))&&((x8==([122]:Bs))))&&x11)) (Z52 x12 (⟨false,[(Z1.mk (26:Int) ([113]:Bs)),(Z1.mk (27:Int) ([113,47,120]:Bs))]⟩:Sl Z1)) false fun x13=>some ((((decide (((x6.l.length:Nat):Int)=(1:Int)))&&((x8==([122]:Bs))))&&x11)&&x13)
theorem Z23_walk  {oT:Ab.Obj}{gT:Nat}{r:Bool}(hE:Z23 =some r) (H:Heap) (hgT:H gT=some oT) (hoT:IsTab Tryz.prog oT):ACalls Tryz.prog 7 [] H fun v h'=>v=.a (.d (.bool r))/\h'=H:=by
 unfold Z23 at hE;refine ACalls.oW 58 [.tmp 0] Tryz.call7 Tryz.func7 ?_;refine seqR (S As (nil ?_));refine seqR (S BU (S BU (S BV (S BU ?_))));refine Sl ?_;refine Sf ?_;refine nil ?_;refine freezeA 1 _ rfl Keeps.nil ?_;refine seqR (S BU (S BU (S BU (S BV (S BU (S BV (S BU (S BV (S BU ?_)))))))));refine Sl ?_;refine Sf ?_;refine nil ?_;refine freezeA 2 _ rfl (KA 1 Keeps.nil) ?_;refine seqR (S BU (S BU (S BV (S Ld (S BV (S BU (S BV (S BU ?_))))))))
 refine Sl ?_;refine Sf ?_;refine nil ?_;refine freezeA 3 _ rfl (KA 2 Keeps.nil) ?_;refine seqR (S Ld ?_);obtain⟨x6,gx6,hE⟩:=bO hE;refine Sc rfl rfl (Z141_walk gx6) ?_;refine S As (nil ?_);refine AWp.seqD (Sd Mv ?_);refine DOps.s0 (lenM' (f:=strE) (s:=x6) (TK rfl) rfl rfl rfl) rfl ?_;refine Sd BI (Sd Mv (G0d Mv ?_));obtain⟨x8,gx8,hE⟩:=gO hE;refine DOps.gC rfl rfl (fun hC=>ungdA (k:=32) rfl (idxMn (f:=strE) (n:=0) (TK rfl) rfl (TK rfl) rfl rfl rfl (gx8 hC))) rfl ?_
 refine G1d 33 rfl Ld ?_;refine G1d 34 rfl BS ?_;refine Sd PA (Sd Mv (G0d Ld (G0d Fv ?_)));refine G1d 39 rfl Ld ?_;obtain⟨x9,gx9,hE⟩:=gO hE;refine DOps.gC rfl rfl (fun hC=>ungdA (k:=40) rfl (idxMn (f:=TOp.c) (n:=0) (TK rfl) rfl (TK rfl) rfl rfl rfl (gx9 hC))) rfl ?_;refine G1d 41 rfl Fv ?_;refine G1d 42 rfl Ld ?_;obtain⟨x10,gx10,hE⟩:=gO hE;refine DOps.gC rfl rfl (fun hC=>ungdA (k:=43) rfl (idxMn (f:=TVar.c) (n:=0) (TK rfl) rfl (TK rfl) rfl rfl rfl (gx10 hC))) rfl ?_
 refine G1d 44 rfl Ld ?_;refine G0d BU ?_;obtain⟨x11,gx11,hE⟩:=gO hE;refine DOps.gC rfl rfl (fun hC=>ungdA (k:=38) rfl (ungdA (k:=45) rfl (ungdA (k:=46) rfl (callP rfl rfl (fun H=>Z140_walk (gx11 hC) H))))) rfl ?_;refine Sd PA (Sd Mv (G0d Ld (G0d Ld ?_)));obtain⟨x12,gx12,hE⟩:=gO hE;refine DOps.gC rfl rfl (fun hC=>ungdA (k:=50) rfl (ungdA (k:=51) rfl (callR rfl rfl (Z139_walk (gT:=gT) (oT:=oT) (gx12 hC) _ hpG (by assumption))))) rfl ?_
 refine G0d BU (G0d BU ?_);refine DOps.gC rfl rfl (fun hC=>ungdA (k:=53) rfl (ungdA (k:=54) rfl (buildSlice (TK rfl) rfl (TK rfl) rfl rfl rfl rfl rfl rfl))) rfl ?_;obtain⟨x13,gx13,hE⟩:=gO hE;refine Gc2d 52 55 rfl rfl rfl rfl rfl rfl (fun hC=>Z52_walk (gx13 hC)) ?_;refine Sd PA (Sd As ?_);refine DOps.nil (by decide +kernel) ?_;exact rt hE
def Z100_j2  :Option Bool:=some false
def Z100_l5 (a0:(Sl Bs)) (a1:Bs) :Nat->Nat->Option Bool
 | 0,_=>none
 | n5+1,s5_6=>bif (decide (((s5_6:Nat):Int)<((a0.l.length:Nat):Int))) then((a0.l[s5_6]?).bind fun x13=>bif ((x13==a1)) then(some true) else((Z100_l5 a0 a1 n5) (s5_6+1))) else(Z100_j2   )
def Z100 (a0:(Sl Bs)) (a1:Bs):Option Bool:=Z100_l5 a0 a1 (a0.l.length+1) 0
theorem Z100_walk {a0:Sl Bs}{a1:Bs}{w0:Option Nat}{r:Bool}(hE:Z100 a0 a1=some r) (H:Heap) :ACalls Tryz.prog 60 [.d (Sl.d 1 strE w0 a0),.d (.str a1)] H fun v h'=>v=.a (.d (.bool r))/\h'=H:=by
 unfold Z100 at hE;refine ACalls.oW 18 [.tmp 4] Tryz.call60 Tryz.func60 ?_;refine seqR (S As (nil ?_));refine seqJH KeepsT.nil (fun(z:Unit)=>[]) (fun z=>H) (fun z=>Z100_j2 =some r) ?_ ?_
 ·intro K2 hK2;refine seqR (S As (nil ?_));refine block ?_;refine loopH (TA 0 (TA 1 KeepsT.nil)) (fun(z:Nat×Nat)=>[(5,.a (.d (.int .i64 ((z.2:Nat):Int))))]) (fun z=>H) (fun z=>z.1) (fun z=>Z100_l5 a0 a1 z.1 z.2=some r) ((a0.l.length+1),0) hE Weak.toA ?_;rintro ⟨n5,s5_6⟩ hE K5 hK5;try dsimp only at hE
  cases n5 with
  | zero=>cases hE
  | succ n5 =>
    rw [Z100_l5] at hE;refine seqK fun K7 hK7=>?_;refine seqR (S Mv (S Mv ?_));refine sLen (f:=strE) (s:=a0) (TK rfl) rfl rfl rfl rfl fun hL9=>?_;refine S BI (nil ?_);refine cE hE (fun hc10 hE=>?_) (fun hc10 hE=>?_)
    ·try dsimp only at hc10
     have hf10:=of_decide_eq_true hc10;refine sk hK7 ?_;clear hK7 K7;refine seqK fun K11 hK11=>?_;refine block ?_;refine seqR (S Mv (S Mv ?_));obtain⟨x13,gx13,hE⟩:=bO hE;refine S (ix strE s5_6 gx13) (S Ld (S Mv (S BS (nil ?_))));refine cE hE (fun hc14 hE=>?_) (fun hc14 hE=>?_)
     ·refine seqR (S As (nil ?_));exact rt hE
     refine sk hK11 ?_;clear hK11 K11;refine region ?_;refine S Mv ?_;refine SI ?_;refine S As (nil ?_);exact hK5 _ (n5,(s5_6+1)) Weak.toA hE (Nat.lt_succ_self _)
    refine AWp.exit ?_;exact hK2 _ () Weak.toA hE
 rintro _ hE;try dsimp only at hE
 unfold Z100_j2 at hE;refine seqR (S As (nil ?_));exact rt hE
def Z101_j5  (s1_6:(Sl Bs)):Option (Sl Bs):=some s1_6
def Z101_j12  (s1_13:(Sl Bs)):Option (Sl Bs):=some s1_13
def Z101_l16 (a0:Z7) (k_rec_58:Z7->(Sl Bs)->Option (Sl Bs)):Nat->(Sl Bs)->Nat->Option (Sl Bs)
 | 0,_,_=>none
 | n16+1,s1_17,s5_18=>bif ((decide (((s5_18:Nat):Int)<((a0.FItems.l.length:Nat):Int)))&&((decide (a0.FKind=(5:Int)))||(decide (a0.FKind=(6:Int))))) then((a0.FItems.l[s5_18]?).bind fun x24=>(k_rec_58 x24 s1_17).bind fun x25=>(Z101_l16 a0 k_rec_58 n16) x25 (s5_18+1)) else(Z101_j12   s1_17)
def Z101_n:Nat->Z7->(Sl Bs)->Option (Sl Bs)
 | 0,_,_=>none
 | n+1,a0,a1=>bif (decide (a0.FKind=(7:Int))) then((Z100 a1 a0.FText).bind fun x9=>bif (!x9) then((appC 16 a1 (⟨false,[a0.FText]⟩:Sl Bs)).bind fun x11=>Z101_j5   x11) else(Z101_j5   a1)) else(Z101_l16 a0 (Z101_n n) (a0.FItems.l.length+1) a1 0)
theorem Z101_step (n:Nat) (ih_58:∀{a0:Z7}{a1:Sl Bs}{g1:Nat}{r:Sl Bs},Z101_n n a0 a1=some r->∀(H:Heap) (hg1:H g1=some (.tok 1 a1.l.length)),ACalls Tryz.prog 58 [.agg (Z7.c a0),.d (Sl.d 1 strE (some g1) a1)] H fun v h'=>v=.a (.d (Sl.d 1 strE (some g1) r))/\h'=(H.set g1 (some (.tok 1 r.l.length)))):∀{a0:Z7}{a1:Sl Bs}{g1:Nat}{r:Sl Bs},Z101_n (n+1) a0 a1=some r->∀(H:Heap) (hg1:H g1=some (.tok 1 a1.l.length)),ACalls Tryz.prog 58 [.agg (Z7.c a0),.d (Sl.d 1 strE (some g1) a1)] H fun v h'=>v=.a (.d (Sl.d 1 strE (some g1) r))/\h'=(H.set g1 (some (.tok 1 r.l.length))):=by
 intro a0 a1  g1 r hE H hg1;rw [Z101_n] at hE;refine ACalls.oW 45 [.tmp 4] Tryz.call58 Tryz.func58 ?_;refine AWp.heqA (h':=(H.set g1 (some (.tok 1 a1.l.length)))) (by funext n_; simp only [Heap.set]; (repeat' split)<;>simp_all) ?_;refine seqR (S BX (S As (nil ?_)));refine seqK fun K2 hK2=>?_;refine seqR (S Fv (S Ld (S BI (nil ?_))));refine cE hE (fun hc4 hE=>?_) (fun hc4 hE=>?_)
 ·refine seqJH KeepsT.nil (fun(z:(Sl Bs))=>[(1,.a (.d (Sl.d 1 strE (some g1) z)))]) (fun z=>(H.set g1 (some (.tok 1 z.l.length)))) (fun z=>Z101_j5 z=some r) ?_ ?_
  ·intro K5 hK5;refine seqR (S Mv (S Fv (S Ld ?_)));obtain⟨x9,gx9,hE⟩:=bO hE;refine Sc rfl rfl (Z100_walk gx9) ?_;refine S NB (nil ?_);refine cE hE (fun hc10 hE=>?_) (fun hc10 hE=>?_)
   ·refine region ?_;refine S Mv (S Fv (S Ld (S BV ?_)));obtain⟨x11,gx11,hE⟩:=bO hE;refine SH (am strE (TK rfl) rfl (TK rfl) (TK rfl) gx11) ?_;refine hq (H.set g1 (some (.tok 1 x11.l.length))) ?_;refine S As (nil ?_);exact hK5 _ x11 Weak.toA hE
   refine AWp.skip ?_;exact hK5 _ a1 Weak.toA hE
  rintro s1_6 hE;try dsimp only at hE
  unfold Z101_j5 at hE;refine seqR (S Mv (S As (nil ?_)));exact rt hE
 refine sk hK2 ?_;clear hK2 K2;refine seqJH KeepsT.nil (fun(z:(Sl Bs))=>[(1,.a (.d (Sl.d 1 strE (some g1) z)))]) (fun z=>(H.set g1 (some (.tok 1 z.l.length)))) (fun z=>Z101_j12 z=some r) ?_ ?_
 ·intro K12 hK12;refine seqR (S As (nil ?_));refine block ?_;refine loopH (TA 2 KeepsT.nil) (fun(z:Nat×(Sl Bs)×Nat)=>[(1,.a (.d (Sl.d 1 strE (some g1) z.2.1))),(5,.a (.d (.int .i64 ((z.2.2:Nat):Int))))]) (fun z=>(H.set g1 (some (.tok 1 z.2.1.l.length)))) (fun z=>z.1) (fun z=>Z101_l16 a0 (Z101_n n) z.1 z.2.1 z.2.2=some r) ((a0.FItems.l.length+1),a1,0) hE Weak.toA ?_;rintro ⟨n16,s1_17,s5_18⟩ hE K16 hK16
  try dsimp only at hE
  cases n16 with
  | zero=>cases hE
  | succ n16 =>
    rw [Z101_l16] at hE;refine seqK fun K19 hK19=>?_;refine seqR (S Mv (S Fv ?_));refine s0 (loadV (TK rfl) rfl rfl (congrArg (fun x=>some (A.d x)) (Z7.FItemsD_eq _))) rfl ?_;refine sLen (f:=Z7.c) (s:=a0.FItems) (TK rfl) rfl rfl rfl rfl fun hL21=>?_;refine S BI (S Mv (G0 Fv ?_));refine G1 26 rfl Ld ?_;refine G1 27 rfl BI ?_;refine G1 28 rfl Mv ?_;refine G0 Fv ?_;refine G1 30 rfl Ld ?_;refine G1 31 rfl BI ?_
    refine gC rfl rfl (fun hC=>ungdA (k:=29) rfl (pickOrA rfl rfl rfl)) rfl ?_;refine S PA (nil ?_);refine cE hE (fun hc22 hE=>?_) (fun hc22 hE=>?_)
    ·try dsimp only at hc22
     have hf22:=of_decide_eq_true (and_left hc22);refine sk hK19 ?_;clear hK19 K19;refine seqK fun K23 hK23=>?_;refine block ?_;refine region ?_;refine S Fv ?_;refine s0 (loadV (TK rfl) rfl rfl (congrArg (fun x=>some (A.d x)) (Z7.FItemsD_eq _))) rfl ?_;refine S Mv ?_;obtain⟨x24,gx24,hE⟩:=bO hE;refine S (ix Z7.c s5_18 gx24) (S Ld (S Mv ?_));obtain⟨x25,gx25,hE⟩:=bO hE;refine sH (callH rfl rfl (ih_58 gx25 _ hpG)) rfl ?_
     refine hq (H.set g1 (some (.tok 1 x25.l.length))) ?_;refine S As (nil ?_);refine hK23 _ ?_;clear hK23 K23;refine region ?_;refine S Mv ?_;refine SI ?_;refine S As (nil ?_);exact hK16 _ (n16,x25,(s5_18+1)) Weak.toA hE (Nat.lt_succ_self _)
    refine AWp.exit ?_;exact hK12 _ s1_17 Weak.toA hE
 rintro s1_13 hE;try dsimp only at hE
 unfold Z101_j12 at hE;refine seqR (S Mv (S As (nil ?_)));exact rt hE
theorem Z101_all:∀(n:Nat),(∀{a0:Z7}{a1:Sl Bs}{g1:Nat}{r:Sl Bs},Z101_n n a0 a1=some r->∀(H:Heap) (hg1:H g1=some (.tok 1 a1.l.length)),ACalls Tryz.prog 58 [.agg (Z7.c a0),.d (Sl.d 1 strE (some g1) a1)] H fun v h'=>v=.a (.d (Sl.d 1 strE (some g1) r))/\h'=(H.set g1 (some (.tok 1 r.l.length))))
 | 0=>fun hE=>by first|cases hE|(rw [Z101_n] at hE; cases hE)
 | n+1=>Z101_step n (Z101_all n)
def Z101 (a0:Z7) (a1:(Sl Bs)):Option (Sl Bs):=Z101_n F0 a0 a1
theorem Z101_walk {a0:Z7}{a1:Sl Bs}{g1:Nat}{r:Sl Bs}(hE:Z101 a0 a1=some r) (H:Heap) (hg1:H g1=some (.tok 1 a1.l.length)):ACalls Tryz.prog 58 [.agg (Z7.c a0),.d (Sl.d 1 strE (some g1) a1)] H fun v h'=>v=.a (.d (Sl.d 1 strE (some g1) r))/\h'=(H.set g1 (some (.tok 1 r.l.length))):=(Z101_all F0) hE H hg1
end Go.Proofs

namespace Go.Proofs
open Go Go.Ab
open AOps Cert AWp Keeps KeepsT
variable {lou:Lou}
def Z102_j2  (s2_3:(Sl Bs)) (s3_4:(Sl Bs)):Option ((Sl Bs)×(Sl Bs)):=some (s2_3,s3_4)
def Z102_j15 (s10_10:Nat) (k_next_7:(Sl Bs)->(Sl Bs)->Nat->Option ((Sl Bs)×(Sl Bs))) (s2_16:(Sl Bs)) (s3_17:(Sl Bs)):Option ((Sl Bs)×(Sl Bs)):=k_next_7 s2_16 s3_17 (s10_10+1)
def Z102_j25 (a0:Z6) (s10_10:Nat) (s2_23:(Sl Bs)) (k_next_7:(Sl Bs)->(Sl Bs)->Nat->Option ((Sl Bs)×(Sl Bs))) (k_rec_25:Z6->(Sl TSel)->(Sl Bs)->(Sl Bs)->Option ((Sl Bs)×(Sl Bs))) (s3_26:(Sl Bs)) (s15_27:(Sl TSel)):Option ((Sl Bs)×(Sl Bs)):=(k_rec_25 a0 s15_27 s2_23 s3_26).bind fun x29=>Z102_j15 s10_10 k_next_7 x29.1 x29.2
def Z102_j22 (a0:Z6) (s3_9:(Sl Bs)) (s10_10:Nat) (x19:TSel) (k_next_7:(Sl Bs)->(Sl Bs)->Nat->Option ((Sl Bs)×(Sl Bs))) (k_rec_25:Z6->(Sl TSel)->(Sl Bs)->(Sl Bs)->Option ((Sl Bs)×(Sl Bs))) (s2_23:(Sl Bs)):Option ((Sl Bs)×(Sl Bs)):=bif (decide (x19.FKind=(2:Int))) then((Z86 a0 x19.FName).bind fun x34=>guardO (!(!x34.2)) (Z100 s3_9 x19.FName) false fun x37=>bif ((!x34.2)||x37) then(Z102_j15 s10_10 k_next_7 s2_23 s3_9) else((appC 16 s3_9 (⟨false,[x19.FName]⟩:Sl Bs)).bind fun x40=>Z102_j25 a0 s10_10 s2_23 k_next_7 k_rec_25 x40 x34.1.FSels)) else(Z102_j25 a0 s10_10 s2_23 k_next_7 k_rec_25 s3_9 x19.FSels)
def Z102_j49 (s13_44:Nat) (k_next_42:(Sl Bs)->Nat->Option ((Sl Bs)×(Sl Bs))) (s2_50:(Sl Bs)):Option ((Sl Bs)×(Sl Bs)):=k_next_42 s2_50 (s13_44+1)
def Z102_l52 (x19:TSel) (s13_44:Nat) (k_next_42:(Sl Bs)->Nat->Option ((Sl Bs)×(Sl Bs))):Nat->(Sl Bs)->Nat->Option ((Sl Bs)×(Sl Bs))
 | 0,_,_=>none
 | n52+1,s2_53,s14_54=>(x19.FDirs.l[s13_44]?).bind fun x57=>bif (decide (((s14_54:Nat):Int)<((x57.FArgs.l.length:Nat):Int))) then((x19.FDirs.l[s13_44]?).bind fun x61=>(x61.FArgs.l[s14_54]?).bind fun x62=>(Z101 x62.FValue s2_53).bind fun x63=>(Z102_l52 x19 s13_44 k_next_42 n52) x63 (s14_54+1)) else(Z102_j49 s13_44 k_next_42 s2_53)
def Z102_l42 (a0:Z6) (s3_9:(Sl Bs)) (s10_10:Nat) (x19:TSel) (k_next_7:(Sl Bs)->(Sl Bs)->Nat->Option ((Sl Bs)×(Sl Bs))) (k_rec_25:Z6->(Sl TSel)->(Sl Bs)->(Sl Bs)->Option ((Sl Bs)×(Sl Bs))):Nat->(Sl Bs)->Nat->Option ((Sl Bs)×(Sl Bs))
 | 0,_,_=>none
 | n42+1,s2_43,s13_44=>bif (decide (((s13_44:Nat):Int)<((x19.FDirs.l.length:Nat):Int))) then(Z102_l52 x19 s13_44 ((Z102_l42 a0 s3_9 s10_10 x19 k_next_7 k_rec_25 n42)) (Option.elim (x19.FDirs.l[s13_44]?) 1 (fun x57=>x57.FArgs.l.length+1)) s2_43 0) else(Z102_j22 a0 s3_9 s10_10 x19 k_next_7 k_rec_25 s2_43)
def Z102_j20 (a0:Z6) (s3_9:(Sl Bs)) (s10_10:Nat) (x19:TSel) (k_next_7:(Sl Bs)->(Sl Bs)->Nat->Option ((Sl Bs)×(Sl Bs))) (k_rec_25:Z6->(Sl TSel)->(Sl Bs)->(Sl Bs)->Option ((Sl Bs)×(Sl Bs))) (s2_21:(Sl Bs)):Option ((Sl Bs)×(Sl Bs)):=Z102_l42 a0 s3_9 s10_10 x19 k_next_7 k_rec_25 (x19.FDirs.l.length+1) s2_21 0
def Z102_l65 (a0:Z6) (s3_9:(Sl Bs)) (s10_10:Nat) (x19:TSel) (k_next_7:(Sl Bs)->(Sl Bs)->Nat->Option ((Sl Bs)×(Sl Bs))) (k_rec_25:Z6->(Sl TSel)->(Sl Bs)->(Sl Bs)->Option ((Sl Bs)×(Sl Bs))):Nat->(Sl Bs)->Nat->Option ((Sl Bs)×(Sl Bs))
 | 0,_,_=>none
 | n65+1,s2_66,s12_67=>bif (decide (((s12_67:Nat):Int)<((x19.FArgs.l.length:Nat):Int))) then((x19.FArgs.l[s12_67]?).bind fun x73=>(Z101 x73.FValue s2_66).bind fun x74=>(Z102_l65 a0 s3_9 s10_10 x19 k_next_7 k_rec_25 n65) x74 (s12_67+1)) else(Z102_j20 a0 s3_9 s10_10 x19 k_next_7 k_rec_25 s2_66)
def Z102_l7 (a0:Z6) (a1:(Sl TSel)) (k_rec_25:Z6->(Sl TSel)->(Sl Bs)->(Sl Bs)->Option ((Sl Bs)×(Sl Bs))):Nat->(Sl Bs)->(Sl Bs)->Nat->Option ((Sl Bs)×(Sl Bs))
 | 0,_,_,_=>none
 | n7+1,s2_8,s3_9,s10_10=>bif (decide (((s10_10:Nat):Int)<((a1.l.length:Nat):Int))) then((a1.l[s10_10]?).bind fun x19=>Z102_l65 a0 s3_9 s10_10 x19 ((Z102_l7 a0 a1 k_rec_25 n7)) k_rec_25 (x19.FArgs.l.length+1) s2_8 0) else(Z102_j2   s2_8 s3_9)
def Z102_n:Nat->Z6->(Sl TSel)->(Sl Bs)->(Sl Bs)->Option ((Sl Bs)×(Sl Bs))
 | 0,_,_,_,_=>none
 | n+1,a0,a1,a2,a3=>Z102_l7 a0 a1 (Z102_n n) (a1.l.length+1) a2 a3 0
theorem Z102_step (n:Nat) (ih_25:∀{a0:Z6}{a1:Sl TSel}{a2 a3:Sl Bs}{w1:Option Nat}{g2 g3:Nat}{r:((Sl Bs)×(Sl Bs))},Z102_n n a0 a1 a2 a3=some r->∀(H:Heap) (hg2:H g2=some (.tok 1 a2.l.length)) (hg3:H g3=some (.tok 1 a3.l.length)) (ne_g3_g2:g3≠g2),ACalls Tryz.prog 25 [.agg (Z6.c a0),.d (Sl.d 7 TSel.c w1 a1),.d (Sl.d 1 strE (some g2) a2),.d (Sl.d 1 strE (some g3) a3)] H fun v h'=>v=.tup [.d (Sl.d 1 strE (some g2) r.1),.d (Sl.d 1 strE (some g3) r.2)]/\h'=((H.set g2 (some (.tok 1 r.1.l.length))).set g3 (some (.tok 1 r.2.l.length)))):∀{a0:Z6}{a1:Sl TSel}{a2 a3:Sl Bs}{w1:Option Nat}{g2 g3:Nat}{r:((Sl Bs)×(Sl Bs))},Z102_n (n+1) a0 a1 a2 a3=some r->∀(H:Heap) (hg2:H g2=some (.tok 1 a2.l.length)) (hg3:H g3=some (.tok 1 a3.l.length)) (ne_g3_g2:g3≠g2),ACalls Tryz.prog 25 [.agg (Z6.c a0),.d (Sl.d 7 TSel.c w1 a1),.d (Sl.d 1 strE (some g2) a2),.d (Sl.d 1 strE (some g3) a3)] H fun v h'=>v=.tup [.d (Sl.d 1 strE (some g2) r.1),.d (Sl.d 1 strE (some g3) r.2)]/\h'=((H.set g2 (some (.tok 1 r.1.l.length))).set g3 (some (.tok 1 r.2.l.length))):=by
 intro a0 a1 a2 a3 w1 g2 g3 r hE H hg2 hg3 ne_g3_g2;rw [Z102_n] at hE;refine ACalls.oW 114 [.tmp 8,.tmp 9] Tryz.call25 Tryz.func25 ?_;refine AWp.heqA (h':=((H.set g2 (some (.tok 1 a2.l.length))).set g3 (some (.tok 1 a3.l.length)))) (by funext n_; simp only [Heap.set]; (repeat' split)<;>simp_all) ?_;refine seqR (S BX (S As (S As (nil ?_))));refine seqJH KeepsT.nil (fun(z:(Sl Bs)×(Sl Bs))=>[(2,.a (.d (Sl.d 1 strE (some g2) z.1))),(3,.a (.d (Sl.d 1 strE (some g3) z.2)))]) (fun z=>((H.set g2 (some (.tok 1 z.1.l.length))).set g3 (some (.tok 1 z.2.l.length)))) (fun z=>Z102_j2 z.1 z.2=some r) ?_ ?_
 ·intro K2 hK2;refine seqR (S As (nil ?_));refine block ?_;refine loopH (TA 1 (TA 4 KeepsT.nil)) (fun(z:Nat×(Sl Bs)×(Sl Bs)×Nat)=>[(2,.a (.d (Sl.d 1 strE (some g2) z.2.1))),(3,.a (.d (Sl.d 1 strE (some g3) z.2.2.1))),(10,.a (.d (.int .i64 ((z.2.2.2:Nat):Int))))]) (fun z=>((H.set g2 (some (.tok 1 z.2.1.l.length))).set g3 (some (.tok 1 z.2.2.1.l.length)))) (fun z=>z.1) (fun z=>Z102_l7 a0 a1 (Z102_n n) z.1 z.2.1 z.2.2.1 z.2.2.2=some r) ((a1.l.length+1),a2,a3,0) hE Weak.toA ?_
  rintro ⟨n7,s2_8,s3_9,s10_10⟩ hE K7 hK7;try dsimp only at hE
  cases n7 with
  | zero=>cases hE
  | succ n7 =>
    rw [Z102_l7] at hE;refine seqK fun K11 hK11=>?_;refine seqR (S Mv (S Mv ?_));refine sLen (f:=TSel.c) (s:=a1) (TK rfl) rfl rfl rfl rfl fun hL13=>?_;refine S BI (nil ?_);refine cE hE (fun hc14 hE=>?_) (fun hc14 hE=>?_)
    ·try dsimp only at hc14
     have hf14:=of_decide_eq_true hc14;refine sk hK11 ?_;clear hK11 K11;refine seqJH (TA 1 (TA 4 (TA 10 KeepsT.nil))) (fun(z:(Sl Bs)×(Sl Bs))=>[(2,.a (.d (Sl.d 1 strE (some g2) z.1))),(3,.a (.d (Sl.d 1 strE (some g3) z.2)))]) (fun z=>((H.set g2 (some (.tok 1 z.1.l.length))).set g3 (some (.tok 1 z.2.l.length)))) (fun z=>Z102_j15 s10_10 ((Z102_l7 a0 a1 (Z102_n n) n7)) z.1 z.2=some r) ?_ ?_
     ·intro K15 hK15;refine block ?_;refine seqR (S Mv (S Mv ?_));obtain⟨x19,gx19,hE⟩:=bO hE;refine S (ix TSel.c s10_10 gx19) (S Ld ?_);refine Sl ?_;refine Sf ?_;refine nil ?_;refine freezeA 11 _ rfl (KA 1 (KA 2 (KA 3 (KA 4 (KA 10 Keeps.nil))))) ?_;refine seqJH (TA 1 (TA 3 (TA 4 (TA 10 (TA 11 KeepsT.nil))))) (fun(z:(Sl Bs))=>[(2,.a (.d (Sl.d 1 strE (some g2) z)))]) (fun z=>((H.set g2 (some (.tok 1 z.l.length))).set g3 (some (.tok 1 s3_9.l.length)))) (fun z=>Z102_j20 a0 s3_9 s10_10 x19 ((Z102_l7 a0 a1 (Z102_n n) n7)) (Z102_n n) z=some r) ?_ ?_
      ·intro K20 hK20;refine seqR (S As (nil ?_));refine block ?_;refine loopH (TA 1 (TA 3 (TA 4 (TA 10 (TA 11 KeepsT.nil))))) (fun(z:Nat×(Sl Bs)×Nat)=>[(2,.a (.d (Sl.d 1 strE (some g2) z.2.1))),(12,.a (.d (.int .i64 ((z.2.2:Nat):Int))))]) (fun z=>((H.set g2 (some (.tok 1 z.2.1.l.length))).set g3 (some (.tok 1 s3_9.l.length)))) (fun z=>z.1) (fun z=>Z102_l65 a0 s3_9 s10_10 x19 ((Z102_l7 a0 a1 (Z102_n n) n7)) (Z102_n n) z.1 z.2.1 z.2.2=some r) ((x19.FArgs.l.length+1),s2_8,0) hE Weak.toA ?_
       rintro ⟨n65,s2_66,s12_67⟩ hE K65 hK65;try dsimp only at hE
       cases n65 with
       | zero=>cases hE
       | succ n65 =>
         rw [Z102_l65] at hE;refine seqK fun K68 hK68=>?_;refine seqR (S Mv (S Fv (S Ld ?_)));refine sLen (f:=TArg.c) (s:=x19.FArgs) (TK rfl) rfl rfl rfl rfl fun hL70=>?_;refine S BI (nil ?_);refine cE hE (fun hc71 hE=>?_) (fun hc71 hE=>?_)
         ·try dsimp only at hc71
          have hf71:=of_decide_eq_true hc71;refine sk hK68 ?_;clear hK68 K68;refine seqK fun K72 hK72=>?_;refine block ?_;refine region ?_;refine S Fv (S Ld (S Mv ?_));obtain⟨x73,gx73,hE⟩:=bO hE;refine S (ix TArg.c s12_67 gx73) (S Fv (S Ld (S Mv ?_)));obtain⟨x74,gx74,hE⟩:=bO hE;refine sH (callH rfl rfl (Z101_walk gx74 _ hpG)) rfl ?_;refine hq ((H.set g2 (some (.tok 1 x74.l.length))).set g3 (some (.tok 1 s3_9.l.length))) ?_
          refine S As (nil ?_);refine hK72 _ ?_;clear hK72 K72;refine region ?_;refine S Mv ?_;refine SI ?_;refine S As (nil ?_);exact hK65 _ (n65,x74,(s12_67+1)) Weak.toA hE (Nat.lt_succ_self _)
         refine AWp.exit ?_;exact hK20 _ s2_66 Weak.toA hE
      rintro s2_21 hE;try dsimp only at hE
      unfold Z102_j20 at hE;refine seqJH (TA 1 (TA 3 (TA 4 (TA 10 (TA 11 KeepsT.nil))))) (fun(z:(Sl Bs))=>[(2,.a (.d (Sl.d 1 strE (some g2) z)))]) (fun z=>((H.set g2 (some (.tok 1 z.l.length))).set g3 (some (.tok 1 s3_9.l.length)))) (fun z=>Z102_j22 a0 s3_9 s10_10 x19 ((Z102_l7 a0 a1 (Z102_n n) n7)) (Z102_n n) z=some r) ?_ ?_
      ·intro K22 hK22;refine seqR (S As (nil ?_));refine block ?_;refine loopH (TA 1 (TA 3 (TA 4 (TA 10 (TA 11 KeepsT.nil))))) (fun(z:Nat×(Sl Bs)×Nat)=>[(2,.a (.d (Sl.d 1 strE (some g2) z.2.1))),(13,.a (.d (.int .i64 ((z.2.2:Nat):Int))))]) (fun z=>((H.set g2 (some (.tok 1 z.2.1.l.length))).set g3 (some (.tok 1 s3_9.l.length)))) (fun z=>z.1) (fun z=>Z102_l42 a0 s3_9 s10_10 x19 ((Z102_l7 a0 a1 (Z102_n n) n7)) (Z102_n n) z.1 z.2.1 z.2.2=some r) ((x19.FDirs.l.length+1),s2_21,0) hE Weak.toA ?_
       rintro ⟨n42,s2_43,s13_44⟩ hE K42 hK42;try dsimp only at hE
       cases n42 with
       | zero=>cases hE
       | succ n42 =>
         rw [Z102_l42] at hE;refine seqK fun K45 hK45=>?_;refine seqR (S Mv (S Fv (S Ld ?_)));refine sLen (f:=TDir.c) (s:=x19.FDirs) (TK rfl) rfl rfl rfl rfl fun hL47=>?_;refine S BI (nil ?_);refine cE hE (fun hc48 hE=>?_) (fun hc48 hE=>?_)
         ·try dsimp only at hc48
          have hf48:=of_decide_eq_true hc48;refine sk hK45 ?_;clear hK45 K45;refine seqJH (TA 1 (TA 3 (TA 4 (TA 10 (TA 11 (TA 13 KeepsT.nil)))))) (fun(z:(Sl Bs))=>[(2,.a (.d (Sl.d 1 strE (some g2) z)))]) (fun z=>((H.set g2 (some (.tok 1 z.l.length))).set g3 (some (.tok 1 s3_9.l.length)))) (fun z=>Z102_j49 s13_44 ((Z102_l42 a0 s3_9 s10_10 x19 ((Z102_l7 a0 a1 (Z102_n n) n7)) (Z102_n n) n42)) z=some r) ?_ ?_
          ·intro K49 hK49;refine block ?_;refine seqR (S As (nil ?_));refine block ?_;refine loopH (TA 1 (TA 3 (TA 4 (TA 10 (TA 11 (TA 13 KeepsT.nil)))))) (fun(z:Nat×(Sl Bs)×Nat)=>[(2,.a (.d (Sl.d 1 strE (some g2) z.2.1))),(14,.a (.d (.int .i64 ((z.2.2:Nat):Int))))]) (fun z=>((H.set g2 (some (.tok 1 z.2.1.l.length))).set g3 (some (.tok 1 s3_9.l.length)))) (fun z=>z.1) (fun z=>Z102_l52 x19 s13_44 ((Z102_l42 a0 s3_9 s10_10 x19 ((Z102_l7 a0 a1 (Z102_n n) n7)) (Z102_n n) n42)) z.1 z.2.1 z.2.2=some r) ((Option.elim (x19.FDirs.l[s13_44]?) 1 (fun x57=>x57.FArgs.l.length+1)),s2_43,0) hE Weak.toA ?_
           rintro ⟨n52,s2_53,s14_54⟩ hE K52 hK52;try dsimp only at hE
           cases n52 with
           | zero=>cases hE
           | succ n52 =>
             rw [Z102_l52] at hE;refine seqK fun K55 hK55=>?_;refine seqR (S Mv (S Fv (S Ld (S Mv ?_))));obtain⟨x57,gx57,hE⟩:=bO hE;refine S (ix TDir.c s13_44 gx57) (S Fv (S Ld ?_));refine sLen (f:=TArg.c) (s:=x57.FArgs) (TK rfl) rfl rfl rfl rfl fun hL58=>?_;refine S BI (nil ?_);refine cE hE (fun hc59 hE=>?_) (fun hc59 hE=>?_)
             ·try dsimp only at hc59
              have hf59:=of_decide_eq_true hc59;refine sk hK55 ?_;clear hK55 K55;refine seqK fun K60 hK60=>?_;refine block ?_;refine region ?_;refine S Fv (S Ld (S Mv ?_));obtain⟨x61,gx61,hE⟩:=bO hE;refine S (ix TDir.c s13_44 gx61) (S Fv (S Ld (S Mv ?_)));obtain⟨x62,gx62,hE⟩:=bO hE;refine S (ix TArg.c s14_54 gx62) (S Fv (S Ld (S Mv ?_)));obtain⟨x63,gx63,hE⟩:=bO hE;refine sH (callH rfl rfl (Z101_walk gx63 _ hpG)) rfl ?_
              refine hq ((H.set g2 (some (.tok 1 x63.l.length))).set g3 (some (.tok 1 s3_9.l.length))) ?_;refine S As (nil ?_);refine hK60 _ ?_;clear hK60 K60;refine region ?_;refine S Mv ?_;refine SI ?_;refine S As (nil ?_);exact hK52 _ (n52,x63,(s14_54+1)) Weak.toA hE (Nat.lt_succ_self _)
             refine AWp.exit ?_;exact hK49 _ s2_53 Weak.toA hE
          rintro s2_50 hE;try dsimp only at hE
          unfold Z102_j49 at hE;refine region ?_;refine S Mv ?_;refine SI ?_;refine S As (nil ?_);exact hK42 _ (n42,s2_50,(s13_44+1)) Weak.toA hE (Nat.lt_succ_self _)
         refine AWp.exit ?_;exact hK22 _ s2_43 Weak.toA hE
      rintro s2_23 hE;try dsimp only at hE
      unfold Z102_j22 at hE;refine seqR (S Fv ?_);refine s0 (loadV (TK rfl) rfl rfl (congrArg (fun x=>some (A.d x)) (TSel.FSelsD_eq _))) rfl ?_;refine S As (nil ?_);refine seqJH (TA 1 (TA 2 (TA 4 (TA 10 KeepsT.nil)))) (fun(z:(Sl Bs)×(Sl TSel))=>[(3,.a (.d (Sl.d 1 strE (some g3) z.1))),(15,.a (.d (Sl.d 7 TSel.c none z.2)))]) (fun z=>((H.set g2 (some (.tok 1 s2_23.l.length))).set g3 (some (.tok 1 z.1.l.length)))) (fun z=>Z102_j25 a0 s10_10 s2_23 ((Z102_l7 a0 a1 (Z102_n n) n7)) (Z102_n n) z.1 z.2=some r) ?_ ?_
      ·intro K25 hK25;refine seqR (S Fv (S Ld (S BI (nil ?_))));refine cE hE (fun hc32 hE=>?_) (fun hc32 hE=>?_)
       ·refine seqR (S Ld (S Fv (S Ld ?_)));obtain⟨x34,gx34,hE⟩:=bO hE;refine Sc rfl rfl (Z86_walk gx34) ?_;refine S Mv (S EX (S EX ?_));refine Sl ?_;refine Sf ?_;refine S As (nil ?_);refine freezeA 16 _ rfl (KA 1 (KA 2 (KA 3 (KA 4 (KA 10 (KA 11 (KA 17 Keeps.nil))))))) ?_;refine seqK fun K35 hK35=>?_;refine seqR (S Mv (S NB (S Mv (G0 Mv (G0 Fv ?_)))));refine G1 91 rfl Ld ?_;obtain⟨x37,gx37,hE⟩:=gO hE
        refine Gc2 90 92 rfl rfl rfl rfl rfl rfl (fun hC=>Z100_walk (gx37 hC)) ?_;refine S PO (nil ?_);refine cE hE (fun hc38 hE=>?_) (fun hc38 hE=>?_)
        ·refine AWp.exit ?_;exact hK15 _ (s2_23,s3_9) Weak.toA hE
        refine sk hK35 ?_;clear hK35 K35;refine seqR (S Mv (S Fv (S Ld (S BV ?_))));obtain⟨x40,gx40,hE⟩:=bO hE;refine SH (am strE (TK rfl) rfl (TK rfl) (TK rfl) gx40) ?_;refine hq ((H.set g2 (some (.tok 1 s2_23.l.length))).set g3 (some (.tok 1 x40.l.length))) ?_;refine S As (nil ?_);refine region ?_;refine S Fv (S Ld (S As (nil ?_)));exact hK25 _ (x40,x34.1.FSels) Weak.toA hE
       refine AWp.skip ?_;exact hK25 _ (s3_9,x19.FSels) Weak.toA hE
      rintro ⟨s3_26,s15_27⟩ hE;try dsimp only at hE
      unfold Z102_j25 at hE;refine seqR (S Ld (S Mv (S Mv (S Mv ?_))));obtain⟨x29,gx29,hE⟩:=bO hE;refine sH (callH rfl rfl (ih_25 gx29 _ hpG hpG (by assumption))) rfl ?_;refine hq ((H.set g2 (some (.tok 1 x29.1.l.length))).set g3 (some (.tok 1 x29.2.l.length))) ?_;refine S Mv (S EX (S EX (S As (S As (nil ?_)))));refine seqR (S Mv (S As (nil ?_)));refine region ?_;refine S Mv (S As (nil ?_));exact hK15 _ (x29.1,x29.2) Weak.toA hE
     rintro ⟨s2_16,s3_17⟩ hE;try dsimp only at hE
     unfold Z102_j15 at hE;refine region ?_;refine S Mv ?_;refine SI ?_;refine S As (nil ?_);exact hK7 _ (n7,s2_16,s3_17,(s10_10+1)) Weak.toA hE (Nat.lt_succ_self _)
    refine AWp.exit ?_;exact hK2 _ (s2_8,s3_9) Weak.toA hE
 rintro ⟨s2_3,s3_4⟩ hE;try dsimp only at hE
 unfold Z102_j2 at hE;refine seqR (S Mv (S Mv (S As (S As (nil ?_)))));exact rt hE
theorem Z102_all:∀(n:Nat),(∀{a0:Z6}{a1:Sl TSel}{a2 a3:Sl Bs}{w1:Option Nat}{g2 g3:Nat}{r:((Sl Bs)×(Sl Bs))},Z102_n n a0 a1 a2 a3=some r->∀(H:Heap) (hg2:H g2=some (.tok 1 a2.l.length)) (hg3:H g3=some (.tok 1 a3.l.length)) (ne_g3_g2:g3≠g2),ACalls Tryz.prog 25 [.agg (Z6.c a0),.d (Sl.d 7 TSel.c w1 a1),.d (Sl.d 1 strE (some g2) a2),.d (Sl.d 1 strE (some g3) a3)] H fun v h'=>v=.tup [.d (Sl.d 1 strE (some g2) r.1),.d (Sl.d 1 strE (some g3) r.2)]/\h'=((H.set g2 (some (.tok 1 r.1.l.length))).set g3 (some (.tok 1 r.2.l.length))))
 | 0=>fun hE=>by first|cases hE|(rw [Z102_n] at hE; cases hE)
 | n+1=>Z102_step n (Z102_all n)
def Z102 (a0:Z6) (a1:(Sl TSel)) (a2:(Sl Bs)) (a3:(Sl Bs)):Option ((Sl Bs)×(Sl Bs)):=Z102_n F0 a0 a1 a2 a3
theorem Z102_walk {a0:Z6}{a1:Sl TSel}{a2 a3:Sl Bs}{w1:Option Nat}{g2 g3:Nat}{r:((Sl Bs)×(Sl Bs))}(hE:Z102 a0 a1 a2 a3=some r) (H:Heap) (hg2:H g2=some (.tok 1 a2.l.length)) (hg3:H g3=some (.tok 1 a3.l.length)) (ne_g3_g2:g3≠g2):ACalls Tryz.prog 25 [.agg (Z6.c a0),.d (Sl.d 7 TSel.c w1 a1),.d (Sl.d 1 strE (some g2) a2),.d (Sl.d 1 strE (some g3) a3)] H fun v h'=>v=.tup [.d (Sl.d 1 strE (some g2) r.1),.d (Sl.d 1 strE (some g3) r.2)]/\h'=((H.set g2 (some (.tok 1 r.1.l.length))).set g3 (some (.tok 1 r.2.l.length))):=(Z102_all F0) hE H hg2 hg3 ne_g3_g2
def Z99 (a0:Z6) (a1:Int):Option (Sl Bs):=bif ((decide (a1<(0:Int)))||(decide (((a0.FOps.l.length:Nat):Int)<=a1))) then(some (Sl.nil:Sl Bs)) else((idxC a0.FOps.l a1).bind fun x9=>(Z102 a0 x9.FSels (Sl.nil:Sl Bs) (Sl.nil:Sl Bs)).bind fun x10=>some x10.1)
theorem Z99_walk {a0:Z6}{a1:Int}{r:Sl Bs}(hE:Z99 a0 a1=some r) (H:Heap) :ACalls Tryz.prog 9 [.agg (Z6.c a0),.d (.int .i64 a1)] H fun v h'=>v=.a (.d (Sl.d 1 strE none r))/\h'=H:=by
 unfold Z99 at hE;refine ACalls.oW 28 [.tmp 4] Tryz.call9 Tryz.func9 ?_;refine seqR (S BX ?_);refine s0 (assignNil (k':=1) rfl) rfl ?_;refine nil ?_;refine seqK fun K2 hK2=>?_;refine seqR (S Mv (S BI (S Mv (G0 Mv (G0 Fv ?_)))));refine G1 11 rfl Ld ?_;refine gC rfl rfl (fun hC=>ungdA (k:=12) rfl (lenM' (f:=TOp.c) (s:=a0.FOps) (TK rfl) rfl rfl rfl)) rfl ?_;refine G2 10 13 rfl rfl BI ?_;refine S PO (nil ?_)
 refine cE hE (fun hc4 hE=>?_) (fun hc4 hE=>?_)
 ·refine seqR ?_;refine s0 (assignNil (k':=1) rfl) rfl ?_;refine nil ?_;exact rt hE
 refine sk hK2 ?_;clear hK2 K2;refine AWp.tok 1 fun tk2_7 htk2_7=>?_;refine AWp.tok 1 fun tk3_8 htk3_8=>?_;obtain⟨ne_tk3_8_tk2_7,htk3_8⟩:=Heap.set_fresh htk3_8;refine AWp.seqD (Sd Ld (Sd Fv (Sd Ld (Sd Mv ?_))));obtain⟨x9,gx9,hE⟩:=bO hE;refine DOps.s0 (idxM (f:=TOp.c) (TK rfl) rfl (TK rfl) rfl rfl rfl gx9) rfl ?_;refine Sd Fv (Sd Ld ?_);obtain⟨x10,gx10,hE⟩:=bO hE;refine DOps.sH (callH rfl rfl (ACalls.asArgs (.cons (.refl _) (.cons (.refl _) (.cons (AsArg.nil (k':=1) (t:=tk2_7) hpG) (.cons (AsArg.nil (k':=1) (t:=tk3_8) hpG) .nil)))) (Z102_walk gx10 _ hpG hpG (by assumption)))) rfl ?_
 refine DOps.Dh ((H.set tk2_7 (some (.tok 1 x10.1.l.length))).set tk3_8 (some (.tok 1 x10.2.l.length))) ?_;refine Sd Mv (Sd EX (Sd EX (Sd As (Sd As ?_))));refine DOps.nil (by decide +kernel) ?_;refine AWp.dropTok 5 rfl ?_;refine seqR (S Mv (S As (nil ?_)));refine AWp.ret ?_;repeat (first|refine xBlock_ret ?_|refine xThen_ret ?_)
 obtain rfl:=Option.some.inj hE;refine retQ.retF H rfl ⟨rfl,rfl⟩ ?_;intro id_ o_ he_;have e_tk2_7:id_≠tk2_7:=fun e_=>by subst e_; simp_all [Heap.set]
 have e_tk3_8:id_≠tk3_8:=fun e_=>by subst e_; simp_all [Heap.set]
 rw [<- he_];simp only [Heap.set] at he_ ⊢
 (repeat' split)<;>simp_all
end Go.Proofs

namespace Go.Proofs
open Go Go.Ab
open AOps Cert AWp Keeps KeepsT
variable {lou:Lou}
def Z22_j34 (a1:Z6) (a2:Int) (x24:(Sl Z1)) (x25:(Sl Z1))  (s14_35:Int):Option Bool:=(idxC x25.l s14_35).bind fun x37=>(idxC a1.FOps.l a2).bind fun x38=>guardO ((decide (x37.FErr=(Z1.mk (26:Int) x38.FName).FErr)&&((x37.FAt==(Z1.mk (26:Int) x38.FName).FAt)&&true))) (partC x24 (some s14_35) none) (Sl.nil:Sl Z1) fun x39=>guardO ((decide (x37.FErr=(Z1.mk (26:Int) x38.FName).FErr)&&((x37.FAt==(Z1.mk (26:Int) x38.FName).FAt)&&true))) (hid (addC s14_35 (1:Int)) 0) (0:Int) fun x40=>guardO ((decide (x37.FErr=(Z1.mk (26:Int) x38.FName).FErr)&&((x37.FAt==(Z1.mk (26:Int) x38.FName).FAt)&&true))) (partC x25 (some x40) none) (Sl.nil:Sl Z1) fun x41=>guardO ((decide (x37.FErr=(Z1.mk (26:Int) x38.FName).FErr)&&((x37.FAt==(Z1.mk (26:Int) x38.FName).FAt)&&true))) (Z52 x39 x41) false fun x42=>guardO (((decide (x37.FErr=(Z1.mk (26:Int) x38.FName).FErr)&&((x37.FAt==(Z1.mk (26:Int) x38.FName).FAt)&&true))&&x42)) (hid (Z23 ) 0) false fun x43=>some (((decide (x37.FErr=(Z1.mk (26:Int) x38.FName).FErr)&&((x37.FAt==(Z1.mk (26:Int) x38.FName).FAt)&&true))&&x42)&&x43)
def Z22_l44 (a1:Z6) (a2:Int) (x24:(Sl Z1)) (x25:(Sl Z1)) :Nat->Nat->Option Bool
 | 0,_=>none
 | n44+1,s14_45=>guardO ((decide (((s14_45:Nat):Int)<((x24.l.length:Nat):Int)))) (x24.l[s14_45]?) Z1.zero fun x48=>guardO ((decide (((s14_45:Nat):Int)<((x24.l.length:Nat):Int)))) (x25.l[s14_45]?) Z1.zero fun x49=>bif ((decide (((s14_45:Nat):Int)<((x24.l.length:Nat):Int)))&&(decide (x48.FErr=x49.FErr)&&((x48.FAt==x49.FAt)&&true))) then((Z22_l44 a1 a2 x24 x25 n44) (s14_45+1)) else(Z22_j34 a1 a2 x24 x25  ((s14_45:Nat):Int))
def Z22_j17 (a0:TDoc) (a1:Z6) (a2:Int) (x15:(Sl TOp))  (s10_18:(Sl TVar)):Option Bool:=(appC 144 s10_18 (⟨false,[(TVar.mk ([122,122]:Bs) (TRef.mk ([73,110,116]:Bs) (Sl.nil:Sl Int)) false Z7.zero)]⟩:Sl TVar)).bind fun x20=>(idxC x15.l a2).bind fun x22=>(Z139 a0 a1).bind fun x24=>(Z139 a0 (Z6.mk (Sl.setL x15 a2.toNat (TOp.mk x22.FKind x22.FName x20 x22.FSels)) ((Z6.mk (Sl.nil:Sl TOp) a1.FFrags).FFrags))).bind fun x25=>(hid (addC ((x24.l.length:Nat):Int) (1:Int)) 0).bind fun x30=>bif (!decide (((x25.l.length:Nat):Int)=x30)) then(some false) else(Z22_l44 a1 a2 x24 x25 F0 0)
def Z22_l52 (a0:TDoc) (a1:Z6) (a2:Int) (x15:(Sl TOp)) :Nat->(Sl TVar)->Nat->Option Bool
 | 0,_,_=>none
 | n52+1,s10_53,s11_54=>(idxC a1.FOps.l a2).bind fun x57=>bif (decide (((s11_54:Nat):Int)<((x57.FVars.l.length:Nat):Int))) then((idxC a1.FOps.l a2).bind fun x63=>(x63.FVars.l[s11_54]?).bind fun x64=>bif ((x64.FName==([122,122]:Bs))) then((hid (Z23 ) 0).bind fun x67=>some x67) else((idxC a1.FOps.l a2).bind fun x68=>(x68.FVars.l[s11_54]?).bind fun x69=>(appC 144 s10_53 (⟨false,[x69]⟩:Sl TVar)).bind fun x70=>(Z22_l52 a0 a1 a2 x15 n52) x70 (s11_54+1))) else(Z22_j17 a0 a1 a2 x15  s10_53)
def Z22_j11 (a0:TDoc) (a1:Z6) (a2:Int)  :Option Bool:=(appC 72 (Sl.nil:Sl TOp) a1.FOps).bind fun x15=>Z22_l52 a0 a1 a2 x15 F0 (Sl.nil:Sl TVar) 0
def Z22_l72 (a0:TDoc) (a1:Z6) (a2:Int) (x10:(Sl Bs)) :Nat->Nat->Option Bool
 | 0,_=>none
 | n72+1,s8_73=>bif (decide (((s8_73:Nat):Int)<((x10.l.length:Nat):Int))) then((x10.l[s8_73]?).bind fun x80=>bif ((x80==([122,122]:Bs))) then((hid (Z23 ) 0).bind fun x83=>some x83) else((Z22_l72 a0 a1 a2 x10 n72) (s8_73+1))) else(Z22_j11 a0 a1 a2  )
def Z22 (a0:TDoc) (a1:Z6) (a2:Int):Option Bool:=(Z24 a0 a1).bind fun x4=>guardO (!(((!x4)||(decide (a2<(0:Int))))||(decide (((a1.FOps.l.length:Nat):Int)<=a2)))) (idxC a1.FOps.l a2) TOp.zero fun x5=>bif ((((!x4)||(decide (a2<(0:Int))))||(decide (((a1.FOps.l.length:Nat):Int)<=a2)))||(decide ((16:Int)<=((x5.FVars.l.length:Nat):Int)))) then((hid (Z23 ) 0).bind fun x8=>some x8) else((Z99 a1 a2).bind fun x10=>Z22_l72 a0 a1 a2 x10 (x10.l.length+1) 0)
theorem Z22_walk {a0:TDoc}{a1:Z6}{a2:Int}{oT:Ab.Obj}{gT:Nat}{r:Bool}(hE:Z22 a0 a1 a2=some r) (H:Heap) (hgT:H gT=some oT) (hoT:IsTab Tryz.prog oT):ACalls Tryz.prog 4 [.agg (TDoc.c a0),.agg (Z6.c a1),.d (.int .i64 a2)] H fun v h'=>v=.a (.d (.bool r))/\h'=H:=by
 unfold Z22 at hE;refine ACalls.oW 165 [.tmp 6] Tryz.call4 Tryz.func4 ?_;refine AWp.tok 9 fun tk1 htk1=>?_;have ne_tk1_gT:tk1≠gT:=fun e_=>by subst e_; simp_all
 refine AWp.arrO 4 fun ar1 har1=>?_;obtain⟨ne_ar1_tk1,har1⟩:=Heap.set_fresh har1;have ne_ar1_gT:ar1≠gT:=fun e_=>by subst e_; simp_all
 refine seqR (S BX (S BX (S As (nil ?_))));refine seqK fun K2 hK2=>?_;refine seqR (S Ld (S Ld ?_));obtain⟨x4,gx4,hE⟩:=bO hE;refine Sc rfl rfl (Z24_walk gx4) ?_;refine S NB (S Mv (G0 Mv ?_));refine G1 20 rfl BI ?_;refine S PO (S Mv (G0 Mv (G0 Fv ?_)));refine G1 25 rfl Ld ?_;refine gC rfl rfl (fun hC=>ungdA (k:=26) rfl (lenM' (f:=TOp.c) (s:=a1.FOps) (TK rfl) rfl rfl rfl)) rfl ?_;refine G2 24 27 rfl rfl BI ?_
 refine S PO (S Mv (G0 Fv ?_));refine G1 31 rfl Ld ?_;refine G0 Mv ?_;obtain⟨x5,gx5,hE⟩:=gO hE;refine gC rfl rfl (fun hC=>ungdA (k:=32) rfl (ungdA (k:=33) rfl (idxM (f:=TOp.c) (TK rfl) rfl (TK rfl) rfl rfl rfl (gx5 hC)))) rfl ?_;refine G1 34 rfl Fv ?_;refine G1 35 rfl Ld ?_;refine gC rfl rfl (fun hC=>ungdA (k:=36) rfl (lenM' (f:=TVar.c) (s:=x5.FVars) (TK rfl) rfl rfl rfl)) rfl ?_;refine G1 37 rfl BI ?_
 refine S PO (nil ?_);refine cE hE (fun hc6 hE=>?_) (fun hc6 hE=>?_)
 ·refine seqR ?_;obtain⟨x8,gx8,hE⟩:=bO hE;refine s0 (callR rfl rfl (Z23_walk (gT:=gT) (oT:=oT) (hid_out gx8) _ hpG (by assumption))) rfl ?_;refine S As (nil ?_);refine AWp.ret ?_;repeat (first|refine xBlock_ret ?_|refine xThen_ret ?_)
  obtain rfl:=Option.some.inj hE;refine retQ.retF H rfl ⟨rfl,rfl⟩ ?_;intro id_ o_ he_;have e_tk1:id_≠tk1:=fun e_=>by subst e_; simp_all [Heap.set]
  have e_ar1:id_≠ar1:=fun e_=>by subst e_; simp_all [Heap.set]
  rw [<- he_];simp only [Heap.set] at he_ ⊢
  (repeat' split)<;>simp_all
 refine sk hK2 ?_;clear hK2 K2;refine seqR (S Ld (S Mv ?_));obtain⟨x10,gx10,hE⟩:=bO hE;refine Sc rfl rfl (Z99_walk gx10) ?_;refine S As (nil ?_);refine seqJH (TA 2 (TA 3 (TA 4 KeepsT.nil))) (fun(z:Unit)=>[]) (fun z=>((H.set tk1 (some (.tok 9 0))).set ar1 (some (.arr 4 [])))) (fun z=>Z22_j11 a0 a1 a2 =some r) ?_ ?_
 ·intro K11 hK11;refine seqR (S As (nil ?_));refine block ?_;refine loopH (TA 2 (TA 3 (TA 4 (TA 7 KeepsT.nil)))) (fun(z:Nat×Nat)=>[(8,.a (.d (.int .i64 ((z.2:Nat):Int))))]) (fun z=>((H.set tk1 (some (.tok 9 0))).set ar1 (some (.arr 4 [])))) (fun z=>z.1) (fun z=>Z22_l72 a0 a1 a2 x10 z.1 z.2=some r) ((x10.l.length+1),0) hE Weak.toA ?_;rintro ⟨n72,s8_73⟩ hE K72 hK72;try dsimp only at hE
  cases n72 with
  | zero=>cases hE
  | succ n72 =>
    rw [Z22_l72] at hE;refine seqK fun K74 hK74=>?_;refine seqR (S Mv (S Mv ?_));refine sLen (f:=strE) (s:=x10) (TK rfl) rfl rfl rfl rfl fun hL76=>?_;refine S BI (nil ?_);refine cE hE (fun hc77 hE=>?_) (fun hc77 hE=>?_)
    ·try dsimp only at hc77
     have hf77:=of_decide_eq_true hc77;refine sk hK74 ?_;clear hK74 K74;refine seqK fun K78 hK78=>?_;refine block ?_;refine seqR (S Mv (S Mv ?_));obtain⟨x80,gx80,hE⟩:=bO hE;refine S (ix strE s8_73 gx80) (S Ld (S BS (nil ?_)));refine cE hE (fun hc81 hE=>?_) (fun hc81 hE=>?_)
     ·refine seqR ?_;obtain⟨x83,gx83,hE⟩:=bO hE;refine s0 (callR rfl rfl (Z23_walk (gT:=gT) (oT:=oT) (hid_out gx83) _ hpG (by assumption))) rfl ?_;refine S As (nil ?_);refine AWp.ret ?_;repeat (first|refine xBlock_ret ?_|refine xThen_ret ?_)
      obtain rfl:=Option.some.inj hE;refine retQ.retF H rfl ⟨rfl,rfl⟩ ?_;intro id_ o_ he_;have e_tk1:id_≠tk1:=fun e_=>by subst e_; simp_all [Heap.set]
      have e_ar1:id_≠ar1:=fun e_=>by subst e_; simp_all [Heap.set]
      rw [<- he_];simp only [Heap.set] at he_ ⊢
      (repeat' split)<;>simp_all
     refine sk hK78 ?_;clear hK78 K78;refine region ?_;refine S Mv ?_;refine SI ?_;refine S As (nil ?_);exact hK72 _ (n72,(s8_73+1)) Weak.toA hE (Nat.lt_succ_self _)
    refine AWp.exit ?_;exact hK11 _ () Weak.toA hE
 rintro _ hE;try dsimp only at hE
 unfold Z22_j11 at hE;refine seqR (S Fv (S Ld (S BU ?_)));refine Sl ?_;refine AOps.arrO 4 fun tk9_13 htk9_13=>?_;obtain⟨ne_tk9_13_ar1,htk9_13⟩:=Heap.set_fresh htk9_13;obtain⟨ne_tk9_13_tk1,htk9_13⟩:=Heap.set_fresh htk9_13;have ne_tk9_13_gT:tk9_13≠gT:=fun e_=>by subst e_; simp_all
 refine AOps.relocal 0 _ rfl (fun j w cs hh hx=>arr_cell 0 4 4 hh (t:=tk9_13) hpG hx rfl) ?_;refine Sf ?_;refine AOps.relocal 0 _ rfl (fun j w cs hh hx=>arr_cell 0 4 4 hh (t:=tk9_13) hpG hx rfl) ?_;refine nil ?_;refine seqR (S FL (S LL (S Fv (S Ld ?_))));obtain⟨x15,gx15,hE⟩:=bO hE;refine sH (appR (f:=TOp.c) (s:=(Sl.nil:Sl TOp)) (TK rfl) rfl (TK rfl) (TK rfl) ⟨_,rfl⟩ rfl rfl rfl rfl rfl rfl hpG (by first|rfl|simp [Sl.setL,Sl.nil,sortL_len]) rfl gx15) rfl ?_
 refine hq (((H.set tk1 (some (.tok 9 0))).set ar1 (some (.arr 4 []))).set tk9_13 (some (.arr 4 (x15.l.map TOp.c)))) ?_;refine S FL ?_;refine Sf ?_;refine nil ?_;refine seqR (S As (nil ?_));refine AWp.nilTok 10 9 tk1 rfl hpG ?_;refine seqJH (TA 2 (TA 3 (TA 4 (TA 9 KeepsT.nil)))) (fun(z:(Sl TVar))=>[(10,.a (.d (Sl.d 9 TVar.c (some tk1) z)))]) (fun z=>(((H.set tk1 (some (.tok 9 z.l.length))).set ar1 (some (.arr 4 []))).set tk9_13 (some (.arr 4 (x15.l.map TOp.c))))) (fun z=>Z22_j17 a0 a1 a2 x15 z=some r) ?_ ?_
 ·intro K17 hK17;refine seqR (S As (nil ?_));refine block ?_;refine loopH (TA 2 (TA 3 (TA 4 (TA 9 KeepsT.nil)))) (fun(z:Nat×(Sl TVar)×Nat)=>[(10,.a (.d (Sl.d 9 TVar.c (some tk1) z.2.1))),(11,.a (.d (.int .i64 ((z.2.2:Nat):Int))))]) (fun z=>(((H.set tk1 (some (.tok 9 z.2.1.l.length))).set ar1 (some (.arr 4 []))).set tk9_13 (some (.arr 4 (x15.l.map TOp.c))))) (fun z=>z.1) (fun z=>Z22_l52 a0 a1 a2 x15 z.1 z.2.1 z.2.2=some r) (F0,(Sl.nil:Sl TVar),0) hE Weak.toA ?_
  rintro ⟨n52,s10_53,s11_54⟩ hE K52 hK52;try dsimp only at hE
  cases n52 with
  | zero=>cases hE
  | succ n52 =>
    rw [Z22_l52] at hE;refine seqK fun K55 hK55=>?_;refine seqR (S Mv (S Fv (S Ld (S Mv ?_))));obtain⟨x57,gx57,hE⟩:=bO hE;refine s0 (idxM (f:=TOp.c) (TK rfl) rfl (TK rfl) rfl rfl rfl gx57) rfl ?_;refine S Fv (S Ld ?_);refine sLen (f:=TVar.c) (s:=x57.FVars) (TK rfl) rfl rfl rfl rfl fun hL58=>?_;refine S BI (nil ?_);refine cE hE (fun hc59 hE=>?_) (fun hc59 hE=>?_)
    ·try dsimp only at hc59
     have hf59:=of_decide_eq_true hc59;refine sk hK55 ?_;clear hK55 K55;refine seqK fun K60 hK60=>?_;refine block ?_;refine seqK fun K61 hK61=>?_;refine seqR (S Fv (S Ld (S Mv ?_)));obtain⟨x63,gx63,hE⟩:=bO hE;refine s0 (idxM (f:=TOp.c) (TK rfl) rfl (TK rfl) rfl rfl rfl gx63) rfl ?_;refine S Fv (S Ld (S Mv ?_));obtain⟨x64,gx64,hE⟩:=bO hE;refine S (ix TVar.c s11_54 gx64) (S Fv (S Ld (S BS (nil ?_))))
     refine cE hE (fun hc65 hE=>?_) (fun hc65 hE=>?_)
     ·refine seqR ?_;obtain⟨x67,gx67,hE⟩:=bO hE;refine s0 (callR rfl rfl (Z23_walk (gT:=gT) (oT:=oT) (hid_out gx67) _ hpG (by assumption))) rfl ?_;refine S As (nil ?_);refine AWp.ret ?_;repeat (first|refine xBlock_ret ?_|refine xThen_ret ?_)
      obtain rfl:=Option.some.inj hE;refine retQ.retF H rfl ⟨rfl,rfl⟩ ?_;intro id_ o_ he_;have e_tk1:id_≠tk1:=fun e_=>by subst e_; simp_all [Heap.set]
      have e_ar1:id_≠ar1:=fun e_=>by subst e_; simp_all [Heap.set]
      have e_tk9_13:id_≠tk9_13:=fun e_=>by subst e_; simp_all [Heap.set]
      rw [<- he_];simp only [Heap.set] at he_ ⊢
      (repeat' split)<;>simp_all
     refine sk hK61 ?_;clear hK61 K61;refine region ?_;refine S Mv (S Fv (S Ld (S Mv ?_)));obtain⟨x68,gx68,hE⟩:=bO hE;refine s0 (idxM (f:=TOp.c) (TK rfl) rfl (TK rfl) rfl rfl rfl gx68) rfl ?_;refine S Fv (S Ld (S Mv ?_));obtain⟨x69,gx69,hE⟩:=bO hE;refine S (ix TVar.c s11_54 gx69) (S Ld (S BV ?_));obtain⟨x70,gx70,hE⟩:=bO hE;refine SH (am TVar.c (TK rfl) rfl (TK rfl) (TK rfl) gx70) ?_;refine hq (((H.set tk1 (some (.tok 9 x70.l.length))).set ar1 (some (.arr 4 []))).set tk9_13 (some (.arr 4 (x15.l.map TOp.c)))) ?_
     refine S As (nil ?_);refine hK60 _ ?_;clear hK60 K60;refine region ?_;refine S Mv ?_;refine SI ?_;refine S As (nil ?_);exact hK52 _ (n52,x70,(s11_54+1)) Weak.toA hE (Nat.lt_succ_self _)
    refine AWp.exit ?_;exact hK17 _ s10_53 Weak.toA hE
 rintro s10_18 hE;try dsimp only at hE
 unfold Z22_j17 at hE;refine seqR (S Mv (S BU (S BU (S BV ?_))));obtain⟨x20,gx20,hE⟩:=bO hE;refine SH (am TVar.c (TK rfl) rfl (TK rfl) (TK rfl) gx20) ?_;refine hq (((H.set tk1 (some (.tok 9 x20.l.length))).set ar1 (some (.arr 4 []))).set tk9_13 (some (.arr 4 (x15.l.map TOp.c)))) ?_;refine S As (nil ?_);refine seqR (S FL (S LL (S Mv (S Mv ?_))));obtain⟨x22,gx22,hE⟩:=bO hE;refine s0 (idxRi (f:=TOp.c) (TK rfl) rfl (TK rfl) rfl rfl rfl hpG (by first|rfl|simp [Sl.setL,Sl.nil,sortL_len]) gx22) rfl ?_
 refine s0 (fieldR (TK rfl) rfl rfl (TK rfl) rfl rfl) rfl ?_;refine AOps.dropTok 108 rfl ?_;refine sHn (storeR (f:=TOp.c) (l:=x15.l) (i:=a2.toNat) (o:=2) (u:=x22) (u':=(TOp.mk x22.FKind x22.FName x20 x22.FSels)) (TK rfl) rfl rfl hpG (by first|rfl|simp [Sl.setL,Sl.nil,sortL_len]) (idxC_at gx22) rfl rfl (by decide) rfl rfl) rfl rfl ?_;refine hq (((H.set tk1 (some (.tok 9 x20.l.length))).set ar1 (some (.arr 4 []))).set tk9_13 (some (.arr 4 ((Sl.setL x15 a2.toNat (TOp.mk x22.FKind x22.FName x20 x22.FSels)).l.map TOp.c)))) ?_
 refine AOps.relocal 0 ([.arr 4 tk9_13 (Z6.mk (Sl.setL x15 a2.toNat (TOp.mk x22.FKind x22.FName x20 x22.FSels)) ((Z6.mk (Sl.nil:Sl TOp) a1.FFrags).FFrags)).FOps.nl (Z6.mk (Sl.setL x15 a2.toNat (TOp.mk x22.FKind x22.FName x20 x22.FSels)) ((Z6.mk (Sl.nil:Sl TOp) a1.FFrags).FFrags)).FOps.l.length]++(fun s=>[Sl.d 3 Z3.c none s]) (Z6.mk (Sl.setL x15 a2.toNat (TOp.mk x22.FKind x22.FName x20 x22.FSels)) ((Z6.mk (Sl.nil:Sl TOp) a1.FFrags).FFrags)).FFrags) rfl (fun j w cs hh hx=>by first|exact hx|simpa [Sl.setL] using hx) ?_
 refine nil ?_;refine seqK fun K23 hK23=>?_;refine AWp.frzL 0 0 tk9_13 rfl rfl hpG (by first|rfl|(simp [Sl.setL,Sl.nil,sortL_len]; done)|(subst_vars; first|rfl|(simp [Sl.setL,Sl.nil,sortL_len]; done))) ?_;refine AWp.heqA (h':=((H.set tk1 (some (.tok 9 x20.l.length))).set ar1 (some (.arr 4 [])))) (by first|rfl|(rw [Heap.set_set]; rfl)|(funext n_; simp only [Heap.set]; (repeat' split)<;>first|rfl|(exfalso; simp_all; done)|(simp_all; done))) ?_
 refine AWp.draw rfl ?_;refine Sd Ld (Sd Ld ?_);obtain⟨x24,gx24,hE⟩:=bO hE;refine DOps.s0 (callR rfl rfl (Z139_walk (gT:=gT) (oT:=oT) gx24 _ hpG (by assumption))) rfl ?_;refine Sd Ld (Sd LL ?_);obtain⟨x25,gx25,hE⟩:=bO hE;refine DOps.s0 (callR rfl rfl (Z139_walk (gT:=gT) (oT:=oT) gx25 _ hpG (by assumption))) rfl ?_;refine Sd As (Sd As ?_);refine DOps.nil (by decide +kernel) ?_;refine hK23 _ ?_;clear hK23 K23
 refine seqK fun K26 hK26=>?_;refine seqR (S Mv ?_);refine sLen (f:=Z1.c) (s:=x25) (TK rfl) rfl rfl rfl rfl fun hL28=>?_;refine S Mv ?_;refine sLen (f:=Z1.c) (s:=x24) (TK rfl) rfl rfl rfl rfl fun hL29=>?_;obtain⟨x30,gx30,hE⟩:=bO hE;refine s0 (addM rfl rfl (hid_out gx30)) rfl ?_;refine S BI (nil ?_);refine cE hE (fun hc31 hE=>?_) (fun hc31 hE=>?_)
 ·refine seqR (S As (nil ?_));refine AWp.ret ?_;repeat (first|refine xBlock_ret ?_|refine xThen_ret ?_)
  obtain rfl:=Option.some.inj hE;refine retQ.retF H rfl ⟨rfl,rfl⟩ ?_;intro id_ o_ he_;have e_tk1:id_≠tk1:=fun e_=>by subst e_; simp_all [Heap.set]
  have e_ar1:id_≠ar1:=fun e_=>by subst e_; simp_all [Heap.set]
  rw [<- he_];simp only [Heap.set] at he_ ⊢
  (repeat' split)<;>simp_all
 refine sk hK26 ?_;clear hK26 K26;refine seqR (S As (nil ?_));refine seqJH (TA 2 (TA 4 (TA 12 (TA 13 KeepsT.nil)))) (fun(z:Int)=>[(14,.a (.d (.int .i64 z)))]) (fun z=>((H.set tk1 (some (.tok 9 x20.l.length))).set ar1 (some (.arr 4 [])))) (fun z=>Z22_j34 a1 a2 x24 x25 z=some r) ?_ ?_
 ·intro K34 hK34;refine block ?_;refine loopH (TA 2 (TA 4 (TA 12 (TA 13 KeepsT.nil)))) (fun(z:Nat×Nat)=>[(14,.a (.d (.int .i64 ((z.2:Nat):Int))))]) (fun z=>((H.set tk1 (some (.tok 9 x20.l.length))).set ar1 (some (.arr 4 [])))) (fun z=>z.1) (fun z=>Z22_l44 a1 a2 x24 x25 z.1 z.2=some r) (F0,0) hE Weak.toA ?_;rintro ⟨n44,s14_45⟩ hE K44 hK44;try dsimp only at hE
  cases n44 with
  | zero=>cases hE
  | succ n44 =>
    rw [Z22_l44] at hE;refine seqK fun K46 hK46=>?_;refine AWp.seqD (Sd Mv (Sd Mv ?_));refine DOps.s0 (lenM' (f:=Z1.c) (s:=x24) (TK rfl) rfl rfl rfl) rfl ?_;refine Sd BI (Sd Mv (G0d Mv (G0d Mv ?_)));obtain⟨x48,gx48,hE⟩:=gO hE;refine DOps.gC rfl rfl (fun hC=>ungdA (k:=128) rfl (ungdA (k:=129) rfl (idxMn (f:=Z1.c) (n:=s14_45) (TK rfl) rfl (TK rfl) rfl rfl rfl (gx48 hC)))) rfl ?_;refine G1d 130 rfl Ld ?_
    refine G0d Mv (G0d Mv ?_);obtain⟨x49,gx49,hE⟩:=gO hE;refine DOps.gC rfl rfl (fun hC=>ungdA (k:=132) rfl (ungdA (k:=133) rfl (idxMn (f:=Z1.c) (n:=s14_45) (TK rfl) rfl (TK rfl) rfl rfl rfl (gx49 hC)))) rfl ?_;refine G1d 134 rfl Ld ?_;refine DOps.gC rfl rfl (fun hC=>ungdA (k:=131) rfl (ungdA (k:=135) rfl (eqStruct eqt_49 rfl rfl rfl rfl))) rfl ?_;refine Sd PA ?_;refine DOps.nil (by decide +kernel) ?_
    refine cE hE (fun hc50 hE=>?_) (fun hc50 hE=>?_)
    ·try dsimp only at hc50
     have hf50:=of_decide_eq_true (and_left hc50);refine sk hK46 ?_;clear hK46 K46;refine block ?_;refine region ?_;refine S Mv ?_;refine SI ?_;refine S As (nil ?_);exact hK44 _ (n44,(s14_45+1)) Weak.toA hE (Nat.lt_succ_self _)
    refine AWp.exit ?_;exact hK34 _ ((s14_45:Nat):Int) Weak.toA hE
 rintro s14_35 hE;try dsimp only at hE
 unfold Z22_j34 at hE;refine AWp.seqD (Sd Mv (Sd Mv ?_));obtain⟨x37,gx37,hE⟩:=bO hE;refine DOps.s0 (idxM (f:=Z1.c) (TK rfl) rfl (TK rfl) rfl rfl rfl gx37) rfl ?_;refine Sd Ld (Sd Fv (Sd Ld (Sd Mv ?_)));obtain⟨x38,gx38,hE⟩:=bO hE;refine DOps.s0 (idxM (f:=TOp.c) (TK rfl) rfl (TK rfl) rfl rfl rfl gx38) rfl ?_;refine Sd Fv (Sd Ld (Sd BU ?_));refine DOps.s0 (eqStruct eqt_49 rfl rfl rfl rfl) rfl ?_;refine Sd Mv (G0d Mv (G0d Mv ?_))
 obtain⟨x39,gx39,hE⟩:=gO hE;refine DOps.gC rfl rfl (fun hC=>ungdA (k:=153) rfl (ungdA (k:=154) rfl (partM (f:=Z1.c) (l:=(some s14_35)) (r:=none) (TK rfl) rfl (TK rfl) rfl rfl rfl trivial (gx39 hC)))) rfl ?_;refine G0d Mv (G0d Mv ?_);obtain⟨x40,gx40,hE⟩:=gO hE;refine DOps.gC rfl rfl (fun hC=>ungdA (k:=157) rfl (addM rfl rfl (hid_out (gx40 hC)))) rfl ?_;obtain⟨x41,gx41,hE⟩:=gO hE;refine DOps.gC rfl rfl (fun hC=>ungdA (k:=156) rfl (ungdA (k:=158) rfl (partM (f:=Z1.c) (l:=(some x40)) (r:=none) (TK rfl) rfl (TK rfl) rfl rfl rfl trivial (gx41 hC)))) rfl ?_
 obtain⟨x42,gx42,hE⟩:=gO hE;refine Gc2d 155 159 rfl rfl rfl rfl rfl rfl (fun hC=>Z52_walk (gx42 hC)) ?_;refine Sd PA (Sd Mv ?_);obtain⟨x43,gx43,hE⟩:=gO hE;refine DOps.gC rfl rfl (fun hC=>callR rfl rfl (Z23_walk (gT:=gT) (oT:=oT) (hid_out (gx43 hC)) _ hpG (by assumption))) rfl ?_;refine Sd PA (Sd As ?_);refine DOps.nil (by decide +kernel) ?_;refine AWp.ret ?_;repeat (first|refine xBlock_ret ?_|refine xThen_ret ?_)
 obtain rfl:=Option.some.inj hE;refine retQ.retF H rfl ⟨rfl,rfl⟩ ?_;intro id_ o_ he_;have e_tk1:id_≠tk1:=fun e_=>by subst e_; simp_all [Heap.set]
 have e_ar1:id_≠ar1:=fun e_=>by subst e_; simp_all [Heap.set]
 rw [<- he_];simp only [Heap.set] at he_ ⊢
 (repeat' split)<;>simp_all
end Go.Proofs

namespace Go.Proofs
open Go Go.Ab
def Z57_q36 :List Z2->Int->Option (Int)
 | [],s3_37=>some s3_37
 | h36::r36,s3_37=>on (h36) fun x44=>on (h36) fun x45=>(addC ((x44.FArgs.l.length:Nat):Int) ((x45.FDirs.l.length:Nat):Int)).bind fun x46=>(addC s3_37 x46).bind fun x47=>Z57_q36  (r36) x47
theorem Z57_l36_qe {s4_14:Nat}{x22:TDef}{k_next_12:Int->Nat->Option Bool}  (Kb36:(Int)->Option Bool) (hend:∀(n36:Nat) (s3_37:Int) (s6_38:Nat),Z57_j19 s4_14 k_next_12 s3_37=Kb36 s3_37):∀(n36:Nat) (s3_37:Int) (s6_38:Nat),(0<n36/\x22.FFields.l.length<s6_38+n36)->Z57_l36 s4_14 x22 k_next_12 n36 s3_37 s6_38=Option.bind (Z57_q36  (x22.FFields.l.drop s6_38) s3_37) Kb36:=by
 intro n36;induction n36 with
 | zero=>intro s3_37 s6_38 hn; exact absurd hn.1 (by omega)
 | succ n36 ih36 =>
  intro s3_37 s6_38 hn;rw [Z57_l36];by_cases hlt:s6_38<x22.FFields.l.length
  ·obtain⟨h36,hh36⟩:=Qa hlt;rw [Q.drop_of hh36,Z57_q36];refine QT hlt ?_;refine Q.bindPO hh36 fun x44 hx_x44=>?_;refine Q.bindPO hh36 fun x45 hx_x45=>?_;refine Q.bindO rfl fun x46=>?_;refine Q.bindO rfl fun x47=>?_;all_goals exact ih36 _ _ ⟨by omega,by omega⟩
  rw [dL (by omega),Z57_q36];refine QF hlt ?_;exact hend n36 s3_37 s6_38
def Z57_q12 :List TDef->Int->Option (Int)
 | [],s3_13=>some s3_13
 | h12::r12,s3_13=>on (h12) fun x22=>(addC (1:Int) ((x22.FFields.l.length:Nat):Int)).bind fun x25=>(addC x25 ((x22.FMembers.l.length:Nat):Int)).bind fun x27=>(addC x27 ((x22.FInputs.l.length:Nat):Int)).bind fun x29=>(addC x29 ((x22.FDirs.l.length:Nat):Int)).bind fun x31=>(addC x31 ((x22.FImplements.l.length:Nat):Int)).bind fun x33=>(addC s3_13 x33).bind fun x34=>Option.bind (Z57_q36  x22.FFields.l x34) fun s3_37=>on (s3_37) fun s3_20=>Z57_q12  (r12) s3_20
theorem Z57_l12_qe {a0:TDoc}  (Kb12:(Int)->Option Bool) (hend:∀(n12:Nat) (s3_13:Int) (s4_14:Nat),Z57_j8   s3_13=Kb12 s3_13):∀(n12:Nat) (s3_13:Int) (s4_14:Nat),(0<n12/\a0.FDefs.l.length<s4_14+n12)->Z57_l12 a0 n12 s3_13 s4_14=Option.bind (Z57_q12  (a0.FDefs.l.drop s4_14) s3_13) Kb12:=by
 intro n12;induction n12 with
 | zero=>intro s3_13 s4_14 hn; exact absurd hn.1 (by omega)
 | succ n12 ih12 =>
  intro s3_13 s4_14 hn;rw [Z57_l12];by_cases hlt:s4_14<a0.FDefs.l.length
  ·obtain⟨h12,hh12⟩:=Qa hlt;rw [Q.drop_of hh12,Z57_q12];refine QT hlt ?_;refine Q.bindPO hh12 fun x22 hx_x22=>?_;refine Q.bindO rfl fun x25=>?_;refine Q.bindO rfl fun x27=>?_;refine Q.bindO rfl fun x29=>?_;refine Q.bindO rfl fun x31=>?_;refine Q.bindO rfl fun x33=>?_;refine Q.bindO rfl fun x34=>?_;refine Q.wrapOO fun Kb36 hKb36=>?_;refine Z57_l36_qe  Kb36 ?_ _ _ _ ⟨Nat.succ_pos _,by omega⟩;intro n36 s3_37 s6_38
   refine Qe (hKb36 _) ?_;refine Q.wrapPO fun Kj19 hKj19=>?_;have hj19:∀(s3_20:Int),Z57_j19 s4_14 (Z57_l12 a0 n12) s3_20=Kj19 s3_20:=by
    intro s3_20;refine Qe (hKj19 _) ?_;unfold Z57_j19;all_goals exact ih12 _ _ ⟨by omega,by omega⟩
   all_goals exact hj19 _
  rw [dL (by omega),Z57_q12];refine QF hlt ?_;exact hend n12 s3_13 s4_14
def Z57_q (a0:TDoc):Option Bool:=bif (decide ((70:Int)<((a0.FDefs.l.length:Nat):Int))) then(some true) else(Option.bind (Z57_q12  a0.FDefs.l (0:Int)) fun s3_13=>on (s3_13) fun s3_9=>some (decide ((1000:Int)<s3_9)))
theorem Z57_eq (a0:TDoc):Z57 a0=Z57_q a0:=by
 unfold Z57 Z57_q;refine Qs ?_;refine Q.condO ?_ ?_
 ·all_goals rfl
 refine Q.wrapOO fun Kb12 hKb12=>?_;refine Z57_l12_qe  Kb12 ?_ _ _ _ ⟨Nat.succ_pos _,by omega⟩;intro n12 s3_13 s4_14;refine Qe (hKb12 _) ?_;refine Q.wrapPO fun Kj8 hKj8=>?_;have hj8:∀(s3_9:Int),Z57_j8  s3_9=Kj8 s3_9:=by
  intro s3_9;refine Qe (hKj8 _) ?_;unfold Z57_j8;all_goals rfl
 all_goals exact hj8 _
def Z91_q5 (a1:Int) (k_rec_26:(Sl TSel)->Int->Option Bool):List TSel->Option (Unit ⊕ Bool)
 | []=>some (Sum.inl ())
 | h5::r5=>on (bif !(decide (a1<=(0:Int))) then h5 else TSel.zero) fun x13=>guardO (!(decide (a1<=(0:Int)))) (subC a1 (1:Int)) (0:Int) fun x14=>guardO (!(decide (a1<=(0:Int)))) (k_rec_26 x13.FSels x14) false fun x15=>bif ((decide (a1<=(0:Int)))||x15) then(some (Sum.inr true)) else(Z91_q5 a1 k_rec_26 (r5) )
theorem Z91_l5_qe {a0:(Sl TSel)}{a1:Int}{k_rec_26:(Sl TSel)->Int->Option Bool}  (Kb5:(Unit ⊕ Bool)->Option Bool) (hend:∀(n5:Nat) (s5_6:Nat),Z91_j2   =Kb5 (Sum.inl ())) (hret:∀e:Bool,some e=Kb5 (Sum.inr e)):∀(n5:Nat) (s5_6:Nat),(0<n5/\a0.l.length<s5_6+n5)->Z91_l5 a0 a1 k_rec_26 n5 s5_6=Option.bind (Z91_q5 a1 k_rec_26 (a0.l.drop s5_6) ) Kb5:=by
 intro n5;induction n5 with
 | zero=>intro s5_6 hn; exact absurd hn.1 (by omega)
 | succ n5 ih5 =>
  intro s5_6 hn;rw [Z91_l5];by_cases hlt:s5_6<a0.l.length
  ·obtain⟨h5,hh5⟩:=Qa hlt;rw [Q.drop_of hh5,Z91_q5];refine QT hlt ?_;refine Q.guardPO hh5 fun x13 hx_x13=>?_;refine Q.guardOO rfl fun x14=>?_;refine Q.guardOO rfl fun x15=>?_;refine Q.condO ?_ ?_
   ·all_goals exact hret _
   all_goals exact ih5 _ ⟨by omega,by omega⟩
  rw [dL (by omega),Z91_q5];refine QF hlt ?_;exact hend n5 s5_6
def Z91_qn:Nat->(Sl TSel)->Int->Option Bool
 | 0,_,_=>none
 | n+1,a0,a1=>Option.bind (Z91_q5 a1 (Z91_qn n) a0.l ) fun o5=>match o5 with|Sum.inl _=>(on (()) fun _=>some false)|Sum.inr e5=>(some e5)
theorem Z91_qall:∀n:Nat,Z91_n n=Z91_qn n:=by
 intro n;induction n with
 | zero=>exact(by funext a0 a1; first|rfl|(rw [Z91_n,Z91_qn]))
 | succ n ih =>
  funext a0 a1
  refine Qs ?_;rw [Z91_n,Z91_qn];try rw [ih]
  refine Q.wrapOO fun Kb5 hKb5=>?_;refine Z91_l5_qe  Kb5 ?_ ?_ _ _ ⟨Nat.succ_pos _,by omega⟩
  ·intro n5 s5_6;refine Qe (hKb5 _) ?_;try dsimp only
   refine Q.wrapPO fun Kj2 hKj2=>?_;have hj2:Z91_j2  =Kj2 ():=by
    refine Qe (hKj2 _) ?_;unfold Z91_j2;all_goals rfl
   all_goals exact hj2
  intro e5;refine Qe (hKb5 _) ?_;try dsimp only
  all_goals rfl
def Z91_q (a0:(Sl TSel)) (a1:Int):Option Bool:=Z91_qn F0 a0 a1
theorem Z91_eq (a0:(Sl TSel)) (a1:Int):Z91 a0 a1=Z91_q a0 a1:=by
 unfold Z91 Z91_q; rw [(Z91_qall F0)]
def Z90_q7 (a1:Int) (k_rec_27:(Sl TSel)->Int->Option Int):List TSel->Int->Option (Int)
 | [],s5_8=>some s5_8
 | h7::r7,s5_8=>bif (decide (s5_8<a1)) then(on (h7) fun x15=>(addC (1:Int) ((x15.FArgs.l.length:Nat):Int)).bind fun x16=>on (h7) fun x17=>(addC x16 ((x17.FDirs.l.length:Nat):Int)).bind fun x18=>on (h7) fun x19=>(subC a1 s5_8).bind fun x20=>(k_rec_27 x19.FSels x20).bind fun x21=>(addC x18 x21).bind fun x22=>(addC s5_8 x22).bind fun x23=>Z90_q7 a1 k_rec_27 (r7) x23) else(some s5_8)
theorem Z90_l7_qe {a0:(Sl TSel)}{a1:Int}{k_rec_27:(Sl TSel)->Int->Option Int}  (Kb7:(Int)->Option Int) (hend:∀(n7:Nat) (s5_8:Int) (s6_9:Nat),Z90_j3   s5_8=Kb7 s5_8):∀(n7:Nat) (s5_8:Int) (s6_9:Nat),(0<n7/\a0.l.length<s6_9+n7)->Z90_l7 a0 a1 k_rec_27 n7 s5_8 s6_9=Option.bind (Z90_q7 a1 k_rec_27 (a0.l.drop s6_9) s5_8) Kb7:=by
 intro n7;induction n7 with
 | zero=>intro s5_8 s6_9 hn; exact absurd hn.1 (by omega)
 | succ n7 ih7 =>
  intro s5_8 s6_9 hn;rw [Z90_l7];by_cases hlt:s6_9<a0.l.length
  ·obtain⟨h7,hh7⟩:=Qa hlt;rw [Q.drop_of hh7,Z90_q7];refine Q.condAT (Q.ltT hlt) ?_;refine Q.condO ?_ ?_
   ·refine Q.bindPO hh7 fun x15 hx_x15=>?_;refine Q.bindO rfl fun x16=>?_;refine Q.bindPO hh7 fun x17 hx_x17=>?_;refine Q.bindO rfl fun x18=>?_;refine Q.bindPO hh7 fun x19 hx_x19=>?_;refine Q.bindO rfl fun x20=>?_;refine Q.bindO rfl fun x21=>?_;refine Q.bindO rfl fun x22=>?_;refine Q.bindO rfl fun x23=>?_;all_goals exact ih7 _ _ ⟨by omega,by omega⟩
   all_goals exact hend n7 s5_8 s6_9
  rw [dL (by omega),Z90_q7];refine Q.condAF (Q.ltF hlt) ?_;exact hend n7 s5_8 s6_9
def Z90_qn:Nat->(Sl TSel)->Int->Option Int
 | 0,_,_=>none
 | n+1,a0,a1=>Option.bind (Z90_q7 a1 (Z90_qn n) a0.l (0:Int)) fun s5_8=>on (s5_8) fun s5_4=>some s5_4
theorem Z90_qall:∀n:Nat,Z90_n n=Z90_qn n:=by
 intro n;induction n with
 | zero=>exact(by funext a0 a1; first|rfl|(rw [Z90_n,Z90_qn]))
 | succ n ih =>
  funext a0 a1
  refine Qs ?_;rw [Z90_n,Z90_qn];try rw [ih]
  refine Q.wrapOO fun Kb7 hKb7=>?_;refine Z90_l7_qe  Kb7 ?_ _ _ _ ⟨Nat.succ_pos _,by omega⟩;intro n7 s5_8 s6_9;refine Qe (hKb7 _) ?_;refine Q.wrapPO fun Kj3 hKj3=>?_;have hj3:∀(s5_4:Int),Z90_j3  s5_4=Kj3 s5_4:=by
   intro s5_4;refine Qe (hKj3 _) ?_;unfold Z90_j3;all_goals rfl
  all_goals exact hj3 _
def Z90_q (a0:(Sl TSel)) (a1:Int):Option Int:=Z90_qn F0 a0 a1
theorem Z90_eq (a0:(Sl TSel)) (a1:Int):Z90 a0 a1=Z90_q a0 a1:=by
 unfold Z90 Z90_q; rw [(Z90_qall F0)]
def Z87_q32 :List TOp->Int->Option (Int ⊕ Bool)
 | [],s3_33=>some (Sum.inl s3_33)
 | h32::r32,s3_33=>on (h32) fun x42=>(Z91_q x42.FSels (26:Int)).bind fun x43=>on (bif !x43 then h32 else TOp.zero) fun x44=>bif (x43||(decide ((30:Int)<((x44.FVars.l.length:Nat):Int)))) then(some (Sum.inr true)) else(on (h32) fun x47=>(Z90_q x47.FSels (300:Int)).bind fun x48=>(addC s3_33 x48).bind fun x49=>Z87_q32  (r32) x49)
theorem Z87_l32_qe {a0:Z6}  (Kb32:(Int ⊕ Bool)->Option Bool) (hend:∀(n32:Nat) (s3_33:Int) (s4_34:Nat),Z87_j8 a0  s3_33=Kb32 (Sum.inl s3_33)) (hret:∀e:Bool,some e=Kb32 (Sum.inr e)):∀(n32:Nat) (s3_33:Int) (s4_34:Nat),(0<n32/\a0.FOps.l.length<s4_34+n32)->Z87_l32 a0 n32 s3_33 s4_34=Option.bind (Z87_q32  (a0.FOps.l.drop s4_34) s3_33) Kb32:=by
 intro n32;induction n32 with
 | zero=>intro s3_33 s4_34 hn; exact absurd hn.1 (by omega)
 | succ n32 ih32 =>
  intro s3_33 s4_34 hn;rw [Z87_l32];by_cases hlt:s4_34<a0.FOps.l.length
  ·obtain⟨h32,hh32⟩:=Qa hlt;rw [Q.drop_of hh32,Z87_q32];refine QT hlt ?_;refine Q.bindPO hh32 fun x42 hx_x42=>?_;refine Q.bindO (Z91_eq _ _) fun x43=>?_;refine Q.guardPO hh32 fun x44 hx_x44=>?_;refine Q.condO ?_ ?_
   ·all_goals exact hret _
   refine Q.bindPO hh32 fun x47 hx_x47=>?_;refine Q.bindO (Z90_eq _ _) fun x48=>?_;refine Q.bindO rfl fun x49=>?_;all_goals exact ih32 _ _ ⟨by omega,by omega⟩
  rw [dL (by omega),Z87_q32];refine QF hlt ?_;exact hend n32 s3_33 s4_34
def Z87_q14 :List Z3->Int->Option (Int ⊕ Bool)
 | [],s3_15=>some (Sum.inl s3_15)
 | h14::r14,s3_15=>on (h14) fun x24=>(Z91_q x24.FSels (26:Int)).bind fun x25=>bif x25 then(some (Sum.inr true)) else(on (h14) fun x28=>(Z90_q x28.FSels (300:Int)).bind fun x29=>(addC s3_15 x29).bind fun x30=>Z87_q14  (r14) x30)
theorem Z87_l14_qe {a0:Z6}  (Kb14:(Int ⊕ Bool)->Option Bool) (hend:∀(n14:Nat) (s3_15:Int) (s5_16:Nat),Z87_j10   s3_15=Kb14 (Sum.inl s3_15)) (hret:∀e:Bool,some e=Kb14 (Sum.inr e)):∀(n14:Nat) (s3_15:Int) (s5_16:Nat),(0<n14/\a0.FFrags.l.length<s5_16+n14)->Z87_l14 a0 n14 s3_15 s5_16=Option.bind (Z87_q14  (a0.FFrags.l.drop s5_16) s3_15) Kb14:=by
 intro n14;induction n14 with
 | zero=>intro s3_15 s5_16 hn; exact absurd hn.1 (by omega)
 | succ n14 ih14 =>
  intro s3_15 s5_16 hn;rw [Z87_l14];by_cases hlt:s5_16<a0.FFrags.l.length
  ·obtain⟨h14,hh14⟩:=Qa hlt;rw [Q.drop_of hh14,Z87_q14];refine QT hlt ?_;refine Q.bindPO hh14 fun x24 hx_x24=>?_;refine Q.bindO (Z91_eq _ _) fun x25=>?_;refine Q.condO ?_ ?_
   ·all_goals exact hret _
   refine Q.bindPO hh14 fun x28 hx_x28=>?_;refine Q.bindO (Z90_eq _ _) fun x29=>?_;refine Q.bindO rfl fun x30=>?_;all_goals exact ih14 _ _ ⟨by omega,by omega⟩
  rw [dL (by omega),Z87_q14];refine QF hlt ?_;exact hend n14 s3_15 s5_16
def Z87_q (a0:Z6):Option Bool:=bif ((decide ((8:Int)<((a0.FOps.l.length:Nat):Int)))||(decide ((12:Int)<((a0.FFrags.l.length:Nat):Int)))) then(some true) else(Option.bind (Z87_q32  a0.FOps.l (0:Int)) fun o32=>match o32 with|Sum.inl s3_33=>(on (s3_33) fun s3_9=>Option.bind (Z87_q14  a0.FFrags.l s3_9) fun o14=>match o14 with|Sum.inl s3_15=>(on (s3_15) fun s3_11=>some (decide ((300:Int)<s3_11)))|Sum.inr e14=>(some e14))|Sum.inr e32=>(some e32))
theorem Z87_eq (a0:Z6):Z87 a0=Z87_q a0:=by
 unfold Z87 Z87_q;refine Qs ?_;refine Q.condO ?_ ?_
 ·all_goals rfl
 refine Q.wrapOO fun Kb32 hKb32=>?_;refine Z87_l32_qe  Kb32 ?_ ?_ _ _ _ ⟨Nat.succ_pos _,by omega⟩
 ·intro n32 s3_33 s4_34;refine Qe (hKb32 _) ?_;try dsimp only
  refine Q.wrapPO fun Kj8 hKj8=>?_;have hj8:∀(s3_9:Int),Z87_j8 a0 s3_9=Kj8 s3_9:=by
   intro s3_9;refine Qe (hKj8 _) ?_;unfold Z87_j8;refine Q.wrapOO fun Kb14 hKb14=>?_;refine Z87_l14_qe  Kb14 ?_ ?_ _ _ _ ⟨Nat.succ_pos _,by omega⟩
   ·intro n14 s3_15 s5_16;refine Qe (hKb14 _) ?_;try dsimp only
    refine Q.wrapPO fun Kj10 hKj10=>?_;have hj10:∀(s3_11:Int),Z87_j10  s3_11=Kj10 s3_11:=by
     intro s3_11;refine Qe (hKj10 _) ?_;unfold Z87_j10;all_goals rfl
    all_goals exact hj10 _
   intro e14;refine Qe (hKb14 _) ?_;try dsimp only
   all_goals rfl
  all_goals exact hj8 _
 intro e32;refine Qe (hKb32 _) ?_;try dsimp only
 all_goals rfl
def Z28_q (a0:Int):Bool:=((((decide ((65:Int)<=a0))&&(decide (a0<=(90:Int))))||((decide ((97:Int)<=a0))&&(decide (a0<=(122:Int)))))||(decide (a0=(95:Int))))
theorem Z28_eq (a0:Int):Z28 a0=some (Z28_q a0):=by
 unfold Z28 Z28_q;all_goals rfl
def Z27_q (a0:Int):Bool:=((decide ((48:Int)<=a0))&&(decide (a0<=(57:Int))))
theorem Z27_eq (a0:Int):Z27 a0=some (Z27_q a0):=by
 unfold Z27 Z27_q;all_goals rfl
def Z25_q10 :List UInt8->Nat->Unit ⊕ Bool
 | [],s3_11=>Sum.inl ()
 | h10::r10,s3_11=>on (h10) fun x18=>on (Z28_q ((x18.toNat:Nat):Int)) fun x19=>on (bif ((!x19)&&!(decide (((s3_11:Nat):Int)=(0:Int)))) then h10 else(0:UInt8)) fun x20=>on (bif ((!x19)&&!(decide (((s3_11:Nat):Int)=(0:Int)))) then Z27_q ((x20.toNat:Nat):Int) else false) fun x21=>bif ((!x19)&&((decide (((s3_11:Nat):Int)=(0:Int)))||(!x21))) then(Sum.inr false) else(Z25_q10  (r10) (s3_11+1) )
theorem Z25_l10_qe {a0:Bs}  (Kb10:(Unit ⊕ Bool)->Option Bool) (hend:∀(n10:Nat) (s3_11:Nat),Z25_j7   =Kb10 (Sum.inl ())) (hret:∀e:Bool,some e=Kb10 (Sum.inr e)):∀(n10:Nat) (s3_11:Nat),(0<n10/\a0.length<s3_11+n10)->Z25_l10 a0 n10 s3_11=Kb10 (Z25_q10  (a0.drop s3_11) s3_11 ):=by
 intro n10;induction n10 with
 | zero=>intro s3_11 hn; exact absurd hn.1 (by omega)
 | succ n10 ih10 =>
  intro s3_11 hn;rw [Z25_l10];by_cases hlt:s3_11<a0.length
  ·obtain⟨h10,hh10⟩:=Qa hlt;rw [Q.drop_of hh10,Z25_q10];refine QT hlt ?_;refine Q.bindP hh10 fun x18 hx_x18=>?_;refine Q.bindP (Z28_eq _) fun x19 hx_x19=>?_;refine Q.guardP hh10 fun x20 hx_x20=>?_;refine Q.guardP (Z27_eq _) fun x21 hx_x21=>?_;refine Q.condP ?_ ?_
   ·all_goals exact hret _
   all_goals exact ih10 _ ⟨by omega,by omega⟩
  rw [dL (by omega),Z25_q10];refine QF hlt ?_;exact hend n10 s3_11
def Z25_q (a0:Bs):Bool:=bif ((decide (((a0.length:Nat):Int)<(1:Int)))||(decide ((64:Int)<((a0.length:Nat):Int)))) then(false) else(on (Z25_q10  a0 0 ) fun o10=>match o10 with|Sum.inl _=>(on (()) fun _=>true)|Sum.inr e10=>(e10))
theorem Z25_eq (a0:Bs):Z25 a0=some (Z25_q a0):=by
 unfold Z25 Z25_q;refine Q.condP ?_ ?_
 ·all_goals rfl
 refine Q.wrapPP fun Kb10 hKb10=>?_;refine Z25_l10_qe  Kb10 ?_ ?_ _ _ ⟨Nat.succ_pos _,by omega⟩
 ·intro n10 s3_11;refine Qe (hKb10 _) ?_;try dsimp only
  refine Q.wrapPP fun Kj7 hKj7=>?_;have hj7:Z25_j7  =Kj7 ():=by
   refine Qe (hKj7 _) ?_;unfold Z25_j7;all_goals rfl
  all_goals exact hj7
 intro e10;refine Qe (hKb10 _) ?_;try dsimp only
 all_goals rfl
def Z39_q10 (a0:TRef):List Int->Nat->Option (Unit ⊕ Bool)
 | [],s3_11=>some (Sum.inl ())
 | h10::r10,s3_11=>on (h10) fun x19=>on (bif (!decide (x19=(1:Int))) then h10 else(0:Int)) fun x20=>bif ((!decide (x19=(1:Int)))&&(!decide (x20=(2:Int)))) then(some (Sum.inr false)) else(on (bif (decide ((0:Int)<((s3_11:Nat):Int))) then h10 else(0:Int)) fun x24=>guardO (((decide ((0:Int)<((s3_11:Nat):Int)))&&(decide (x24=(1:Int))))) (subC ((s3_11:Nat):Int) (1:Int)) (0:Int) fun x25=>guardO (((decide ((0:Int)<((s3_11:Nat):Int)))&&(decide (x24=(1:Int))))) (idxC a0.FWraps.l x25) (0:Int) fun x26=>bif (((decide ((0:Int)<((s3_11:Nat):Int)))&&(decide (x24=(1:Int))))&&(decide (x26=(1:Int)))) then(some (Sum.inr false)) else(Z39_q10 a0 (r10) (s3_11+1) ))
theorem Z39_l10_qe {a0:TRef}  (Kb10:(Unit ⊕ Bool)->Option Bool) (hend:∀(n10:Nat) (s3_11:Nat),Z39_j7   =Kb10 (Sum.inl ())) (hret:∀e:Bool,some e=Kb10 (Sum.inr e)):∀(n10:Nat) (s3_11:Nat),(0<n10/\a0.FWraps.l.length<s3_11+n10)->Z39_l10 a0 n10 s3_11=Option.bind (Z39_q10 a0 (a0.FWraps.l.drop s3_11) s3_11 ) Kb10:=by
 intro n10;induction n10 with
 | zero=>intro s3_11 hn; exact absurd hn.1 (by omega)
 | succ n10 ih10 =>
  intro s3_11 hn;rw [Z39_l10];by_cases hlt:s3_11<a0.FWraps.l.length
  ·obtain⟨h10,hh10⟩:=Qa hlt;rw [Q.drop_of hh10,Z39_q10];refine QT hlt ?_;refine Q.bindPO hh10 fun x19 hx_x19=>?_;refine Q.guardPO hh10 fun x20 hx_x20=>?_;refine Q.condO ?_ ?_
   ·all_goals exact hret _
   refine Q.guardPO hh10 fun x24 hx_x24=>?_;refine Q.guardOO rfl fun x25=>?_;refine Q.guardOO rfl fun x26=>?_;refine Q.condO ?_ ?_
   ·all_goals exact hret _
   all_goals exact ih10 _ ⟨by omega,by omega⟩
  rw [dL (by omega),Z39_q10];refine QF hlt ?_;exact hend n10 s3_11
def Z39_q (a0:TRef):Option Bool:=on (Z25_q a0.FName) fun x4=>bif ((!x4)||(decide ((24:Int)<((a0.FWraps.l.length:Nat):Int)))) then(some false) else(Option.bind (Z39_q10 a0 a0.FWraps.l 0 ) fun o10=>match o10 with|Sum.inl _=>(on (()) fun _=>some true)|Sum.inr e10=>(some e10))
theorem Z39_eq (a0:TRef):Z39 a0=Z39_q a0:=by
 unfold Z39 Z39_q;refine Qs ?_;refine Q.bindPO (Z25_eq _) fun x4 hx_x4=>?_;refine Q.condO ?_ ?_
 ·all_goals rfl
 refine Q.wrapOO fun Kb10 hKb10=>?_;refine Z39_l10_qe  Kb10 ?_ ?_ _ _ ⟨Nat.succ_pos _,by omega⟩
 ·intro n10 s3_11;refine Qe (hKb10 _) ?_;try dsimp only
  refine Q.wrapPO fun Kj7 hKj7=>?_;have hj7:Z39_j7  =Kj7 ():=by
   refine Qe (hKj7 _) ?_;unfold Z39_j7;all_goals rfl
  all_goals exact hj7
 intro e10;refine Qe (hKb10 _) ?_;try dsimp only
 all_goals rfl
def Z31_q7 (k_rec_99:Z7->Option Int):List Z7->Int->Option (Int)
 | [],s3_8=>some s3_8
 | h7::r7,s3_8=>on (h7) fun x15=>(k_rec_99 x15).bind fun x16=>(addC s3_8 x16).bind fun x17=>Z31_q7 k_rec_99 (r7) x17
theorem Z31_l7_qe {a0:Z7}{k_rec_99:Z7->Option Int}  (Kb7:(Int)->Option Int) (hend:∀(n7:Nat) (s3_8:Int) (s4_9:Nat),Z31_j3   s3_8=Kb7 s3_8):∀(n7:Nat) (s3_8:Int) (s4_9:Nat),(0<n7/\a0.FItems.l.length<s4_9+n7)->Z31_l7 a0 k_rec_99 n7 s3_8 s4_9=Option.bind (Z31_q7 k_rec_99 (a0.FItems.l.drop s4_9) s3_8) Kb7:=by
 intro n7;induction n7 with
 | zero=>intro s3_8 s4_9 hn; exact absurd hn.1 (by omega)
 | succ n7 ih7 =>
  intro s3_8 s4_9 hn;rw [Z31_l7];by_cases hlt:s4_9<a0.FItems.l.length
  ·obtain⟨h7,hh7⟩:=Qa hlt;rw [Q.drop_of hh7,Z31_q7];refine QT hlt ?_;refine Q.bindPO hh7 fun x15 hx_x15=>?_;refine Q.bindO rfl fun x16=>?_;refine Q.bindO rfl fun x17=>?_;all_goals exact ih7 _ _ ⟨by omega,by omega⟩
  rw [dL (by omega),Z31_q7];refine QF hlt ?_;exact hend n7 s3_8 s4_9
def Z31_qn:Nat->Z7->Option Int
 | 0,_=>none
 | n+1,a0=>Option.bind (Z31_q7 (Z31_qn n) a0.FItems.l (1:Int)) fun s3_8=>on (s3_8) fun s3_4=>some s3_4
theorem Z31_qall:∀n:Nat,Z31_n n=Z31_qn n:=by
 intro n;induction n with
 | zero=>exact(by funext a0; first|rfl|(rw [Z31_n,Z31_qn]))
 | succ n ih =>
  funext a0
  refine Qs ?_;rw [Z31_n,Z31_qn];try rw [ih]
  refine Q.wrapOO fun Kb7 hKb7=>?_;refine Z31_l7_qe  Kb7 ?_ _ _ _ ⟨Nat.succ_pos _,by omega⟩;intro n7 s3_8 s4_9;refine Qe (hKb7 _) ?_;refine Q.wrapPO fun Kj3 hKj3=>?_;have hj3:∀(s3_4:Int),Z31_j3  s3_4=Kj3 s3_4:=by
   intro s3_4;refine Qe (hKj3 _) ?_;unfold Z31_j3;all_goals rfl
  all_goals exact hj3 _
def Z31_q (a0:Z7):Option Int:=Z31_qn F0 a0
theorem Z31_eq (a0:Z7):Z31 a0=Z31_q a0:=by
 unfold Z31 Z31_q; rw [(Z31_qall F0)]
def Z29_q8 (k_rec_100:Z7->Option Int):List Z7->Int->Option (Int)
 | [],s3_9=>some s3_9
 | h8::r8,s3_9=>on (h8) fun x16=>(k_rec_100 x16).bind fun x17=>Z29_q8 k_rec_100 (r8) (if x17>s3_9 then x17 else s3_9)
theorem Z29_l8_qe {a0:Z7}{k_rec_100:Z7->Option Int}  (Kb8:(Int)->Option Int) (hend:∀(n8:Nat) (s3_9:Int) (s4_10:Nat),Z29_j3   s3_9=Kb8 s3_9):∀(n8:Nat) (s3_9:Int) (s4_10:Nat),(0<n8/\a0.FItems.l.length<s4_10+n8)->Z29_l8 a0 k_rec_100 n8 s3_9 s4_10=Option.bind (Z29_q8 k_rec_100 (a0.FItems.l.drop s4_10) s3_9) Kb8:=by
 intro n8;induction n8 with
 | zero=>intro s3_9 s4_10 hn; exact absurd hn.1 (by omega)
 | succ n8 ih8 =>
  intro s3_9 s4_10 hn;rw [Z29_l8];by_cases hlt:s4_10<a0.FItems.l.length
  ·obtain⟨h8,hh8⟩:=Qa hlt;rw [Q.drop_of hh8,Z29_q8];refine QT hlt ?_;refine Q.bindPO hh8 fun x16 hx_x16=>?_;refine Q.bindO rfl fun x17=>?_;all_goals exact ih8 _ _ ⟨by omega,by omega⟩
  rw [dL (by omega),Z29_q8];refine QF hlt ?_;exact hend n8 s3_9 s4_10
def Z29_qn:Nat->Z7->Option Int
 | 0,_=>none
 | n+1,a0=>Option.bind (Z29_q8 (Z29_qn n) a0.FItems.l (0:Int)) fun s3_9=>on (s3_9) fun s3_4=>(addC s3_4 (1:Int)).bind fun x6=>some x6
theorem Z29_qall:∀n:Nat,Z29_n n=Z29_qn n:=by
 intro n;induction n with
 | zero=>exact(by funext a0; first|rfl|(rw [Z29_n,Z29_qn]))
 | succ n ih =>
  funext a0
  refine Qs ?_;rw [Z29_n,Z29_qn];try rw [ih]
  refine Q.wrapOO fun Kb8 hKb8=>?_;refine Z29_l8_qe  Kb8 ?_ _ _ _ ⟨Nat.succ_pos _,by omega⟩;intro n8 s3_9 s4_10;refine Qe (hKb8 _) ?_;refine Q.wrapPO fun Kj3 hKj3=>?_;have hj3:∀(s3_4:Int),Z29_j3  s3_4=Kj3 s3_4:=by
   intro s3_4;refine Qe (hKj3 _) ?_;unfold Z29_j3;refine Q.bindO rfl fun x6=>?_;all_goals rfl
  all_goals exact hj3 _
def Z29_q (a0:Z7):Option Int:=Z29_qn F0 a0
theorem Z29_eq (a0:Z7):Z29 a0=Z29_q a0:=by
 unfold Z29 Z29_q; rw [(Z29_qall F0)]
def Z33_q13 (a0:(Sl Bs)) (h5:Bs):Nat->Nat->Option (Unit ⊕ Bool)
 | 0,s4_14=>some (Sum.inl ())
 | r13+1,s4_14=>on (h5) fun x20=>(a0.l[s4_14]?).bind fun x21=>bif ((x20==x21)) then(some (Sum.inr true)) else(Z33_q13 a0 h5 (r13) (s4_14+1) )
theorem Z33_l13_qe {a0:(Sl Bs)}{s3_6:Nat}{k_next_5:Nat->Option Bool}{h5:Bs}(hh5:a0.l[s3_6]?=some h5) (Kb13:(Unit ⊕ Bool)->Option Bool) (hend:∀(n13:Nat) (s4_14:Nat),Z33_j11 s3_6 k_next_5 =Kb13 (Sum.inl ())) (hret:∀e:Bool,some e=Kb13 (Sum.inr e)):∀(n13:Nat) (s4_14:Nat),(0<n13/\s3_6<s4_14+n13)->Z33_l13 a0 s3_6 k_next_5 n13 s4_14=Option.bind (Z33_q13 a0 h5 (s3_6-s4_14) s4_14 ) Kb13:=by
 intro n13;induction n13 with
 | zero=>intro s4_14 hn; exact absurd hn.1 (by omega)
 | succ n13 ih13 =>
  intro s4_14 hn;rw [Z33_l13];by_cases hlt:s4_14<s3_6
  ·rw [show s3_6-s4_14=(s3_6-(s4_14+1))+1 by omega,Z33_q13];refine QT hlt ?_;refine Q.bindPO hh5 fun x20 hx_x20=>?_;refine Q.bindO rfl fun x21=>?_;refine Q.condO ?_ ?_
   ·all_goals exact hret _
   all_goals exact ih13 _ ⟨by omega,by omega⟩
  rw [show s3_6-s4_14=0 by omega,Z33_q13];refine QF hlt ?_;exact hend n13 s4_14
def Z33_q5 (a0:(Sl Bs)):List Bs->Nat->Option (Unit ⊕ Bool)
 | [],s3_6=>some (Sum.inl ())
 | h5::r5,s3_6=>Option.bind (Z33_q13 a0 h5 s3_6 0 ) fun o13=>match o13 with|Sum.inl _=>(on (()) fun _=>Z33_q5 a0 (r5) (s3_6+1) )|Sum.inr e13=>(some (Sum.inr e13))
theorem Z33_l5_qe {a0:(Sl Bs)}  (Kb5:(Unit ⊕ Bool)->Option Bool) (hend:∀(n5:Nat) (s3_6:Nat),Z33_j2   =Kb5 (Sum.inl ())) (hret:∀e:Bool,some e=Kb5 (Sum.inr e)):∀(n5:Nat) (s3_6:Nat),(0<n5/\a0.l.length<s3_6+n5)->Z33_l5 a0 n5 s3_6=Option.bind (Z33_q5 a0 (a0.l.drop s3_6) s3_6 ) Kb5:=by
 intro n5;induction n5 with
 | zero=>intro s3_6 hn; exact absurd hn.1 (by omega)
 | succ n5 ih5 =>
  intro s3_6 hn;rw [Z33_l5];by_cases hlt:s3_6<a0.l.length
  ·obtain⟨h5,hh5⟩:=Qa hlt;rw [Q.drop_of hh5,Z33_q5];refine QT hlt ?_;refine Q.wrapOO fun Kb13 hKb13=>?_;refine Z33_l13_qe hh5 Kb13 ?_ ?_ _ _ ⟨Nat.succ_pos _,by omega⟩
   ·intro n13 s4_14;refine Qe (hKb13 _) ?_;try dsimp only
    refine Q.wrapPO fun Kj11 hKj11=>?_;have hj11:Z33_j11 s3_6 (Z33_l5 a0 n5) =Kj11 ():=by
     refine Qe (hKj11 _) ?_;unfold Z33_j11;all_goals exact ih5 _ ⟨by omega,by omega⟩
    all_goals exact hj11
   intro e13;refine Qe (hKb13 _) ?_;try dsimp only
   all_goals exact hret _
  rw [dL (by omega),Z33_q5];refine QF hlt ?_;exact hend n5 s3_6
def Z33_q (a0:(Sl Bs)):Option Bool:=Option.bind (Z33_q5 a0 a0.l 0 ) fun o5=>match o5 with|Sum.inl _=>(on (()) fun _=>some false)|Sum.inr e5=>(some e5)
theorem Z33_eq (a0:(Sl Bs)):Z33 a0=Z33_q a0:=by
 unfold Z33 Z33_q;refine Qs ?_;refine Q.wrapOO fun Kb5 hKb5=>?_;refine Z33_l5_qe  Kb5 ?_ ?_ _ _ ⟨Nat.succ_pos _,by omega⟩
 ·intro n5 s3_6;refine Qe (hKb5 _) ?_;try dsimp only
  refine Q.wrapPO fun Kj2 hKj2=>?_;have hj2:Z33_j2  =Kj2 ():=by
   refine Qe (hKj2 _) ?_;unfold Z33_j2;all_goals rfl
  all_goals exact hj2
 intro e5;refine Qe (hKb5 _) ?_;try dsimp only
 all_goals rfl
def Z32_q (a0:Z7) (a1:Bool):Option Bool:=bif (decide (a0.FKind=(0:Int))) then(some ((((decide (a0.FInt=(0:Int)))&&((a0.FText==([]:Bs))))&&(decide (((a0.FItems.l.length:Nat):Int)=(0:Int))))&&(decide (((a0.FKeys.l.length:Nat):Int)=(0:Int))))) else(bif (decide (a0.FKind=(1:Int))) then(some (((((decide (a0.FInt=(0:Int)))||(decide (a0.FInt=(1:Int))))&&((a0.FText==([]:Bs))))&&(decide (((a0.FItems.l.length:Nat):Int)=(0:Int))))&&(decide (((a0.FKeys.l.length:Nat):Int)=(0:Int))))) else(bif (decide (a0.FKind=(2:Int))) then(some ((((a0.FText==([]:Bs)))&&(decide (((a0.FItems.l.length:Nat):Int)=(0:Int))))&&(decide (((a0.FKeys.l.length:Nat):Int)=(0:Int))))) else(bif (decide (a0.FKind=(3:Int))) then(some (((decide (a0.FInt=(0:Int)))&&(decide (((a0.FItems.l.length:Nat):Int)=(0:Int))))&&(decide (((a0.FKeys.l.length:Nat):Int)=(0:Int))))) else(bif (decide (a0.FKind=(4:Int))) then(on (bif (((decide (a0.FInt=(0:Int)))&&(decide (((a0.FItems.l.length:Nat):Int)=(0:Int))))&&(decide (((a0.FKeys.l.length:Nat):Int)=(0:Int)))) then Z25_q a0.FText else false) fun x19=>some (((((((decide (a0.FInt=(0:Int)))&&(decide (((a0.FItems.l.length:Nat):Int)=(0:Int))))&&(decide (((a0.FKeys.l.length:Nat):Int)=(0:Int))))&&x19)&&(!(a0.FText==([116,114,117,101]:Bs))))&&(!(a0.FText==([102,97,108,115,101]:Bs))))&&(!(a0.FText==([110,117,108,108]:Bs))))) else(bif (decide (a0.FKind=(5:Int))) then(some (((decide (a0.FInt=(0:Int)))&&((a0.FText==([]:Bs))))&&(decide (((a0.FKeys.l.length:Nat):Int)=(0:Int))))) else(bif (decide (a0.FKind=(6:Int))) then(guardO ((((decide (a0.FInt=(0:Int)))&&((a0.FText==([]:Bs))))&&(decide (((a0.FKeys.l.length:Nat):Int)=((a0.FItems.l.length:Nat):Int))))) (Z33_q a0.FKeys) false fun x26=>some ((((decide (a0.FInt=(0:Int)))&&((a0.FText==([]:Bs))))&&(decide (((a0.FKeys.l.length:Nat):Int)=((a0.FItems.l.length:Nat):Int))))&&(!x26))) else(bif (decide (a0.FKind=(7:Int))) then(on (bif (((a1&&(decide (a0.FInt=(0:Int))))&&(decide (((a0.FItems.l.length:Nat):Int)=(0:Int))))&&(decide (((a0.FKeys.l.length:Nat):Int)=(0:Int)))) then Z25_q a0.FText else false) fun x30=>some ((((a1&&(decide (a0.FInt=(0:Int))))&&(decide (((a0.FItems.l.length:Nat):Int)=(0:Int))))&&(decide (((a0.FKeys.l.length:Nat):Int)=(0:Int))))&&x30)) else(some false))))))))
theorem Z32_eq (a0:Z7) (a1:Bool):Z32 a0 a1=Z32_q a0 a1:=by
 unfold Z32 Z32_q;refine Qs ?_;refine Q.condO ?_ ?_
 ·all_goals rfl
 refine Q.condO ?_ ?_
 ·all_goals rfl
 refine Q.condO ?_ ?_
 ·all_goals rfl
 refine Q.condO ?_ ?_
 ·all_goals rfl
 refine Q.condO ?_ ?_
 ·refine Q.guardPO (Z25_eq _) fun x19 hx_x19=>?_;all_goals rfl
 refine Q.condO ?_ ?_
 ·all_goals rfl
 refine Q.condO ?_ ?_
 ·refine Q.guardOO (Z33_eq _) fun x26=>?_;all_goals rfl
 refine Q.condO ?_ ?_
 ·refine Q.guardPO (Z25_eq _) fun x30 hx_x30=>?_;all_goals rfl
 all_goals rfl
def Z34_q24 (a1:Bool):List Bs->Unit ⊕ Bool
 | []=>Sum.inl ()
 | h24::r24=>on (bif a1 then h24 else([]:Bs)) fun x32=>on (bif a1 then Z25_q x32 else false) fun x33=>bif (a1&&(!x33)) then(Sum.inr false) else(Z34_q24 a1 (r24) )
theorem Z34_l24_qe {a0:Z7}{a1:Bool}{k_rec_101:Z7->Bool->Option Bool}  (Kb24:(Unit ⊕ Bool)->Option Bool) (hend:∀(n24:Nat) (s5_25:Nat),Z34_j7 a0 a1 k_rec_101 =Kb24 (Sum.inl ())) (hret:∀e:Bool,some e=Kb24 (Sum.inr e)):∀(n24:Nat) (s5_25:Nat),(0<n24/\a0.FKeys.l.length<s5_25+n24)->Z34_l24 a0 a1 k_rec_101 n24 s5_25=Kb24 (Z34_q24 a1 (a0.FKeys.l.drop s5_25) ):=by
 intro n24;induction n24 with
 | zero=>intro s5_25 hn; exact absurd hn.1 (by omega)
 | succ n24 ih24 =>
  intro s5_25 hn;rw [Z34_l24];by_cases hlt:s5_25<a0.FKeys.l.length
  ·obtain⟨h24,hh24⟩:=Qa hlt;rw [Q.drop_of hh24,Z34_q24];refine QT hlt ?_;refine Q.guardP hh24 fun x32 hx_x32=>?_;refine Q.guardP (Z25_eq _) fun x33 hx_x33=>?_;refine Q.condP ?_ ?_
   ·all_goals exact hret _
   all_goals exact ih24 _ ⟨by omega,by omega⟩
  rw [dL (by omega),Z34_q24];refine QF hlt ?_;exact hend n24 s5_25
def Z34_q11 (a1:Bool) (k_rec_101:Z7->Bool->Option Bool):List Z7->Option (Unit ⊕ Bool)
 | []=>some (Sum.inl ())
 | h11::r11=>on (h11) fun x19=>(k_rec_101 x19 a1).bind fun x20=>bif (!x20) then(some (Sum.inr false)) else(Z34_q11 a1 k_rec_101 (r11) )
theorem Z34_l11_qe {a0:Z7}{a1:Bool}{k_rec_101:Z7->Bool->Option Bool}  (Kb11:(Unit ⊕ Bool)->Option Bool) (hend:∀(n11:Nat) (s6_12:Nat),Z34_j8   =Kb11 (Sum.inl ())) (hret:∀e:Bool,some e=Kb11 (Sum.inr e)):∀(n11:Nat) (s6_12:Nat),(0<n11/\a0.FItems.l.length<s6_12+n11)->Z34_l11 a0 a1 k_rec_101 n11 s6_12=Option.bind (Z34_q11 a1 k_rec_101 (a0.FItems.l.drop s6_12) ) Kb11:=by
 intro n11;induction n11 with
 | zero=>intro s6_12 hn; exact absurd hn.1 (by omega)
 | succ n11 ih11 =>
  intro s6_12 hn;rw [Z34_l11];by_cases hlt:s6_12<a0.FItems.l.length
  ·obtain⟨h11,hh11⟩:=Qa hlt;rw [Q.drop_of hh11,Z34_q11];refine QT hlt ?_;refine Q.bindPO hh11 fun x19 hx_x19=>?_;refine Q.bindO rfl fun x20=>?_;refine Q.condO ?_ ?_
   ·all_goals exact hret _
   all_goals exact ih11 _ ⟨by omega,by omega⟩
  rw [dL (by omega),Z34_q11];refine QF hlt ?_;exact hend n11 s6_12
def Z34_qn:Nat->Z7->Bool->Option Bool
 | 0,_,_=>none
 | n+1,a0,a1=>(Z32_q a0 a1).bind fun x4=>bif (!x4) then(some false) else(on (Z34_q24 a1 a0.FKeys.l ) fun o24=>match o24 with|Sum.inl _=>(on (()) fun _=>Option.bind (Z34_q11 a1 (Z34_qn n) a0.FItems.l ) fun o11=>match o11 with|Sum.inl _=>(on (()) fun _=>some true)|Sum.inr e11=>(some e11))|Sum.inr e24=>(some e24))
theorem Z34_qall:∀n:Nat,Z34_n n=Z34_qn n:=by
 intro n;induction n with
 | zero=>exact(by funext a0 a1; first|rfl|(rw [Z34_n,Z34_qn]))
 | succ n ih =>
  funext a0 a1
  refine Qs ?_;rw [Z34_n,Z34_qn];try rw [ih]
  refine Q.bindO (Z32_eq _ _) fun x4=>?_;refine Q.condO ?_ ?_
  ·all_goals rfl
  refine Q.wrapPO fun Kb24 hKb24=>?_;refine Z34_l24_qe  Kb24 ?_ ?_ _ _ ⟨Nat.succ_pos _,by omega⟩
  ·intro n24 s5_25;refine Qe (hKb24 _) ?_;try dsimp only
   refine Q.wrapPO fun Kj7 hKj7=>?_;have hj7:Z34_j7 a0 a1 (Z34_qn n) =Kj7 ():=by
    refine Qe (hKj7 _) ?_;unfold Z34_j7;refine Q.wrapOO fun Kb11 hKb11=>?_;refine Z34_l11_qe  Kb11 ?_ ?_ _ _ ⟨Nat.succ_pos _,by omega⟩
    ·intro n11 s6_12;refine Qe (hKb11 _) ?_;try dsimp only
     refine Q.wrapPO fun Kj8 hKj8=>?_;have hj8:Z34_j8  =Kj8 ():=by
      refine Qe (hKj8 _) ?_;unfold Z34_j8;all_goals rfl
     all_goals exact hj8
    intro e11;refine Qe (hKb11 _) ?_;try dsimp only
    all_goals rfl
   all_goals exact hj7
  intro e24;refine Qe (hKb24 _) ?_;try dsimp only
  all_goals rfl
def Z34_q (a0:Z7) (a1:Bool):Option Bool:=Z34_qn F0 a0 a1
theorem Z34_eq (a0:Z7) (a1:Bool):Z34 a0 a1=Z34_q a0 a1:=by
 unfold Z34 Z34_q; rw [(Z34_qall F0)]
def Z30_q (a0:Z7):Option Bool:=(Z31_q a0).bind fun x3=>guardO ((decide (x3<=(4096:Int)))) (Z29_q a0) (0:Int) fun x4=>guardO (((decide (x3<=(4096:Int)))&&(decide (x4<=(24:Int))))) (Z34_q a0 true) false fun x5=>some (((decide (x3<=(4096:Int)))&&(decide (x4<=(24:Int))))&&x5)
theorem Z30_eq (a0:Z7):Z30 a0=Z30_q a0:=by
 unfold Z30 Z30_q;refine Qs ?_;refine Q.bindO (Z31_eq _) fun x3=>?_;refine Q.guardOO (Z29_eq _) fun x4=>?_;refine Q.guardOO (Z34_eq _ _) fun x5=>?_;all_goals rfl
def Z45_q5 (k_rec_65:Z7->Option Bool):List Z7->Option (Unit ⊕ Bool)
 | []=>some (Sum.inl ())
 | h5::r5=>on (h5) fun x13=>(k_rec_65 x13).bind fun x14=>bif (!x14) then(some (Sum.inr false)) else(Z45_q5 k_rec_65 (r5) )
theorem Z45_l5_qe {a0:Z7}{k_rec_65:Z7->Option Bool}  (Kb5:(Unit ⊕ Bool)->Option Bool) (hend:∀(n5:Nat) (s3_6:Nat),Z45_j2 a0  =Kb5 (Sum.inl ())) (hret:∀e:Bool,some e=Kb5 (Sum.inr e)):∀(n5:Nat) (s3_6:Nat),(0<n5/\a0.FItems.l.length<s3_6+n5)->Z45_l5 a0 k_rec_65 n5 s3_6=Option.bind (Z45_q5 k_rec_65 (a0.FItems.l.drop s3_6) ) Kb5:=by
 intro n5;induction n5 with
 | zero=>intro s3_6 hn; exact absurd hn.1 (by omega)
 | succ n5 ih5 =>
  intro s3_6 hn;rw [Z45_l5];by_cases hlt:s3_6<a0.FItems.l.length
  ·obtain⟨h5,hh5⟩:=Qa hlt;rw [Q.drop_of hh5,Z45_q5];refine QT hlt ?_;refine Q.bindPO hh5 fun x13 hx_x13=>?_;refine Q.bindO rfl fun x14=>?_;refine Q.condO ?_ ?_
   ·all_goals exact hret _
   all_goals exact ih5 _ ⟨by omega,by omega⟩
  rw [dL (by omega),Z45_q5];refine QF hlt ?_;exact hend n5 s3_6
def Z45_qn:Nat->Z7->Option Bool
 | 0,_=>none
 | n+1,a0=>Option.bind (Z45_q5 (Z45_qn n) a0.FItems.l ) fun o5=>match o5 with|Sum.inl _=>(on (()) fun _=>some (!decide (a0.FKind=(7:Int))))|Sum.inr e5=>(some e5)
theorem Z45_qall:∀n:Nat,Z45_n n=Z45_qn n:=by
 intro n;induction n with
 | zero=>exact(by funext a0; first|rfl|(rw [Z45_n,Z45_qn]))
 | succ n ih =>
  funext a0
  refine Qs ?_;rw [Z45_n,Z45_qn];try rw [ih]
  refine Q.wrapOO fun Kb5 hKb5=>?_;refine Z45_l5_qe  Kb5 ?_ ?_ _ _ ⟨Nat.succ_pos _,by omega⟩
  ·intro n5 s3_6;refine Qe (hKb5 _) ?_;try dsimp only
   refine Q.wrapPO fun Kj2 hKj2=>?_;have hj2:Z45_j2 a0 =Kj2 ():=by
    refine Qe (hKj2 _) ?_;unfold Z45_j2;all_goals rfl
   all_goals exact hj2
  intro e5;refine Qe (hKb5 _) ?_;try dsimp only
  all_goals rfl
def Z45_q (a0:Z7):Option Bool:=Z45_qn F0 a0
theorem Z45_eq (a0:Z7):Z45 a0=Z45_q a0:=by
 unfold Z45 Z45_q; rw [(Z45_qall F0)]
def Z49_q6 :List TVar->Option (Unit ⊕ Bool)
 | []=>some (Sum.inl ())
 | h6::r6=>on (h6) fun x14=>on (Z25_q x14.FName) fun x17=>guardO (!(!x17)) (Z39_q x14.FType) false fun x18=>guardO (!((!x17)||(!x18))) (Z30_q x14.FDefault) false fun x19=>guardO (!(((!x17)||(!x18))||(!x19))) (Z45_q x14.FDefault) false fun x20=>bif ((((!x17)||(!x18))||(!x19))||(!x20)) then(some (Sum.inr false)) else(bif ((!x14.FHas)&&(!decide (x14.FDefault.FKind=(0:Int)))) then(some (Sum.inr false)) else(Z49_q6  (r6) ))
theorem Z49_l6_qe {a0:(Sl TVar)}  (Kb6:(Unit ⊕ Bool)->Option Bool) (hend:∀(n6:Nat) (s3_7:Nat),Z49_j2 a0  =Kb6 (Sum.inl ())) (hret:∀e:Bool,some e=Kb6 (Sum.inr e)):∀(n6:Nat) (s3_7:Nat),(0<n6/\a0.l.length<s3_7+n6)->Z49_l6 a0 n6 s3_7=Option.bind (Z49_q6  (a0.l.drop s3_7) ) Kb6:=by
 intro n6;induction n6 with
 | zero=>intro s3_7 hn; exact absurd hn.1 (by omega)
 | succ n6 ih6 =>
  intro s3_7 hn;rw [Z49_l6];by_cases hlt:s3_7<a0.l.length
  ·obtain⟨h6,hh6⟩:=Qa hlt;rw [Q.drop_of hh6,Z49_q6];refine QT hlt ?_;refine Q.bindPO hh6 fun x14 hx_x14=>?_;refine Q.bindPO (Z25_eq _) fun x17 hx_x17=>?_;refine Q.guardOO (Z39_eq _) fun x18=>?_;refine Q.guardOO (Z30_eq _) fun x19=>?_;refine Q.guardOO (Z45_eq _) fun x20=>?_;refine Q.condO ?_ ?_
   ·all_goals exact hret _
   refine Q.condO ?_ ?_
   ·all_goals exact hret _
   all_goals exact ih6 _ ⟨by omega,by omega⟩
  rw [dL (by omega),Z49_q6];refine QF hlt ?_;exact hend n6 s3_7
def Z49_q (a0:(Sl TVar)):Option Bool:=Option.bind (Z49_q6  a0.l ) fun o6=>match o6 with|Sum.inl _=>(on (()) fun _=>some (decide (((a0.l.length:Nat):Int)<=(16:Int))))|Sum.inr e6=>(some e6)
theorem Z49_eq (a0:(Sl TVar)):Z49 a0=Z49_q a0:=by
 unfold Z49 Z49_q;refine Qs ?_;refine Q.wrapOO fun Kb6 hKb6=>?_;refine Z49_l6_qe  Kb6 ?_ ?_ _ _ ⟨Nat.succ_pos _,by omega⟩
 ·intro n6 s3_7;refine Qe (hKb6 _) ?_;try dsimp only
  refine Q.wrapPO fun Kj2 hKj2=>?_;have hj2:Z49_j2 a0 =Kj2 ():=by
   refine Qe (hKj2 _) ?_;unfold Z49_j2;all_goals rfl
  all_goals exact hj2
 intro e6;refine Qe (hKb6 _) ?_;try dsimp only
 all_goals rfl
def Z48_q (a0:Bs):Bool:=on (Z25_q a0) fun x3=>(x3&&(!(a0==([111,110]:Bs))))
theorem Z48_eq (a0:Bs):Z48 a0=some (Z48_q a0):=by
 unfold Z48 Z48_q;refine Q.bindP (Z25_eq _) fun x3 hx_x3=>?_;all_goals rfl
def Z44_q6 :List TArg->Option (Unit ⊕ Bool)
 | []=>some (Sum.inl ())
 | h6::r6=>on (h6) fun x14=>on (Z25_q x14.FName) fun x15=>on (bif !(!x15) then h6 else TArg.zero) fun x16=>guardO (!(!x15)) (Z30_q x16.FValue) false fun x17=>bif ((!x15)||(!x17)) then(some (Sum.inr false)) else(Z44_q6  (r6) )
theorem Z44_l6_qe {a0:(Sl TArg)}  (Kb6:(Unit ⊕ Bool)->Option Bool) (hend:∀(n6:Nat) (s3_7:Nat),Z44_j2 a0  =Kb6 (Sum.inl ())) (hret:∀e:Bool,some e=Kb6 (Sum.inr e)):∀(n6:Nat) (s3_7:Nat),(0<n6/\a0.l.length<s3_7+n6)->Z44_l6 a0 n6 s3_7=Option.bind (Z44_q6  (a0.l.drop s3_7) ) Kb6:=by
 intro n6;induction n6 with
 | zero=>intro s3_7 hn; exact absurd hn.1 (by omega)
 | succ n6 ih6 =>
  intro s3_7 hn;rw [Z44_l6];by_cases hlt:s3_7<a0.l.length
  ·obtain⟨h6,hh6⟩:=Qa hlt;rw [Q.drop_of hh6,Z44_q6];refine QT hlt ?_;refine Q.bindPO hh6 fun x14 hx_x14=>?_;refine Q.bindPO (Z25_eq _) fun x15 hx_x15=>?_;refine Q.guardPO hh6 fun x16 hx_x16=>?_;refine Q.guardOO (Z30_eq _) fun x17=>?_;refine Q.condO ?_ ?_
   ·all_goals exact hret _
   all_goals exact ih6 _ ⟨by omega,by omega⟩
  rw [dL (by omega),Z44_q6];refine QF hlt ?_;exact hend n6 s3_7
def Z44_q (a0:(Sl TArg)):Option Bool:=Option.bind (Z44_q6  a0.l ) fun o6=>match o6 with|Sum.inl _=>(on (()) fun _=>some (decide (((a0.l.length:Nat):Int)<=(16:Int))))|Sum.inr e6=>(some e6)
theorem Z44_eq (a0:(Sl TArg)):Z44 a0=Z44_q a0:=by
 unfold Z44 Z44_q;refine Qs ?_;refine Q.wrapOO fun Kb6 hKb6=>?_;refine Z44_l6_qe  Kb6 ?_ ?_ _ _ ⟨Nat.succ_pos _,by omega⟩
 ·intro n6 s3_7;refine Qe (hKb6 _) ?_;try dsimp only
  refine Q.wrapPO fun Kj2 hKj2=>?_;have hj2:Z44_j2 a0 =Kj2 ():=by
   refine Qe (hKj2 _) ?_;unfold Z44_j2;all_goals rfl
  all_goals exact hj2
 intro e6;refine Qe (hKb6 _) ?_;try dsimp only
 all_goals rfl
def Z46_q6 :List TDir->Option (Unit ⊕ Bool)
 | []=>some (Sum.inl ())
 | h6::r6=>on (h6) fun x14=>on (Z25_q x14.FName) fun x15=>on (bif !(!x15) then h6 else TDir.zero) fun x16=>guardO (!(!x15)) (Z44_q x16.FArgs) false fun x17=>bif ((!x15)||(!x17)) then(some (Sum.inr false)) else(Z46_q6  (r6) )
theorem Z46_l6_qe {a0:(Sl TDir)}  (Kb6:(Unit ⊕ Bool)->Option Bool) (hend:∀(n6:Nat) (s3_7:Nat),Z46_j2 a0  =Kb6 (Sum.inl ())) (hret:∀e:Bool,some e=Kb6 (Sum.inr e)):∀(n6:Nat) (s3_7:Nat),(0<n6/\a0.l.length<s3_7+n6)->Z46_l6 a0 n6 s3_7=Option.bind (Z46_q6  (a0.l.drop s3_7) ) Kb6:=by
 intro n6;induction n6 with
 | zero=>intro s3_7 hn; exact absurd hn.1 (by omega)
 | succ n6 ih6 =>
  intro s3_7 hn;rw [Z46_l6];by_cases hlt:s3_7<a0.l.length
  ·obtain⟨h6,hh6⟩:=Qa hlt;rw [Q.drop_of hh6,Z46_q6];refine QT hlt ?_;refine Q.bindPO hh6 fun x14 hx_x14=>?_;refine Q.bindPO (Z25_eq _) fun x15 hx_x15=>?_;refine Q.guardPO hh6 fun x16 hx_x16=>?_;refine Q.guardOO (Z44_eq _) fun x17=>?_;refine Q.condO ?_ ?_
   ·all_goals exact hret _
   all_goals exact ih6 _ ⟨by omega,by omega⟩
  rw [dL (by omega),Z46_q6];refine QF hlt ?_;exact hend n6 s3_7
def Z46_q (a0:(Sl TDir)):Option Bool:=Option.bind (Z46_q6  a0.l ) fun o6=>match o6 with|Sum.inl _=>(on (()) fun _=>some (decide (((a0.l.length:Nat):Int)<=(16:Int))))|Sum.inr e6=>(some e6)
theorem Z46_eq (a0:(Sl TDir)):Z46 a0=Z46_q a0:=by
 unfold Z46 Z46_q;refine Qs ?_;refine Q.wrapOO fun Kb6 hKb6=>?_;refine Z46_l6_qe  Kb6 ?_ ?_ _ _ ⟨Nat.succ_pos _,by omega⟩
 ·intro n6 s3_7;refine Qe (hKb6 _) ?_;try dsimp only
  refine Q.wrapPO fun Kj2 hKj2=>?_;have hj2:Z46_j2 a0 =Kj2 ():=by
   refine Qe (hKj2 _) ?_;unfold Z46_j2;all_goals rfl
  all_goals exact hj2
 intro e6;refine Qe (hKb6 _) ?_;try dsimp only
 all_goals rfl
def r08_selsRight_q10 (a1:Int) (k_rec_66:TSel->Int->Option Bool):List TSel->Option (Unit ⊕ Bool)
 | []=>some (Sum.inl ())
 | h10::r10=>on (h10) fun x18=>(k_rec_66 x18 a1).bind fun x19=>bif (!x19) then(some (Sum.inr false)) else(r08_selsRight_q10 a1 k_rec_66 (r10) )
theorem r08_selsRight_l10_qe {a0:(Sl TSel)}{a1:Int}{k_rec_66:TSel->Int->Option Bool}  (Kb10:(Unit ⊕ Bool)->Option Bool) (hend:∀(n10:Nat) (s5_11:Nat),r08_selsRight_j7   =Kb10 (Sum.inl ())) (hret:∀e:Bool,some e=Kb10 (Sum.inr e)):∀(n10:Nat) (s5_11:Nat),(0<n10/\a0.l.length<s5_11+n10)->r08_selsRight_l10 a0 a1 k_rec_66 n10 s5_11=Option.bind (r08_selsRight_q10 a1 k_rec_66 (a0.l.drop s5_11) ) Kb10:=by
 intro n10;induction n10 with
 | zero=>intro s5_11 hn; exact absurd hn.1 (by omega)
 | succ n10 ih10 =>
  intro s5_11 hn;rw [r08_selsRight_l10];by_cases hlt:s5_11<a0.l.length
  ·obtain⟨h10,hh10⟩:=Qa hlt;rw [Q.drop_of hh10,r08_selsRight_q10];refine QT hlt ?_;refine Q.bindPO hh10 fun x18 hx_x18=>?_;refine Q.bindO rfl fun x19=>?_;refine Q.condO ?_ ?_
   ·all_goals exact hret _
   all_goals exact ih10 _ ⟨by omega,by omega⟩
  rw [dL (by omega),r08_selsRight_q10];refine QF hlt ?_;exact hend n10 s5_11
mutual
def r08_selsRight_qn:Nat->(Sl TSel)->Int->Option Bool
 | 0,_,_=>none
 | n+1,a0,a1=>bif (((decide (((a0.l.length:Nat):Int)=(0:Int)))||(decide ((64:Int)<((a0.l.length:Nat):Int))))||(decide ((24:Int)<a1))) then(some false) else(Option.bind (r08_selsRight_q10 a1 (Z47_qn n) a0.l ) fun o10=>match o10 with|Sum.inl _=>(on (()) fun _=>some true)|Sum.inr e10=>(some e10))
def Z47_qn:Nat->TSel->Int->Option Bool
 | 0,_,_=>none
 | n+1,a0,a1=>(Z46_q a0.FDirs).bind fun x4=>guardO (!(!x4)) (Z44_q a0.FArgs) false fun x5=>bif ((!x4)||(!x5)) then(some false) else(bif (decide (a0.FKind=(1:Int))) then(on (Z25_q a0.FName) fun x13=>on (bif (x13&&!((a0.FAlias==([]:Bs)))) then Z25_q a0.FAlias else false) fun x14=>guardO ((((x13&&(((a0.FAlias==([]:Bs)))||x14))&&((a0.FOn==([]:Bs))))&&!(decide (((a0.FSels.l.length:Nat):Int)=(0:Int))))) (addC a1 (1:Int)) (0:Int) fun x15=>guardO ((((x13&&(((a0.FAlias==([]:Bs)))||x14))&&((a0.FOn==([]:Bs))))&&!(decide (((a0.FSels.l.length:Nat):Int)=(0:Int))))) ((r08_selsRight_qn n) a0.FSels x15) false fun x16=>some (((x13&&(((a0.FAlias==([]:Bs)))||x14))&&((a0.FOn==([]:Bs))))&&((decide (((a0.FSels.l.length:Nat):Int)=(0:Int)))||x16))) else(bif (decide (a0.FKind=(2:Int))) then(on (Z48_q a0.FName) fun x20=>some ((((x20&&((a0.FAlias==([]:Bs))))&&((a0.FOn==([]:Bs))))&&(decide (((a0.FArgs.l.length:Nat):Int)=(0:Int))))&&(decide (((a0.FSels.l.length:Nat):Int)=(0:Int))))) else(bif (decide (a0.FKind=(3:Int))) then(on (bif ((((a0.FName==([]:Bs)))&&((a0.FAlias==([]:Bs))))&&!((a0.FOn==([]:Bs)))) then Z25_q a0.FOn else false) fun x24=>guardO ((((((a0.FName==([]:Bs)))&&((a0.FAlias==([]:Bs))))&&(((a0.FOn==([]:Bs)))||x24))&&(decide (((a0.FArgs.l.length:Nat):Int)=(0:Int))))) (addC a1 (1:Int)) (0:Int) fun x25=>guardO ((((((a0.FName==([]:Bs)))&&((a0.FAlias==([]:Bs))))&&(((a0.FOn==([]:Bs)))||x24))&&(decide (((a0.FArgs.l.length:Nat):Int)=(0:Int))))) ((r08_selsRight_qn n) a0.FSels x25) false fun x26=>some ((((((a0.FName==([]:Bs)))&&((a0.FAlias==([]:Bs))))&&(((a0.FOn==([]:Bs)))||x24))&&(decide (((a0.FArgs.l.length:Nat):Int)=(0:Int))))&&x26)) else(some false))))
end
theorem r08_selsRight_qall:∀n:Nat,r08_selsRight_n n=r08_selsRight_qn n/\Z47_n n=Z47_qn n:=by
 intro n;induction n with
 | zero=>exact⟨(by funext a0 a1; first|rfl|(rw [r08_selsRight_n,r08_selsRight_qn])),(by funext a0 a1; first|rfl|(rw [Z47_n,Z47_qn]))⟩
 | succ n ih =>
  refine⟨?_, ?_⟩
  ·funext a0 a1
   refine Qs ?_;rw [r08_selsRight_n,r08_selsRight_qn];try rw [ih.1]
   try rw [ih.2]
   refine Q.condO ?_ ?_
   ·all_goals rfl
   refine Q.wrapOO fun Kb10 hKb10=>?_;refine r08_selsRight_l10_qe  Kb10 ?_ ?_ _ _ ⟨Nat.succ_pos _,by omega⟩
   ·intro n10 s5_11;refine Qe (hKb10 _) ?_;try dsimp only
    refine Q.wrapPO fun Kj7 hKj7=>?_;have hj7:r08_selsRight_j7  =Kj7 ():=by
     refine Qe (hKj7 _) ?_;unfold r08_selsRight_j7;all_goals rfl
    all_goals exact hj7
   intro e10;refine Qe (hKb10 _) ?_;try dsimp only
   all_goals rfl
  funext a0 a1
  refine Qs ?_;rw [Z47_n,Z47_qn];try rw [ih.1]
  try rw [ih.2]
  refine Q.bindO (Z46_eq _) fun x4=>?_;refine Q.guardOO (Z44_eq _) fun x5=>?_;refine Q.condO ?_ ?_
  ·all_goals rfl
  refine Q.condO ?_ ?_
  ·refine Q.bindPO (Z25_eq _) fun x13 hx_x13=>?_;refine Q.guardPO (Z25_eq _) fun x14 hx_x14=>?_;refine Q.guardOO rfl fun x15=>?_;refine Q.guardOO rfl fun x16=>?_;all_goals rfl
  refine Q.condO ?_ ?_
  ·refine Q.bindPO (Z48_eq _) fun x20 hx_x20=>?_;all_goals rfl
  refine Q.condO ?_ ?_
  ·refine Q.guardPO (Z25_eq _) fun x24 hx_x24=>?_;refine Q.guardOO rfl fun x25=>?_;refine Q.guardOO rfl fun x26=>?_;all_goals rfl
  all_goals rfl
def r08_selsRight_q (a0:(Sl TSel)) (a1:Int):Option Bool:=r08_selsRight_qn F0 a0 a1
theorem r08_selsRight_eq (a0:(Sl TSel)) (a1:Int):r08_selsRight a0 a1=r08_selsRight_q a0 a1:=by
 unfold r08_selsRight r08_selsRight_q; rw [(r08_selsRight_qall F0).1]
end Go.Proofs
