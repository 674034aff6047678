import Derived.Test.YtimiconoebjfbaaGreatDoorV10
set_option maxRecDepth 100000
set_option maxHeartbeats 2000000
set_option linter.unusedVariables false
set_option linter.unusedSimpArgs false
namespace Go.Proofs
open Go Go.Ab
open AOps Cert AWp Keeps KeepsT
variable {lou:Lou}
def vars_checker_sels_j9 (s13_4:Nat) (k_next_3:Nat->Vars_checker->Option Vars_checker) (y10_c0:Vars_checker):Option Vars_checker:=k_next_3 (s13_4+1) y10_c0
def vars_checker_sels_j22 (a3:Bs) (s13_4:Nat) (x12:TSel) (x20:Vars_checker) (k_next_3:Nat->Vars_checker->Option Vars_checker) (k_rec_18:Vars_checker->(Sl TSel)->Bs->Bs->Option Vars_checker) (s10_23:Bs):Option Vars_checker:=(k_rec_18 x20 x12.FSels s10_23 a3).bind fun x24=>vars_checker_sels_j9 s13_4 k_next_3 x24
def vars_checker_sels_l3 (a1:(Sl TSel)) (a2:Bs) (a3:Bs) (k_rec_18:Vars_checker->(Sl TSel)->Bs->Bs->Option Vars_checker) (k_rec_52:Vars_checker->TSel->Bs->Bs->Option Vars_checker):Nat->Nat->Vars_checker->Option Vars_checker
 | 0,_,_=>none
 | n3+1,s13_4,y5_c0=>bif (decide (((s13_4:Nat):Int)<((a1.l.length:Nat):Int))) then((a1.l[s13_4]?).bind fun x12=>bif (decide (x12.FKind=(2:Int))) then((Z132 y5_c0 x12.FDirs a3).bind fun x16=>vars_checker_sels_j9 s13_4 ((vars_checker_sels_l3 a1 a2 a3 k_rec_18 k_rec_52 n3)) x16) else(bif (decide (x12.FKind=(3:Int))) then((Z132 y5_c0 x12.FDirs a3).bind fun x20=>bif (!(x12.FOn==([]:Bs))) then(vars_checker_sels_j22 a3 s13_4 x12 x20 ((vars_checker_sels_l3 a1 a2 a3 k_rec_18 k_rec_52 n3)) k_rec_18 x12.FOn) else(vars_checker_sels_j22 a3 s13_4 x12 x20 ((vars_checker_sels_l3 a1 a2 a3 k_rec_18 k_rec_52 n3)) k_rec_18 a2)) else((k_rec_52 y5_c0 x12 a2 a3).bind fun x27=>vars_checker_sels_j9 s13_4 ((vars_checker_sels_l3 a1 a2 a3 k_rec_18 k_rec_52 n3)) x27))) else(some y5_c0)
def Z133_j11 (a1:TSel) (x7:Bs) (y10_l0:TField) (k_rec_18:Vars_checker->(Sl TSel)->Bs->Bs->Option Vars_checker) (y12_c0:Vars_checker):Option Vars_checker:=(Z132 y12_c0 a1.FDirs x7).bind fun x14=>(k_rec_18 x14 a1.FSels y10_l0.FType.FName x7).bind fun x15=>some x15
def Z133_l18 (a1:TSel) (x7:Bs) (y10_l0:TField) (k_rec_18:Vars_checker->(Sl TSel)->Bs->Bs->Option Vars_checker):Nat->Nat->Vars_checker->Option Vars_checker
 | 0,_,_=>none
 | n18+1,s54_19,y20_c0=>bif (decide (((s54_19:Nat):Int)<((a1.FArgs.l.length:Nat):Int))) then((a1.FArgs.l[s54_19]?).bind fun x26=>(Z93 y10_l0.FArgs x26.FName).bind fun x28=>(Z134 y20_c0 x26.FValue x28.1.FType x28.2 x7).bind fun x29=>(Z133_l18 a1 x7 y10_l0 k_rec_18 n18) (s54_19+1) x29) else(Z133_j11 a1 x7 y10_l0 k_rec_18 y20_c0)
def Z133_j9 (a0:Vars_checker) (a1:TSel) (x7:Bs) (k_rec_18:Vars_checker->(Sl TSel)->Bs->Bs->Option Vars_checker) (y10_l0:TField):Option Vars_checker:=Z133_l18 a1 x7 y10_l0 k_rec_18 (a1.FArgs.l.length+1) 0 a0
def Z133_j3 (a0:Vars_checker) (a1:TSel) (a2:Bs) (a3:Bs) (k_rec_18:Vars_checker->(Sl TSel)->Bs->Bs->Option Vars_checker) (s8_4:Bs):Option Vars_checker:=(catC ([47]:Bs) s8_4).bind fun x6=>(catC a3 x6).bind fun x7=>(Z92 a0.Fd a2).bind fun x31=>guardO (x31.2) (Z90 a0.Fd a2) false fun x33=>bif (x31.2&&x33) then((Z91 x31.1 a1.FName).bind fun x35=>Z133_j9 a0 a1 x7 k_rec_18 x35.1) else(Z133_j9 a0 a1 x7 k_rec_18 TField.zero)
mutual
def vars_checker_sels_n:Nat->Vars_checker->(Sl TSel)->Bs->Bs->Option Vars_checker
 | 0,_,_,_,_=>none
 | n+1,a0,a1,a2,a3=>vars_checker_sels_l3 a1 a2 a3 (vars_checker_sels_n n) (Z133_n n) (a1.l.length+1) 0 a0
def Z133_n:Nat->Vars_checker->TSel->Bs->Bs->Option Vars_checker
 | 0,_,_,_,_=>none
 | n+1,a0,a1,a2,a3=>bif ((a1.FAlias==([]:Bs))) then(Z133_j3 a0 a1 a2 a3 (vars_checker_sels_n n) a1.FName) else(Z133_j3 a0 a1 a2 a3 (vars_checker_sels_n n) a1.FAlias)
end
theorem vars_checker_sels_step (n:Nat) (ih_18:∀{a0:Vars_checker}{a1:Sl TSel}{a2 a3:Bs}{w1:Option Nat}{c0 c0_2:Nat}{r:Vars_checker},vars_checker_sels_n n a0 a1 a2 a3=some r->∀(H:Heap) (hc0:H c0=some (.cells (Vars_checker.cg (some c0_2) a0))) (ht0_2:H c0_2=some (.tok 2 a0.Fout.l.length)),ACalls Tryz.prog 18 [.d (.ptr c0 0),.d (Sl.d 7 TSel.c w1 a1),.d (.str a2),.d (.str a3)] H fun v h'=>v=.tup []/\h'=((H.set c0_2 (some (.tok 2 r.Fout.l.length))).set c0 (some (.cells (Vars_checker.cg (some c0_2) r))))) (ih_52:∀{a0:Vars_checker}{a1:TSel}{a2 a3:Bs}{c0 c0_2:Nat}{r:Vars_checker},Z133_n n a0 a1 a2 a3=some r->∀(H:Heap) (hc0:H c0=some (.cells (Vars_checker.cg (some c0_2) a0))) (ht0_2:H c0_2=some (.tok 2 a0.Fout.l.length)),ACalls Tryz.prog 52 [.d (.ptr c0 0),.agg (TSel.c a1),.d (.str a2),.d (.str a3)] H fun v h'=>v=.tup []/\h'=((H.set c0_2 (some (.tok 2 r.Fout.l.length))).set c0 (some (.cells (Vars_checker.cg (some c0_2) r))))):∀{a0:Vars_checker}{a1:Sl TSel}{a2 a3:Bs}{w1:Option Nat}{c0 c0_2:Nat}{r:Vars_checker},vars_checker_sels_n (n+1) a0 a1 a2 a3=some r->∀(H:Heap) (hc0:H c0=some (.cells (Vars_checker.cg (some c0_2) a0))) (ht0_2:H c0_2=some (.tok 2 a0.Fout.l.length)),ACalls Tryz.prog 18 [.d (.ptr c0 0),.d (Sl.d 7 TSel.c w1 a1),.d (.str a2),.d (.str a3)] H fun v h'=>v=.tup []/\h'=((H.set c0_2 (some (.tok 2 r.Fout.l.length))).set c0 (some (.cells (Vars_checker.cg (some c0_2) r)))):=by
 intro a0 a1 a2 a3 w1 c0 c0_2 r hE H hc0 ht0_2;rw [vars_checker_sels_n] at hE;refine ACalls.oW 51 [] Tryz.call18 Tryz.func18 ?_;have ne_c0_c0_2:c0≠c0_2:=fun e_=>by subst e_; simp_all
 refine AWp.heqA (h':=((H.set c0_2 (some (.tok 2 a0.Fout.l.length))).set c0 (some (.cells (Vars_checker.cg (some c0_2) a0))))) (by funext n_; simp only [Heap.set]; (repeat' split)<;>simp_all) ?_;refine seqR ?_;refine S Mv ?_;refine sLen (f:=TSel.c) (s:=a1) (TK rfl) rfl rfl rfl rfl fun hL2=>?_;refine S Mv ?_;refine nil ?_;refine block ?_;refine loopH (TA 0 (TA 2 (TA 3 (TA 11 (TA 12 KeepsT.nil))))) (fun(z:Nat×Nat×Vars_checker)=>[(13,.a (.d (.int .i64 ((z.2.1:Nat):Int))))]) (fun z=>((H.set c0_2 (some (.tok 2 z.2.2.Fout.l.length))).set c0 (some (.cells (Vars_checker.cg (some c0_2) z.2.2))))) (fun z=>z.1) (fun z=>vars_checker_sels_l3 a1 a2 a3 (vars_checker_sels_n n) (Z133_n n) z.1 z.2.1 z.2.2=some r) ((a1.l.length+1),0,a0) hE Weak.toA ?_
 rintro ⟨n3,s13_4,y5_c0⟩ hE K3 hK3;try dsimp only at hE
 cases n3 with
 | zero=>cases hE
 | succ n3 =>
   rw [vars_checker_sels_l3] at hE;refine seqR ?_;refine S BI ?_;refine nil ?_;refine seqK fun K7 hK7=>?_;refine cE hE (fun hc8 hE=>?_) (fun hc8 hE=>?_)
   ·try dsimp only at hc8
    have hf8:=of_decide_eq_true hc8;refine sk hK7 ?_;clear hK7 K7;refine seqJH (TA 0 (TA 2 (TA 3 (TA 11 (TA 12 (TA 13 KeepsT.nil)))))) (fun(z:Vars_checker)=>[]) (fun z=>((H.set c0_2 (some (.tok 2 z.Fout.l.length))).set c0 (some (.cells (Vars_checker.cg (some c0_2) z))))) (fun z=>vars_checker_sels_j9 s13_4 ((vars_checker_sels_l3 a1 a2 a3 (vars_checker_sels_n n) (Z133_n n) n3)) z=some r) ?_ ?_
    ·intro K9 hK9;refine block ?_;refine seqR ?_;obtain⟨x12,gx12,hE⟩:=bO hE;refine s0 (idxMn (f:=TSel.c) (n:=s13_4) (TK rfl) rfl (TK rfl) rfl rfl rfl gx12) rfl ?_;refine S Ld ?_;refine Sl ?_;refine Sf ?_;refine nil ?_;refine freezeA 9 _ rfl (KA 0 (KA 2 (KA 3 (KA 11 (KA 12 (KA 13 Keeps.nil)))))) ?_;refine seqR ?_;refine S Fv (S Ld ?_);refine nil ?_;refine block ?_;refine seqR ?_;refine S BI (S As ?_)
     refine nil ?_;refine cE hE (fun hc15 hE=>?_) (fun hc15 hE=>?_)
     ·refine region ?_;refine S Mv (S Fv (S Ld (S Mv ?_)));obtain⟨x16,gx16,hE⟩:=bO hE;refine sH (callH rfl rfl (Z132_walk gx16 _ hpG hpG)) rfl ?_;refine hq ((H.set c0_2 (some (.tok 2 x16.Fout.l.length))).set c0 (some (.cells (Vars_checker.cg (some c0_2) x16)))) ?_;refine nil ?_;exact hK9 _ x16 Weak.toA hE
     refine seqR ?_;refine S BI (S As ?_);refine nil ?_;refine cE hE (fun hc18 hE=>?_) (fun hc18 hE=>?_)
     ·refine seqR ?_;refine S Mv (S Fv (S Ld (S Mv ?_)));obtain⟨x20,gx20,hE⟩:=bO hE;refine sH (callH rfl rfl (Z132_walk gx20 _ hpG hpG)) rfl ?_;refine hq ((H.set c0_2 (some (.tok 2 x20.Fout.l.length))).set c0 (some (.cells (Vars_checker.cg (some c0_2) x20)))) ?_;refine nil ?_;refine seqR ?_;refine S Mv (S As ?_);refine nil ?_;refine seqJH (TA 0 (TA 2 (TA 3 (TA 9 (TA 11 (TA 12 (TA 13 KeepsT.nil))))))) (fun(z:Bs)=>[(10,.a (.d (.str z)))]) (fun z=>((H.set c0_2 (some (.tok 2 x20.Fout.l.length))).set c0 (some (.cells (Vars_checker.cg (some c0_2) x20))))) (fun z=>vars_checker_sels_j22 a3 s13_4 x12 x20 ((vars_checker_sels_l3 a1 a2 a3 (vars_checker_sels_n n) (Z133_n n) n3)) (vars_checker_sels_n n) z=some r) ?_ ?_
      ·intro K22 hK22;refine seqR ?_;refine S Fv (S Ld (S BS ?_));refine nil ?_;refine cE hE (fun hc26 hE=>?_) (fun hc26 hE=>?_)
       ·refine region ?_;refine S Fv (S Ld (S As ?_));refine nil ?_;exact hK22 _ x12.FOn Weak.toA hE
       refine AWp.skip ?_;exact hK22 _ a2 Weak.toA hE
      rintro s10_23 hE;try dsimp only at hE
      unfold vars_checker_sels_j22 at hE;refine region ?_;refine S Mv (S Fv ?_);refine s0 (loadV (TK rfl) rfl rfl (congrArg (fun x=>some (A.d x)) (TSel.FSelsD_eq _))) rfl ?_;refine S Mv (S Mv ?_);obtain⟨x24,gx24,hE⟩:=bO hE;refine sH (callH rfl rfl (ih_18 gx24 _ hpG hpG)) rfl ?_;refine hq ((H.set c0_2 (some (.tok 2 x24.Fout.l.length))).set c0 (some (.cells (Vars_checker.cg (some c0_2) x24)))) ?_;refine nil ?_
      exact hK9 _ x24 Weak.toA hE
     refine region ?_;refine S Mv (S Ld (S Mv (S Mv ?_)));obtain⟨x27,gx27,hE⟩:=bO hE;refine sH (callH rfl rfl (ih_52 gx27 _ hpG hpG)) rfl ?_;refine hq ((H.set c0_2 (some (.tok 2 x27.Fout.l.length))).set c0 (some (.cells (Vars_checker.cg (some c0_2) x27)))) ?_;refine nil ?_;exact hK9 _ x27 Weak.toA hE
    rintro y10_c0 hE;try dsimp only at hE
    unfold vars_checker_sels_j9 at hE;refine region ?_;refine SI ?_;refine S Mv ?_;refine nil ?_;exact hK3 _ (n3,(s13_4+1),y10_c0) Weak.toA hE (Nat.lt_succ_self _)
   refine AWp.exit ?_;repeat (first|refine xBlock_normal ?_|refine xThen_exit ?_|refine xBlock_exit ?_)
   obtain rfl:=Option.some.inj hE;refine retQ.normalF ((H.set c0_2 (some (.tok 2 y5_c0.Fout.l.length))).set c0 (some (.cells (Vars_checker.cg (some c0_2) y5_c0)))) (xs:=[]) rfl ⟨rfl,rfl⟩ ?_;exact(fun _ _ h=>h)
theorem Z133_step (n:Nat) (ih_18:∀{a0:Vars_checker}{a1:Sl TSel}{a2 a3:Bs}{w1:Option Nat}{c0 c0_2:Nat}{r:Vars_checker},vars_checker_sels_n n a0 a1 a2 a3=some r->∀(H:Heap) (hc0:H c0=some (.cells (Vars_checker.cg (some c0_2) a0))) (ht0_2:H c0_2=some (.tok 2 a0.Fout.l.length)),ACalls Tryz.prog 18 [.d (.ptr c0 0),.d (Sl.d 7 TSel.c w1 a1),.d (.str a2),.d (.str a3)] H fun v h'=>v=.tup []/\h'=((H.set c0_2 (some (.tok 2 r.Fout.l.length))).set c0 (some (.cells (Vars_checker.cg (some c0_2) r))))) (ih_52:∀{a0:Vars_checker}{a1:TSel}{a2 a3:Bs}{c0 c0_2:Nat}{r:Vars_checker},Z133_n n a0 a1 a2 a3=some r->∀(H:Heap) (hc0:H c0=some (.cells (Vars_checker.cg (some c0_2) a0))) (ht0_2:H c0_2=some (.tok 2 a0.Fout.l.length)),ACalls Tryz.prog 52 [.d (.ptr c0 0),.agg (TSel.c a1),.d (.str a2),.d (.str a3)] H fun v h'=>v=.tup []/\h'=((H.set c0_2 (some (.tok 2 r.Fout.l.length))).set c0 (some (.cells (Vars_checker.cg (some c0_2) r))))):∀{a0:Vars_checker}{a1:TSel}{a2 a3:Bs}{c0 c0_2:Nat}{r:Vars_checker},Z133_n (n+1) a0 a1 a2 a3=some r->∀(H:Heap) (hc0:H c0=some (.cells (Vars_checker.cg (some c0_2) a0))) (ht0_2:H c0_2=some (.tok 2 a0.Fout.l.length)),ACalls Tryz.prog 52 [.d (.ptr c0 0),.agg (TSel.c a1),.d (.str a2),.d (.str a3)] H fun v h'=>v=.tup []/\h'=((H.set c0_2 (some (.tok 2 r.Fout.l.length))).set c0 (some (.cells (Vars_checker.cg (some c0_2) r)))):=by
 intro a0 a1 a2 a3  c0 c0_2 r hE H hc0 ht0_2;rw [Z133_n] at hE;refine ACalls.oW 88 [] Tryz.call52 Tryz.func52 ?_;have ne_c0_c0_2:c0≠c0_2:=fun e_=>by subst e_; simp_all
 refine AWp.heqA (h':=((H.set c0_2 (some (.tok 2 a0.Fout.l.length))).set c0 (some (.cells (Vars_checker.cg (some c0_2) a0))))) (by funext n_; simp only [Heap.set]; (repeat' split)<;>simp_all) ?_;refine seqR ?_;refine S BX ?_;refine nil ?_;refine seqR ?_;refine S Fv (S Ld (S As ?_));refine nil ?_;refine seqJH (TA 0 (TA 2 (TA 3 (TA 5 KeepsT.nil)))) (fun(z:Bs)=>[(8,.a (.d (.str z)))]) (fun z=>((H.set c0_2 (some (.tok 2 a0.Fout.l.length))).set c0 (some (.cells (Vars_checker.cg (some c0_2) a0))))) (fun z=>Z133_j3 a0 a1 a2 a3 (vars_checker_sels_n n) z=some r) ?_ ?_
 ·intro K3 hK3;refine seqR ?_;refine S Mv (S BS ?_);refine nil ?_;refine cE hE (fun hc37 hE=>?_) (fun hc37 hE=>?_)
  ·refine region ?_;refine S Fv (S Ld (S As ?_));refine nil ?_;exact hK3 _ a1.FName Weak.toA hE
  refine AWp.skip ?_;exact hK3 _ a1.FAlias Weak.toA hE
 rintro s8_4 hE;try dsimp only at hE
 unfold Z133_j3 at hE;refine seqR ?_;refine S Mv (S Mv ?_);obtain⟨x6,gx6,hE⟩:=bO hE;refine s0 (catM rfl rfl gx6) rfl ?_;obtain⟨x7,gx7,hE⟩:=bO hE;refine s0 (catM rfl rfl gx7) rfl ?_;refine S As ?_;refine nil ?_;refine seqR ?_;refine Sl ?_;refine nil ?_;refine seqJ (TA 0 (TA 3 (TA 5 (TA 9 KeepsT.nil)))) (fun(z:TField)=>[]) (fun z=>[TField.c z]) (fun z=>((H.set c0_2 (some (.tok 2 a0.Fout.l.length))).set c0 (some (.cells (Vars_checker.cg (some c0_2) a0))))) (fun z=>Z133_j9 a0 a1 x7 (vars_checker_sels_n n) z=some r) ?_ ?_
 ·intro K9 hK9;refine seqR ?_;refine S Mv (S NP ?_);refine s0 (fieldP (TK rfl) rfl rfl (TK rfl) rfl rfl) rfl ?_;refine s0 (loadP (TK rfl) rfl rfl hpG rfl) rfl ?_;refine S Mv ?_;obtain⟨x31,gx31,hE⟩:=bO hE;refine Sc rfl rfl (Z92_walk gx31) ?_;refine S Mv (S EX (S EX ?_));refine Sl ?_;refine Sf ?_;refine S As ?_;refine nil ?_;refine freezeA 10 _ rfl (KA 0 (KA 2 (KA 3 (KA 5 (KA 9 (KA 11 Keeps.nil)))))) ?_
  refine seqR ?_;refine S Mv (S Mv (g0 Mv ?_));refine g1 37 rfl NP ?_;refine gC rfl rfl (fun hC=>ungdA (k:=38) rfl (fieldP (TK rfl) rfl rfl (TK rfl) rfl rfl)) rfl ?_;refine gC rfl rfl (fun hC=>ungdA (k:=39) rfl (loadP (TK rfl) rfl rfl hpG rfl)) rfl ?_;refine g0 Mv ?_;obtain⟨x33,gx33,hE⟩:=gO hE;refine gc2 40 41 rfl rfl rfl rfl rfl rfl (fun hC=>Z90_walk (gx33 hC)) ?_;refine S PA ?_;refine nil ?_;refine cE hE (fun hc34 hE=>?_) (fun hc34 hE=>?_)
  ·refine region ?_;refine S Ld (S Fv (S Ld ?_));obtain⟨x35,gx35,hE⟩:=bO hE;refine Sc rfl rfl (Z91_walk gx35) ?_;refine S Mv (S EX (S EX ?_));refine Sf ?_;refine nil ?_;exact hK9 _ x35.1 Weak.toA hE
  refine AWp.skip ?_;exact hK9 _ TField.zero Weak.toA hE
 rintro y10_l0 hE;try dsimp only at hE
 unfold Z133_j9 at hE;refine seqJH (TA 0 (TA 3 (TA 5 (TA 9 KeepsT.nil)))) (fun(z:Vars_checker)=>[]) (fun z=>((H.set c0_2 (some (.tok 2 z.Fout.l.length))).set c0 (some (.cells (Vars_checker.cg (some c0_2) z))))) (fun z=>Z133_j11 a1 x7 y10_l0 (vars_checker_sels_n n) z=some r) ?_ ?_
 ·intro K11 hK11;refine seqR ?_;refine S Fv (S Ld ?_);refine sLen (f:=TArg.c) (s:=a1.FArgs) (TK rfl) rfl rfl rfl rfl fun hL17=>?_;refine S Mv ?_;refine nil ?_;refine block ?_;refine loopH (TA 0 (TA 3 (TA 5 (TA 9 (TA 52 (TA 53 KeepsT.nil)))))) (fun(z:Nat×Nat×Vars_checker)=>[(54,.a (.d (.int .i64 ((z.2.1:Nat):Int))))]) (fun z=>((H.set c0_2 (some (.tok 2 z.2.2.Fout.l.length))).set c0 (some (.cells (Vars_checker.cg (some c0_2) z.2.2))))) (fun z=>z.1) (fun z=>Z133_l18 a1 x7 y10_l0 (vars_checker_sels_n n) z.1 z.2.1 z.2.2=some r) ((a1.FArgs.l.length+1),0,a0) hE Weak.toA ?_
  rintro ⟨n18,s54_19,y20_c0⟩ hE K18 hK18;try dsimp only at hE
  cases n18 with
  | zero=>cases hE
  | succ n18 =>
    rw [Z133_l18] at hE;refine seqR ?_;refine S BI ?_;refine nil ?_;refine seqK fun K22 hK22=>?_;refine cE hE (fun hc23 hE=>?_) (fun hc23 hE=>?_)
    ·try dsimp only at hc23
     have hf23:=of_decide_eq_true hc23;refine sk hK22 ?_;clear hK22 K22;refine seqK fun K24 hK24=>?_;refine block ?_;refine seqR ?_;obtain⟨x26,gx26,hE⟩:=bO hE;refine s0 (idxMn (f:=TArg.c) (n:=s54_19) (TK rfl) rfl (TK rfl) rfl rfl rfl gx26) rfl ?_;refine S Ld ?_;refine Sl ?_;refine Sf ?_;refine nil ?_;refine freezeA 13 _ rfl (KA 0 (KA 3 (KA 5 (KA 9 (KA 52 (KA 53 (KA 54 Keeps.nil))))))) ?_;refine seqR ?_
     refine S FL (S LL (S Fv (S Ld ?_)));obtain⟨x28,gx28,hE⟩:=bO hE;refine Sc rfl rfl (Z93_walk gx28) ?_;refine S Mv (S EX (S EX ?_));refine Sl ?_;refine Sf ?_;refine S As ?_;refine nil ?_;refine freezeA 14 _ rfl (KA 0 (KA 3 (KA 5 (KA 9 (KA 13 (KA 15 (KA 52 (KA 53 (KA 54 Keeps.nil))))))))) ?_;refine region ?_;refine S Mv (S Fv (S Ld (S Fv (S Ld (S Mv (S Mv ?_))))));obtain⟨x29,gx29,hE⟩:=bO hE;refine sH (callH rfl rfl (Z134_walk gx29 _ hpG hpG)) rfl ?_
     refine hq ((H.set c0_2 (some (.tok 2 x29.Fout.l.length))).set c0 (some (.cells (Vars_checker.cg (some c0_2) x29)))) ?_;refine nil ?_;refine hK24 _ ?_;clear hK24 K24;refine region ?_;refine SI ?_;refine S Mv ?_;refine nil ?_;exact hK18 _ (n18,(s54_19+1),x29) Weak.toA hE (Nat.lt_succ_self _)
    refine AWp.exit ?_;exact hK11 _ y20_c0 Weak.toA hE
 rintro y12_c0 hE;try dsimp only at hE
 unfold Z133_j11 at hE;refine seqR ?_;refine S Mv (S Fv (S Ld (S Mv ?_)));obtain⟨x14,gx14,hE⟩:=bO hE;refine sH (callH rfl rfl (Z132_walk gx14 _ hpG hpG)) rfl ?_;refine hq ((H.set c0_2 (some (.tok 2 x14.Fout.l.length))).set c0 (some (.cells (Vars_checker.cg (some c0_2) x14)))) ?_;refine nil ?_;refine region ?_;refine S Mv (S Fv ?_);refine s0 (loadV (TK rfl) rfl rfl (congrArg (fun x=>some (A.d x)) (TSel.FSelsD_eq _))) rfl ?_
 refine S FL (S FL (S LL (S Mv ?_)));obtain⟨x15,gx15,hE⟩:=bO hE;refine sH (callH rfl rfl (ih_18 gx15 _ hpG hpG)) rfl ?_;refine hq ((H.set c0_2 (some (.tok 2 x15.Fout.l.length))).set c0 (some (.cells (Vars_checker.cg (some c0_2) x15)))) ?_;refine nil ?_;repeat (first|refine xBlock_normal ?_|refine xThen_exit ?_|refine xBlock_exit ?_)
 obtain rfl:=Option.some.inj hE;refine retQ.normalF ((H.set c0_2 (some (.tok 2 x15.Fout.l.length))).set c0 (some (.cells (Vars_checker.cg (some c0_2) x15)))) (xs:=[]) rfl ⟨rfl,rfl⟩ ?_;exact(fun _ _ h=>h)
theorem vars_checker_sels_all:∀(n:Nat),(∀{a0:Vars_checker}{a1:Sl TSel}{a2 a3:Bs}{w1:Option Nat}{c0 c0_2:Nat}{r:Vars_checker},vars_checker_sels_n n a0 a1 a2 a3=some r->∀(H:Heap) (hc0:H c0=some (.cells (Vars_checker.cg (some c0_2) a0))) (ht0_2:H c0_2=some (.tok 2 a0.Fout.l.length)),ACalls Tryz.prog 18 [.d (.ptr c0 0),.d (Sl.d 7 TSel.c w1 a1),.d (.str a2),.d (.str a3)] H fun v h'=>v=.tup []/\h'=((H.set c0_2 (some (.tok 2 r.Fout.l.length))).set c0 (some (.cells (Vars_checker.cg (some c0_2) r)))))/\(∀{a0:Vars_checker}{a1:TSel}{a2 a3:Bs}{c0 c0_2:Nat}{r:Vars_checker},Z133_n n a0 a1 a2 a3=some r->∀(H:Heap) (hc0:H c0=some (.cells (Vars_checker.cg (some c0_2) a0))) (ht0_2:H c0_2=some (.tok 2 a0.Fout.l.length)),ACalls Tryz.prog 52 [.d (.ptr c0 0),.agg (TSel.c a1),.d (.str a2),.d (.str a3)] H fun v h'=>v=.tup []/\h'=((H.set c0_2 (some (.tok 2 r.Fout.l.length))).set c0 (some (.cells (Vars_checker.cg (some c0_2) r)))))
 | 0=>⟨fun hE=>by first|cases hE|(rw [vars_checker_sels_n] at hE; cases hE),fun hE=>by first|cases hE|(rw [Z133_n] at hE; cases hE)⟩
 | n+1=>⟨vars_checker_sels_step n (vars_checker_sels_all n).1 (vars_checker_sels_all n).2,Z133_step n (vars_checker_sels_all n).1 (vars_checker_sels_all n).2⟩
def vars_checker_sels (a0:Vars_checker) (a1:(Sl TSel)) (a2:Bs) (a3:Bs):Option Vars_checker:=vars_checker_sels_n F0 a0 a1 a2 a3
theorem vars_checker_sels_walk {a0:Vars_checker}{a1:Sl TSel}{a2 a3:Bs}{w1:Option Nat}{c0 c0_2:Nat}{r:Vars_checker}(hE:vars_checker_sels a0 a1 a2 a3=some r) (H:Heap) (hc0:H c0=some (.cells (Vars_checker.cg (some c0_2) a0))) (ht0_2:H c0_2=some (.tok 2 a0.Fout.l.length)):ACalls Tryz.prog 18 [.d (.ptr c0 0),.d (Sl.d 7 TSel.c w1 a1),.d (.str a2),.d (.str a3)] H fun v h'=>v=.tup []/\h'=((H.set c0_2 (some (.tok 2 r.Fout.l.length))).set c0 (some (.cells (Vars_checker.cg (some c0_2) r)))):=(vars_checker_sels_all F0).1 hE H hc0 ht0_2
def Z96 (a0:Int):Option Bs:=bif (decide (a0=(1:Int))) then(some ([81,117,101,114,121]:Bs)) else(bif (decide (a0=(2:Int))) then(some ([77,117,116,97,116,105,111,110]:Bs)) else(bif (decide (a0=(3:Int))) then(some ([83,117,98,115,99,114,105,112,116,105,111,110]:Bs)) else(some ([]:Bs))))
theorem Z96_walk {a0:Int}{r:Bs}(hE:Z96 a0=some r) (H:Heap) :ACalls Tryz.prog 19 [.d (.int .i64 a0)] H fun v h'=>v=.a (.d (.str r))/\h'=H:=by
 unfold Z96 at hE;refine ACalls.oW 10 [.tmp 2] Tryz.call19 Tryz.func19 ?_;refine seqR ?_;refine S As ?_;refine nil ?_;refine seqK fun K2 hK2=>?_;refine seqR ?_;refine S Mv ?_;refine nil ?_;refine block ?_;refine seqR ?_;refine S BI (S As ?_);refine nil ?_;refine cE hE (fun hc5 hE=>?_) (fun hc5 hE=>?_)
 ·refine seqR ?_;refine S As ?_;refine nil ?_;exact rt hE
 refine seqR ?_;refine S BI (S As ?_);refine nil ?_;refine cE hE (fun hc8 hE=>?_) (fun hc8 hE=>?_)
 ·refine seqR ?_;refine S As ?_;refine nil ?_;exact rt hE
 refine seqR ?_;refine S BI (S As ?_);refine nil ?_;refine cE hE (fun hc11 hE=>?_) (fun hc11 hE=>?_)
 ·refine seqR ?_;refine S As ?_;refine nil ?_;exact rt hE
 refine sk hK2 ?_;clear hK2 K2;refine seqR ?_;refine S As ?_;refine nil ?_;exact rt hE
def Z12_j3  (s2_4:(Sl Bs)) (s8_5:Bool):Option ((Sl Bs)×Bool):=some (s2_4,s8_5)
def Z12_j16 (s17_12:Nat) (k_next_9:(Sl Bs)->Bool->Nat->Option ((Sl Bs)×Bool)) (s2_17:(Sl Bs)) (s8_18:Bool):Option ((Sl Bs)×Bool):=k_next_9 s2_17 s8_18 (s17_12+1)
def Z12_j22 (a0:TQuery) (s17_12:Nat) (k_next_9:(Sl Bs)->Bool->Nat->Option ((Sl Bs)×Bool)) (k_rec_53:TQuery->(Sl TSel)->(Sl Bs)->Option ((Sl Bs)×Bool)) (s2_23:(Sl Bs)) (s8_24:Bool) (s11_25:(Sl TSel)):Option ((Sl Bs)×Bool):=(k_rec_53 a0 s11_25 s2_23).bind fun x28=>Z12_j16 s17_12 k_next_9 x28.1 (s8_24&&x28.2)
def Z12_l9 (a0:TQuery) (a1:(Sl TSel)) (k_rec_53:TQuery->(Sl TSel)->(Sl Bs)->Option ((Sl Bs)×Bool)):Nat->(Sl Bs)->Bool->Nat->Option ((Sl Bs)×Bool)
 | 0,_,_,_=>none
 | n9+1,s2_10,s8_11,s17_12=>bif (decide (((s17_12:Nat):Int)<((a1.l.length:Nat):Int))) then((a1.l[s17_12]?).bind fun x20=>bif (decide (x20.FKind=(2:Int))) then((Z9 a0 x20.FName).bind fun x32=>guardO (!(!x32.2)) (Z103 s2_10 x20.FName) false fun x36=>bif ((!x32.2)||x36) then(Z12_j16 s17_12 ((Z12_l9 a0 a1 k_rec_53 n9)) s2_10 (s8_11&&x32.2)) else((appC 16 s2_10 (⟨false,[x20.FName]⟩:Sl Bs)).bind fun x39=>Z12_j22 a0 s17_12 ((Z12_l9 a0 a1 k_rec_53 n9)) k_rec_53 x39 (s8_11&&x32.2) x32.1.FSels)) else(Z12_j22 a0 s17_12 ((Z12_l9 a0 a1 k_rec_53 n9)) k_rec_53 s2_10 s8_11 x20.FSels)) else(Z12_j3   s2_10 s8_11)
def Z12_n:Nat->TQuery->(Sl TSel)->(Sl Bs)->Option ((Sl Bs)×Bool)
 | 0,_,_,_=>none
 | n+1,a0,a1,a2=>Z12_l9 a0 a1 (Z12_n n) (a1.l.length+1) a2 true 0
theorem Z12_step (n:Nat) (ih_53:∀{a0:TQuery}{a1:Sl TSel}{a2:Sl Bs}{w1:Option Nat}{g2:Nat}{r:((Sl Bs)×Bool)},Z12_n n a0 a1 a2=some r->∀(H:Heap) (hg2:H g2=some (.tok 1 a2.l.length)),ACalls Tryz.prog 53 [.agg (TQuery.c a0),.d (Sl.d 7 TSel.c w1 a1),.d (Sl.d 1 strE (some g2) a2)] H fun v h'=>v=.tup [.d (Sl.d 1 strE (some g2) r.1),.d (.bool r.2)]/\h'=(H.set g2 (some (.tok 1 r.1.l.length)))):∀{a0:TQuery}{a1:Sl TSel}{a2:Sl Bs}{w1:Option Nat}{g2:Nat}{r:((Sl Bs)×Bool)},Z12_n (n+1) a0 a1 a2=some r->∀(H:Heap) (hg2:H g2=some (.tok 1 a2.l.length)),ACalls Tryz.prog 53 [.agg (TQuery.c a0),.d (Sl.d 7 TSel.c w1 a1),.d (Sl.d 1 strE (some g2) a2)] H fun v h'=>v=.tup [.d (Sl.d 1 strE (some g2) r.1),.d (.bool r.2)]/\h'=(H.set g2 (some (.tok 1 r.1.l.length))):=by
 intro a0 a1 a2 w1 g2 r hE H hg2;rw [Z12_n] at hE;refine ACalls.oW 66 [.tmp 6,.tmp 7] Tryz.call53 Tryz.func53 ?_;refine AWp.heqA (h':=(H.set g2 (some (.tok 1 a2.l.length)))) (by funext n_; simp only [Heap.set]; (repeat' split)<;>simp_all) ?_;refine seqR ?_;refine S BX (S As (S As ?_));refine nil ?_;refine seqR ?_;refine S As ?_;refine nil ?_;refine seqJH KeepsT.nil (fun(z:(Sl Bs)×Bool)=>[(2,.a (.d (Sl.d 1 strE (some g2) z.1))),(8,.a (.d (.bool z.2)))]) (fun z=>(H.set g2 (some (.tok 1 z.1.l.length)))) (fun z=>Z12_j3 z.1 z.2=some r) ?_ ?_
 ·intro K3 hK3;refine seqR ?_;refine S Mv ?_;refine sLen (f:=TSel.c) (s:=a1) (TK rfl) rfl rfl rfl rfl fun hL8=>?_;refine S Mv ?_;refine nil ?_;refine block ?_;refine loopH (TA 3 (TA 15 (TA 16 KeepsT.nil))) (fun(z:Nat×(Sl Bs)×Bool×Nat)=>[(2,.a (.d (Sl.d 1 strE (some g2) z.2.1))),(8,.a (.d (.bool z.2.2.1))),(17,.a (.d (.int .i64 ((z.2.2.2:Nat):Int))))]) (fun z=>(H.set g2 (some (.tok 1 z.2.1.l.length)))) (fun z=>z.1) (fun z=>Z12_l9 a0 a1 (Z12_n n) z.1 z.2.1 z.2.2.1 z.2.2.2=some r) ((a1.l.length+1),a2,true,0) hE Weak.toA ?_
  rintro ⟨n9,s2_10,s8_11,s17_12⟩ hE K9 hK9;try dsimp only at hE
  cases n9 with
  | zero=>cases hE
  | succ n9 =>
    rw [Z12_l9] at hE;refine seqR ?_;refine S BI ?_;refine nil ?_;refine seqK fun K14 hK14=>?_;refine cE hE (fun hc15 hE=>?_) (fun hc15 hE=>?_)
    ·try dsimp only at hc15
     have hf15:=of_decide_eq_true hc15;refine sk hK14 ?_;clear hK14 K14;refine seqJH (TA 3 (TA 15 (TA 16 (TA 17 KeepsT.nil)))) (fun(z:(Sl Bs)×Bool)=>[(2,.a (.d (Sl.d 1 strE (some g2) z.1))),(8,.a (.d (.bool z.2)))]) (fun z=>(H.set g2 (some (.tok 1 z.1.l.length)))) (fun z=>Z12_j16 s17_12 ((Z12_l9 a0 a1 (Z12_n n) n9)) z.1 z.2=some r) ?_ ?_
     ·intro K16 hK16;refine block ?_;refine seqR ?_;obtain⟨x20,gx20,hE⟩:=bO hE;refine s0 (idxMn (f:=TSel.c) (n:=s17_12) (TK rfl) rfl (TK rfl) rfl rfl rfl gx20) rfl ?_;refine S Ld ?_;refine Sl ?_;refine Sf ?_;refine nil ?_;refine freezeA 10 _ rfl (KA 2 (KA 3 (KA 8 (KA 15 (KA 16 (KA 17 Keeps.nil)))))) ?_;refine seqR ?_;refine S Fv ?_;refine s0 (loadV (TK rfl) rfl rfl (congrArg (fun x=>some (A.d x)) (TSel.FSelsD_eq _))) rfl ?_
      refine S As ?_;refine nil ?_;refine seqJH (TA 3 (TA 15 (TA 16 (TA 17 KeepsT.nil)))) (fun(z:(Sl Bs)×Bool×(Sl TSel))=>[(2,.a (.d (Sl.d 1 strE (some g2) z.1))),(8,.a (.d (.bool z.2.1))),(11,.a (.d (Sl.d 7 TSel.c none z.2.2)))]) (fun z=>(H.set g2 (some (.tok 1 z.1.l.length)))) (fun z=>Z12_j22 a0 s17_12 ((Z12_l9 a0 a1 (Z12_n n) n9)) (Z12_n n) z.1 z.2.1 z.2.2=some r) ?_ ?_
      ·intro K22 hK22;refine seqR ?_;refine S Fv (S Ld (S BI ?_));refine nil ?_;refine cE hE (fun hc30 hE=>?_) (fun hc30 hE=>?_)
       ·refine seqR ?_;refine S Ld (S Fv (S Ld ?_));obtain⟨x32,gx32,hE⟩:=bO hE;refine Sc rfl rfl (Z9_walk gx32) ?_;refine S Mv (S EX (S EX ?_));refine Sl ?_;refine Sf ?_;refine S As ?_;refine nil ?_;refine freezeA 12 _ rfl (KA 2 (KA 3 (KA 8 (KA 10 (KA 13 (KA 15 (KA 16 (KA 17 Keeps.nil)))))))) ?_;refine seqR ?_;refine S Mv (S Mv (g0 Mv (S PA (S As ?_))));refine nil ?_;refine seqK fun K34 hK34=>?_;refine seqR ?_
        refine S Mv (S NB (S Mv (g0 Mv (g0 Fv ?_))));refine g1 41 rfl Ld ?_;obtain⟨x36,gx36,hE⟩:=gO hE;refine gc2 40 42 rfl rfl rfl rfl rfl rfl (fun hC=>Z103_walk (gx36 hC)) ?_;refine S PO ?_;refine nil ?_;refine cE hE (fun hc37 hE=>?_) (fun hc37 hE=>?_)
        ·refine AWp.exit ?_;exact hK16 _ (s2_10,(s8_11&&x32.2)) Weak.toA hE
        refine sk hK34 ?_;clear hK34 K34;refine seqR ?_;refine S Mv (S Fv (S Ld (S BV ?_)));obtain⟨x39,gx39,hE⟩:=bO hE;refine sH (appM (f:=strE) (TK rfl) rfl (TK rfl) (TK rfl) ⟨_,rfl⟩ rfl rfl (by decide) rfl rfl rfl rfl hpG rfl gx39) rfl ?_;refine hq (H.set g2 (some (.tok 1 x39.l.length))) ?_;refine S As ?_;refine nil ?_;refine region ?_;refine S Fv (S Ld (S As ?_));refine nil ?_;exact hK22 _ (x39,(s8_11&&x32.2),x32.1.FSels) Weak.toA hE
       refine AWp.skip ?_;exact hK22 _ (s2_10,s8_11,x20.FSels) Weak.toA hE
      rintro ⟨s2_23,s8_24,s11_25⟩ hE;try dsimp only at hE
      unfold Z12_j22 at hE;refine seqR ?_;refine S As ?_;refine nil ?_;refine seqR ?_;refine S Ld (S Mv (S Mv ?_));obtain⟨x28,gx28,hE⟩:=bO hE;refine sH (callH rfl rfl (ih_53 gx28 _ hpG)) rfl ?_;refine hq (H.set g2 (some (.tok 1 x28.1.l.length))) ?_;refine S Mv (S EX (S EX (S As (S As ?_))));refine nil ?_;refine region ?_;refine S Mv (S Mv (g0 Mv (S PA (S As ?_))));refine nil ?_;exact hK16 _ (x28.1,(s8_24&&x28.2)) Weak.toA hE
     rintro ⟨s2_17,s8_18⟩ hE;try dsimp only at hE
     unfold Z12_j16 at hE;refine region ?_;refine SI ?_;refine S Mv ?_;refine nil ?_;exact hK9 _ (n9,s2_17,s8_18,(s17_12+1)) Weak.toA hE (Nat.lt_succ_self _)
    refine AWp.exit ?_;exact hK3 _ (s2_10,s8_11) Weak.toA hE
 rintro ⟨s2_4,s8_5⟩ hE;try dsimp only at hE
 unfold Z12_j3 at hE;refine seqR ?_;refine S Mv (S Mv (S As (S As ?_)));refine nil ?_;exact rt hE
theorem Z12_all:∀(n:Nat),(∀{a0:TQuery}{a1:Sl TSel}{a2:Sl Bs}{w1:Option Nat}{g2:Nat}{r:((Sl Bs)×Bool)},Z12_n n a0 a1 a2=some r->∀(H:Heap) (hg2:H g2=some (.tok 1 a2.l.length)),ACalls Tryz.prog 53 [.agg (TQuery.c a0),.d (Sl.d 7 TSel.c w1 a1),.d (Sl.d 1 strE (some g2) a2)] H fun v h'=>v=.tup [.d (Sl.d 1 strE (some g2) r.1),.d (.bool r.2)]/\h'=(H.set g2 (some (.tok 1 r.1.l.length))))
 | 0=>fun hE=>by first|cases hE|(rw [Z12_n] at hE; cases hE)
 | n+1=>Z12_step n (Z12_all n)
def Z12 (a0:TQuery) (a1:(Sl TSel)) (a2:(Sl Bs)):Option ((Sl Bs)×Bool):=Z12_n F0 a0 a1 a2
theorem Z12_walk {a0:TQuery}{a1:Sl TSel}{a2:Sl Bs}{w1:Option Nat}{g2:Nat}{r:((Sl Bs)×Bool)}(hE:Z12 a0 a1 a2=some r) (H:Heap) (hg2:H g2=some (.tok 1 a2.l.length)):ACalls Tryz.prog 53 [.agg (TQuery.c a0),.d (Sl.d 7 TSel.c w1 a1),.d (Sl.d 1 strE (some g2) a2)] H fun v h'=>v=.tup [.d (Sl.d 1 strE (some g2) r.1),.d (.bool r.2)]/\h'=(H.set g2 (some (.tok 1 r.1.l.length))):=(Z12_all F0) hE H hg2
def Z11 (a0:TQuery) (a1:TFrag):Option Bool:=(Z12 a0 a1.FSels (Sl.nil:Sl Bs)).bind fun x4=>(Z103 x4.1 a1.FName).bind fun x6=>some x6
theorem Z11_walk {a0:TQuery}{a1:TFrag}{r:Bool}(hE:Z11 a0 a1=some r) (H:Heap) :ACalls Tryz.prog 54 [.agg (TQuery.c a0),.agg (TFrag.c a1)] H fun v h'=>v=.a (.d (.bool r))/\h'=H:=by
 unfold Z11 at hE;refine ACalls.oW 18 [.tmp 4] Tryz.call54 Tryz.func54 ?_;refine seqR ?_;refine S BX (S BX (S As ?_));refine nil ?_;refine AWp.tok 1 fun tk2_3 htk2_3=>?_;refine seqR ?_;refine S Ld (S Fv (S Ld ?_));obtain⟨x4,gx4,hE⟩:=bO hE;refine sH (callH rfl rfl (ACalls.asArgs (.cons (.refl _) (.cons (.refl _) (.cons (AsArg.nil (k':=1) (t:=tk2_3) hpG) .nil))) (Z12_walk gx4 _ hpG))) rfl ?_;refine hq (H.set tk2_3 (some (.tok 1 x4.1.l.length))) ?_
 refine S Mv (S EX (S EX (S As (S As ?_))));refine nil ?_;refine AWp.dropTok 5 rfl ?_;refine seqR ?_;refine S Mv (S Fv (S Ld ?_));obtain⟨x6,gx6,hE⟩:=bO hE;refine Sc rfl rfl (Z103_walk gx6) ?_;refine S As ?_;refine nil ?_;refine AWp.ret ?_;repeat (first|refine xBlock_ret ?_|refine xThen_ret ?_)
 obtain rfl:=Option.some.inj hE;refine retQ.retF H rfl ⟨rfl,rfl⟩ ?_
 first|exact Heap.sub_set htk2_3|(simp only [Heap.set_set]; exact Heap.sub_set htk2_3)
def Z10_j5 (x4:((Sl Bs)×Bool))  (s7_6:Bool):Option ((Sl Bs)×Bool):=some (x4.1,s7_6)
def Z10_l10 (a0:TQuery) (x4:((Sl Bs)×Bool)) :Nat->Bool->Nat->Option ((Sl Bs)×Bool)
 | 0,_,_=>none
 | n10+1,s7_11,s20_12=>bif (decide (((s20_12:Nat):Int)<((x4.1.l.length:Nat):Int))) then((x4.1.l[s20_12]?).bind fun x18=>(Z9 a0 x18).bind fun x20=>guardO (s7_11) (Z11 a0 x20.1) false fun x21=>(Z10_l10 a0 x4 n10) (s7_11&&(!x21)) (s20_12+1)) else(Z10_j5 x4  s7_11)
def Z10 (a0:TQuery) (a1:(Sl TSel)):Option ((Sl Bs)×Bool):=(Z12 a0 a1 (Sl.nil:Sl Bs)).bind fun x4=>Z10_l10 a0 x4 (x4.1.l.length+1) x4.2 0
theorem Z10_walk {a0:TQuery}{a1:Sl TSel}{w1:Option Nat}{r:((Sl Bs)×Bool)}(hE:Z10 a0 a1=some r) (H:Heap) :ACalls Tryz.prog 20 [.agg (TQuery.c a0),.d (Sl.d 7 TSel.c w1 a1)] H fun v h'=>v=.tup [.d (Sl.d 1 strE none r.1),.d (.bool r.2)]/\h'=H:=by
 unfold Z10 at hE;refine ACalls.oW 40 [.tmp 4,.tmp 5] Tryz.call20 Tryz.func20 ?_;refine seqR ?_;refine S BX ?_;refine s0 (assignNil (k':=1) rfl) rfl ?_;refine S As ?_;refine nil ?_;refine AWp.tok 1 fun tk2_3 htk2_3=>?_;refine seqR ?_;refine S Ld (S Mv ?_);obtain⟨x4,gx4,hE⟩:=bO hE;refine sH (callH rfl rfl (ACalls.asArgs (.cons (.refl _) (.cons (.refl _) (.cons (AsArg.nil (k':=1) (t:=tk2_3) hpG) .nil))) (Z12_walk gx4 _ hpG))) rfl ?_
 refine hq (H.set tk2_3 (some (.tok 1 x4.1.l.length))) ?_;refine S Mv (S EX (S EX (S As (S As ?_))));refine nil ?_;refine AWp.dropTok 6 rfl ?_;refine seqJH (TA 6 KeepsT.nil) (fun(z:Bool)=>[(7,.a (.d (.bool z)))]) (fun z=>(H.set tk2_3 (some (.tok 1 x4.1.l.length)))) (fun z=>Z10_j5 x4 z=some r) ?_ ?_
 ·intro K5 hK5;refine seqR ?_;refine S Mv ?_;refine sLen (f:=strE) (s:=x4.1) (TK rfl) rfl rfl rfl rfl fun hL9=>?_;refine S Mv ?_;refine nil ?_;refine block ?_;refine loopH (TA 2 (TA 6 (TA 18 (TA 19 KeepsT.nil)))) (fun(z:Nat×Bool×Nat)=>[(7,.a (.d (.bool z.2.1))),(20,.a (.d (.int .i64 ((z.2.2:Nat):Int))))]) (fun z=>(H.set tk2_3 (some (.tok 1 x4.1.l.length)))) (fun z=>z.1) (fun z=>Z10_l10 a0 x4 z.1 z.2.1 z.2.2=some r) ((x4.1.l.length+1),x4.2,0) hE Weak.toA ?_
  rintro ⟨n10,s7_11,s20_12⟩ hE K10 hK10;try dsimp only at hE
  cases n10 with
  | zero=>cases hE
  | succ n10 =>
    rw [Z10_l10] at hE;refine seqR ?_;refine S BI ?_;refine nil ?_;refine seqK fun K14 hK14=>?_;refine cE hE (fun hc15 hE=>?_) (fun hc15 hE=>?_)
    ·try dsimp only at hc15
     have hf15:=of_decide_eq_true hc15;refine sk hK14 ?_;clear hK14 K14;refine seqK fun K16 hK16=>?_;refine block ?_;refine seqR ?_;obtain⟨x18,gx18,hE⟩:=bO hE;refine s0 (idxMn (f:=strE) (n:=s20_12) (TK rfl) rfl (TK rfl) rfl rfl rfl gx18) rfl ?_;refine S Ld (S As ?_);refine nil ?_;refine seqR ?_;refine S Ld (S Mv ?_);obtain⟨x20,gx20,hE⟩:=bO hE;refine Sc rfl rfl (Z9_walk gx20) ?_;refine S Mv (S EX (S EX ?_))
     refine Sl ?_;refine Sf ?_;refine S As ?_;refine nil ?_;refine freezeA 10 _ rfl (KA 2 (KA 6 (KA 7 (KA 18 (KA 19 (KA 20 Keeps.nil)))))) ?_;refine region ?_;refine S Mv (S Mv (g0 Ld (g0 Ld ?_)));obtain⟨x21,gx21,hE⟩:=gO hE;refine gc2 32 33 rfl rfl rfl rfl rfl rfl (fun hC=>Z11_walk (gx21 hC)) ?_;refine g1 34 rfl NB ?_;refine S PA (S As ?_);refine nil ?_;refine hK16 _ ?_;clear hK16 K16;refine region ?_
     refine SI ?_;refine S Mv ?_;refine nil ?_;exact hK10 _ (n10,(s7_11&&(!x21)),(s20_12+1)) Weak.toA hE (Nat.lt_succ_self _)
    refine AWp.exit ?_;exact hK5 _ s7_11 Weak.toA hE
 rintro s7_6 hE;try dsimp only at hE
 unfold Z10_j5 at hE;refine seqR ?_;refine S Mv (S Mv (S As (S As ?_)));refine nil ?_;refine AWp.ret ?_;repeat (first|refine xBlock_ret ?_|refine xThen_ret ?_)
 obtain rfl:=Option.some.inj hE;refine retQ.retF H rfl ⟨rfl,rfl⟩ ?_
 first|exact Heap.sub_set htk2_3|(simp only [Heap.set_set]; exact Heap.sub_set htk2_3)
end Go.Proofs

namespace Go.Proofs
open Go Go.Ab
open AOps Cert AWp Keeps KeepsT
variable {lou:Lou}
def Z126_j5  (y6_id16_3:Vars_checker):Option (Sl TFault):=some y6_id16_3.Fout
def Z126_j16 (s20_11:Nat) (k_next_10:Nat->Vars_checker->Option (Sl TFault)) (y17_id16_3:Vars_checker):Option (Sl TFault):=k_next_10 (s20_11+1) y17_id16_3
def Z126_l31 (a1:TQuery) (s20_11:Nat) (x28:((Sl Bs)×Bool)) (k_next_10:Nat->Vars_checker->Option (Sl TFault)):Nat->Nat->Vars_checker->Option (Sl TFault)
 | 0,_,_=>none
 | n31+1,s54_32,y33_id16_3=>bif (decide (((s54_32:Nat):Int)<((x28.1.l.length:Nat):Int))) then((x28.1.l[s54_32]?).bind fun x39=>(Z9 a1 x39).bind fun x41=>(vars_checker_sels y33_id16_3 x41.1.FSels x41.1.FOn x41.1.FName).bind fun x42=>(Z126_l31 a1 s20_11 x28 k_next_10 n31) (s54_32+1) x42) else(Z126_j16 s20_11 k_next_10 y33_id16_3)
def Z126_l10 (a1:TQuery) :Nat->Nat->Vars_checker->Option (Sl TFault)
 | 0,_,_=>none
 | n10+1,s20_11,y12_id16_3=>bif (decide (((s20_11:Nat):Int)<((a1.FOps.l.length:Nat):Int))) then((a1.FOps.l[s20_11]?).bind fun x19=>(Z128 a1 ((s20_11:Nat):Int)).bind fun x22=>(Z130 (Vars_checker.mk y12_id16_3.Fd x19.FVars y12_id16_3.Fout) x19 x22).bind fun x23=>(Z96 x19.FKind).bind fun x25=>(vars_checker_sels x23 x19.FSels x25 x19.FName).bind fun x26=>(Z10 a1 x19.FSels).bind fun x28=>Z126_l31 a1 s20_11 x28 ((Z126_l10 a1 n10)) (x28.1.l.length+1) 0 x26) else(Z126_j5   y12_id16_3)
def Z126 (a0:TDoc) (a1:TQuery):Option (Sl TFault):=Z126_l10 a1 (a1.FOps.l.length+1) 0 (Vars_checker.mk a0 (Sl.nil:Sl TVar) (Sl.nil:Sl TFault))
theorem Z126_walk {a0:TDoc}{a1:TQuery}{oT:Ab.Obj}{gT:Nat}{r:Sl TFault}(hE:Z126 a0 a1=some r) (H:Heap) (hgT:H gT=some oT) (hoT:IsTab Tryz.prog oT):ACalls Tryz.prog 6 [.agg (TDoc.c a0),.agg (TQuery.c a1)] H fun v h'=>v=.a (.d (Sl.d 2 TFault.c none r))/\h'=H:=by
 unfold Z126 at hE;refine ACalls.oW 78 [.tmp 4] Tryz.call6 Tryz.func6 ?_;refine seqR ?_;refine S BX (S BX ?_);refine s0 (assignNil (k':=2) rfl) rfl ?_;refine nil ?_;refine seqR ?_;refine S Ld (S BU ?_);refine AOps.tok 2 fun tk16_4 htk16_4=>?_;have ne_tk16_4_gT:tk16_4≠gT:=fun e_=>by subst e_; simp_all
 refine sE (StepE.boxO rfl) rfl (fun _ _ _ ⟨id16_3,hid16_3,e1,e2,e3⟩=>?_); subst e1 e2 e3;obtain⟨ne_id16_3_tk16_4,hid16_3⟩:=Heap.set_fresh hid16_3;have ne_id16_3_gT:id16_3≠gT:=fun e_=>by subst e_; simp_all
 refine AOps.recell id16_3 _ hpG (fun j w cs hh hx=>tok_cell 2 2 2 hh (t:=tk16_4) hpG hx rfl) ?_;refine hq ((H.set tk16_4 (some (.tok 2 0))).set id16_3 (some (.cells (Vars_checker.cg (some tk16_4) (Vars_checker.mk a0 (Sl.nil:Sl TVar) (Sl.nil:Sl TFault)))))) ?_;refine S As ?_;refine nil ?_;refine seqJH (TA 5 KeepsT.nil) (fun(z:Vars_checker)=>[]) (fun z=>((H.set tk16_4 (some (.tok 2 z.Fout.l.length))).set id16_3 (some (.cells (Vars_checker.cg (some tk16_4) z))))) (fun z=>Z126_j5 z=some r) ?_ ?_
 ·intro K5 hK5;refine seqR ?_;refine S Fv (S Ld ?_);refine sLen (f:=TOp.c) (s:=a1.FOps) (TK rfl) rfl rfl rfl rfl fun hL9=>?_;refine S Mv ?_;refine nil ?_;refine block ?_;refine loopH (TA 3 (TA 5 (TA 18 (TA 19 KeepsT.nil)))) (fun(z:Nat×Nat×Vars_checker)=>[(20,.a (.d (.int .i64 ((z.2.1:Nat):Int))))]) (fun z=>((H.set tk16_4 (some (.tok 2 z.2.2.Fout.l.length))).set id16_3 (some (.cells (Vars_checker.cg (some tk16_4) z.2.2))))) (fun z=>z.1) (fun z=>Z126_l10 a1 z.1 z.2.1 z.2.2=some r) ((a1.FOps.l.length+1),0,(Vars_checker.mk a0 (Sl.nil:Sl TVar) (Sl.nil:Sl TFault))) hE Weak.toA ?_
  rintro ⟨n10,s20_11,y12_id16_3⟩ hE K10 hK10;try dsimp only at hE
  cases n10 with
  | zero=>cases hE
  | succ n10 =>
    rw [Z126_l10] at hE;refine seqR ?_;refine S BI ?_;refine nil ?_;refine seqK fun K14 hK14=>?_;refine cE hE (fun hc15 hE=>?_) (fun hc15 hE=>?_)
    ·try dsimp only at hc15
     have hf15:=of_decide_eq_true hc15;refine sk hK14 ?_;clear hK14 K14;refine seqJH (TA 3 (TA 5 (TA 18 (TA 19 (TA 20 KeepsT.nil))))) (fun(z:Vars_checker)=>[]) (fun z=>((H.set tk16_4 (some (.tok 2 z.Fout.l.length))).set id16_3 (some (.cells (Vars_checker.cg (some tk16_4) z))))) (fun z=>Z126_j16 s20_11 ((Z126_l10 a1 n10)) z=some r) ?_ ?_
     ·intro K16 hK16;refine block ?_;refine seqR ?_;refine S Mv ?_;obtain⟨x19,gx19,hE⟩:=bO hE;refine s0 (idxMn (f:=TOp.c) (n:=s20_11) (TK rfl) rfl (TK rfl) rfl rfl rfl gx19) rfl ?_;refine S Ld ?_;refine Sl ?_;refine S As ?_;refine Sf ?_;refine nil ?_;refine freezeA 7 _ rfl (KA 3 (KA 5 (KA 6 (KA 18 (KA 19 (KA 20 Keeps.nil)))))) ?_;refine seqR ?_;refine S Mv (S Fv (S Ld (S NP ?_)));refine s0 (fieldP (TK rfl) rfl rfl (TK rfl) rfl rfl) rfl ?_
      refine sHn (storeP1 (TK rfl) rfl rfl hpG rfl (by repeat (first|exact SetAt.zero|apply SetAt.succ))) rfl rfl ?_;refine hq ((H.set tk16_4 (some (.tok 2 y12_id16_3.Fout.l.length))).set id16_3 (some (.cells (Vars_checker.cg (some tk16_4) (Vars_checker.mk y12_id16_3.Fd x19.FVars y12_id16_3.Fout))))) ?_;refine nil ?_;refine AWp.seqD ?_;refine Sd Mv (Sd Ld (Sd Ld (Sd Mv ?_)));obtain⟨x22,gx22,hE⟩:=bO hE
      refine DOps.s0 (callP rfl rfl (fun H=>Z128_walk gx22 H)) rfl ?_;obtain⟨x23,gx23,hE⟩:=bO hE;refine DOps.sH (callH rfl rfl (Z130_walk (gT:=gT) (oT:=oT) gx23 _ hpG hpG hpG (by assumption))) rfl ?_;refine DOps.Dh ((H.set tk16_4 (some (.tok 2 x23.Fout.l.length))).set id16_3 (some (.cells (Vars_checker.cg (some tk16_4) x23)))) ?_;refine DOps.nil (by decide +kernel) ?_;refine AWp.seqD ?_;refine Sd Mv (Sd Fv (Sd Ld (Sd Fv (Sd Ld ?_))))
      obtain⟨x25,gx25,hE⟩:=bO hE;refine DOps.s0 (callP rfl rfl (fun H=>Z96_walk gx25 H)) rfl ?_;refine Sd Fv (Sd Ld ?_);obtain⟨x26,gx26,hE⟩:=bO hE;refine DOps.sH (callH rfl rfl (vars_checker_sels_walk gx26 _ hpG hpG)) rfl ?_;refine DOps.Dh ((H.set tk16_4 (some (.tok 2 x26.Fout.l.length))).set id16_3 (some (.cells (Vars_checker.cg (some tk16_4) x26)))) ?_;refine DOps.nil (by decide +kernel) ?_;refine seqR ?_
      refine S Ld (S Fv (S Ld ?_));obtain⟨x28,gx28,hE⟩:=bO hE;refine Sc rfl rfl (Z10_walk gx28) ?_;refine S Mv (S EX (S EX (S As (S As ?_))));refine nil ?_;refine seqR ?_;refine S Mv ?_;refine sLen (f:=strE) (s:=x28.1) (TK rfl) rfl rfl rfl rfl fun hL30=>?_;refine S Mv ?_;refine nil ?_;refine block ?_;refine loopH (TA 3 (TA 5 (TA 18 (TA 19 (TA 20 (TA 52 (TA 53 KeepsT.nil))))))) (fun(z:Nat×Nat×Vars_checker)=>[(54,.a (.d (.int .i64 ((z.2.1:Nat):Int))))]) (fun z=>((H.set tk16_4 (some (.tok 2 z.2.2.Fout.l.length))).set id16_3 (some (.cells (Vars_checker.cg (some tk16_4) z.2.2))))) (fun z=>z.1) (fun z=>Z126_l31 a1 s20_11 x28 ((Z126_l10 a1 n10)) z.1 z.2.1 z.2.2=some r) ((x28.1.l.length+1),0,x26) hE Weak.toA ?_
      rintro ⟨n31,s54_32,y33_id16_3⟩ hE K31 hK31;try dsimp only at hE
      cases n31 with
      | zero=>cases hE
      | succ n31 =>
        rw [Z126_l31] at hE;refine seqR ?_;refine S BI ?_;refine nil ?_;refine seqK fun K35 hK35=>?_;refine cE hE (fun hc36 hE=>?_) (fun hc36 hE=>?_)
        ·try dsimp only at hc36
         have hf36:=of_decide_eq_true hc36;refine sk hK35 ?_;clear hK35 K35;refine seqK fun K37 hK37=>?_;refine block ?_;refine seqR ?_;obtain⟨x39,gx39,hE⟩:=bO hE;refine s0 (idxMn (f:=strE) (n:=s54_32) (TK rfl) rfl (TK rfl) rfl rfl rfl gx39) rfl ?_;refine S Ld (S As ?_);refine nil ?_;refine seqR ?_;refine S Ld (S Mv ?_);obtain⟨x41,gx41,hE⟩:=bO hE;refine Sc rfl rfl (Z9_walk gx41) ?_;refine S Mv (S EX (S EX ?_))
         refine Sl ?_;refine Sf ?_;refine S As ?_;refine nil ?_;refine freezeA 12 _ rfl (KA 3 (KA 5 (KA 18 (KA 19 (KA 20 (KA 52 (KA 53 (KA 54 Keeps.nil)))))))) ?_;refine region ?_;refine S Mv (S Fv (S Ld (S Fv (S Ld (S Fv (S Ld ?_))))));obtain⟨x42,gx42,hE⟩:=bO hE;refine sH (callH rfl rfl (vars_checker_sels_walk gx42 _ hpG hpG)) rfl ?_;refine hq ((H.set tk16_4 (some (.tok 2 x42.Fout.l.length))).set id16_3 (some (.cells (Vars_checker.cg (some tk16_4) x42)))) ?_
         refine nil ?_;refine hK37 _ ?_;clear hK37 K37;refine region ?_;refine SI ?_;refine S Mv ?_;refine nil ?_;exact hK31 _ (n31,(s54_32+1),x42) Weak.toA hE (Nat.lt_succ_self _)
        refine AWp.exit ?_;exact hK16 _ y33_id16_3 Weak.toA hE
     rintro y17_id16_3 hE;try dsimp only at hE
     unfold Z126_j16 at hE;refine region ?_;refine SI ?_;refine S Mv ?_;refine nil ?_;exact hK10 _ (n10,(s20_11+1),y17_id16_3) Weak.toA hE (Nat.lt_succ_self _)
    refine AWp.exit ?_;exact hK5 _ y12_id16_3 Weak.toA hE
 rintro y6_id16_3 hE;try dsimp only at hE
 unfold Z126_j5 at hE;refine seqR ?_;refine S Mv (S NP ?_);refine s0 (fieldP (TK rfl) rfl rfl (TK rfl) rfl rfl) rfl ?_;refine s0 (loadP (TK rfl) rfl rfl hpG rfl) rfl ?_;refine S As ?_;refine nil ?_;refine AWp.dropTok 4 rfl ?_;refine AWp.ret ?_;repeat (first|refine xBlock_ret ?_|refine xThen_ret ?_)
 obtain rfl:=Option.some.inj hE;refine retQ.retF H rfl ⟨rfl,rfl⟩ ?_;intro id_ o_ he_;have e_tk16_4:id_≠tk16_4:=fun e_=>by subst e_; simp_all [Heap.set]
 have e_id16_3:id_≠id16_3:=fun e_=>by subst e_; simp_all [Heap.set]
 rw [<- he_];simp only [Heap.set] at he_ ⊢
 (repeat' split)<;>simp_all
theorem eqt_49:eqTab Tryz.prog 49=some [.int .i64,.str]:=by kernel_rfl
def Z43_j8  :Option Bool:=some true
def Z43_l11 (a0:(Sl TFault)) (a1:(Sl TFault)) :Nat->Nat->Option Bool
 | 0,_=>none
 | n11+1,s5_12=>bif (decide (((s5_12:Nat):Int)<((a0.l.length:Nat):Int))) then((a0.l[s5_12]?).bind fun x19=>(a1.l[s5_12]?).bind fun x20=>bif (!(decide (x19.FErr=x20.FErr)&&((x19.FAt==x20.FAt)&&true))) then(some false) else((Z43_l11 a0 a1 n11) (s5_12+1))) else(Z43_j8   )
def Z43 (a0:(Sl TFault)) (a1:(Sl TFault)):Option Bool:=bif (!decide (((a0.l.length:Nat):Int)=((a1.l.length:Nat):Int))) then(some false) else(Z43_l11 a0 a1 (a0.l.length+1) 0)
theorem Z43_walk {a0 a1:Sl TFault}{w0 w1:Option Nat}{r:Bool}(hE:Z43 a0 a1=some r) (H:Heap) :ACalls Tryz.prog 10 [.d (Sl.d 2 TFault.c w0 a0),.d (Sl.d 2 TFault.c w1 a1)] H fun v h'=>v=.a (.d (.bool r))/\h'=H:=by
 unfold Z43 at hE;refine ACalls.oW 26 [.tmp 4] Tryz.call10 Tryz.func10 ?_;refine seqR ?_;refine S As ?_;refine nil ?_;refine seqK fun K2 hK2=>?_;refine seqR ?_;refine S Mv ?_;refine sLen (f:=TFault.c) (s:=a0) (TK rfl) rfl rfl rfl rfl fun hL4=>?_;refine S Mv ?_;refine sLen (f:=TFault.c) (s:=a1) (TK rfl) rfl rfl rfl rfl fun hL5=>?_;refine S BI ?_;refine nil ?_;refine cE hE (fun hc6 hE=>?_) (fun hc6 hE=>?_)
 ·refine seqR ?_;refine S As ?_;refine nil ?_;exact rt hE
 refine sk hK2 ?_;clear hK2 K2;refine seqJH KeepsT.nil (fun(z:Unit)=>[]) (fun z=>H) (fun z=>Z43_j8 =some r) ?_ ?_
 ·intro K8 hK8;refine seqR ?_;refine S As ?_;refine nil ?_;refine block ?_;refine loopH (TA 0 (TA 1 KeepsT.nil)) (fun(z:Nat×Nat)=>[(5,.a (.d (.int .i64 ((z.2:Nat):Int))))]) (fun z=>H) (fun z=>z.1) (fun z=>Z43_l11 a0 a1 z.1 z.2=some r) ((a0.l.length+1),0) hE Weak.toA ?_;rintro ⟨n11,s5_12⟩ hE K11 hK11;try dsimp only at hE
  cases n11 with
  | zero=>cases hE
  | succ n11 =>
    rw [Z43_l11] at hE;refine seqK fun K13 hK13=>?_;refine seqR ?_;refine S Mv (S Mv ?_);refine sLen (f:=TFault.c) (s:=a0) (TK rfl) rfl rfl rfl rfl fun hL15=>?_;refine S BI ?_;refine nil ?_;refine cE hE (fun hc16 hE=>?_) (fun hc16 hE=>?_)
    ·try dsimp only at hc16
     have hf16:=of_decide_eq_true hc16;refine sk hK13 ?_;clear hK13 K13;refine seqK fun K17 hK17=>?_;refine block ?_;refine AWp.seqD ?_;refine Sd Mv (Sd Mv ?_);obtain⟨x19,gx19,hE⟩:=bO hE;refine DOps.s0 (idxMn (f:=TFault.c) (n:=s5_12) (TK rfl) rfl (TK rfl) rfl rfl rfl gx19) rfl ?_;refine Sd Ld (Sd Mv (Sd Mv ?_));obtain⟨x20,gx20,hE⟩:=bO hE;refine DOps.s0 (idxMn (f:=TFault.c) (n:=s5_12) (TK rfl) rfl (TK rfl) rfl rfl rfl gx20) rfl ?_
     refine Sd Ld ?_;refine DOps.s0 (neStruct eqt_49 rfl rfl rfl rfl) rfl ?_;refine DOps.nil (by decide +kernel) ?_;refine cE hE (fun hc21 hE=>?_) (fun hc21 hE=>?_)
     ·refine seqR ?_;refine S As ?_;refine nil ?_;exact rt hE
     refine sk hK17 ?_;clear hK17 K17;refine region ?_;refine S Mv ?_;refine SI ?_;refine S As ?_;refine nil ?_;exact hK11 _ (n11,(s5_12+1)) Weak.toA hE (Nat.lt_succ_self _)
    refine AWp.exit ?_;exact hK8 _ () Weak.toA hE
 rintro _ hE;try dsimp only at hE
 unfold Z43_j8 at hE;refine seqR ?_;refine S As ?_;refine nil ?_;exact rt hE
def Z14 :Option Bool:=(Z128 (TQuery.mk (⟨false,[(TOp.mk (1:Int) ([113]:Bs) (⟨false,[(TVar.mk ([109]:Bs) (TRef.mk ([73,110,116]:Bs) (Sl.nil:Sl Int)) false TValue.zero)]⟩:Sl TVar) (⟨false,[(TSel.mk (1:Int) ([]:Bs) ([120]:Bs) ([]:Bs) (⟨false,[(TArg.mk ([110]:Bs) (TValue.mk (7:Int) (0:Int) ([122]:Bs) true ([]) (Sl.nil:Sl Bs)))]⟩:Sl TArg) (Sl.nil:Sl TDir) true ([]))]⟩:Sl TSel))]⟩:Sl TOp) (Sl.nil:Sl TFrag)) (0:Int)).bind fun x6=>guardO ((decide (((x6.l.length:Nat):Int)=(1:Int)))) (x6.l[0]?) ([]:Bs) fun x8=>guardO (((decide (((x6.l.length:Nat):Int)=(1:Int)))&&((x8==([122]:Bs))))) (((TQuery.mk (⟨false,[(TOp.mk (1:Int) ([113]:Bs) (⟨false,[(TVar.mk ([109]:Bs) (TRef.mk ([73,110,116]:Bs) (Sl.nil:Sl Int)) false TValue.zero)]⟩:Sl TVar) (⟨false,[(TSel.mk (1:Int) ([]:Bs) ([120]:Bs) ([]:Bs) (⟨false,[(TArg.mk ([110]:Bs) (TValue.mk (7:Int) (0:Int) ([122]:Bs) true ([]) (Sl.nil:Sl Bs)))]⟩:Sl TArg) (Sl.nil:Sl TDir) true ([]))]⟩:Sl TSel))]⟩:Sl TOp) (Sl.nil:Sl TFrag)).FOps).l[0]?) TOp.zero fun x9=>guardO (((decide (((x6.l.length:Nat):Int)=(1:Int)))&&((x8==([122]:Bs))))) (x9.FVars.l[0]?) TVar.zero fun x10=>guardO (((decide (((x6.l.length:Nat):Int)=(1:Int)))&&((x8==([122]:Bs))))) (Z127 (TDoc.mk (⟨false,[(TDef.mk (1:Int) ([81,117,101,114,121]:Bs) (Sl.nil:Sl Bs) (Sl.nil:Sl TDir) (⟨false,[(TField.mk ([120]:Bs) (⟨false,[(TInput.mk ([110]:Bs) (TRef.mk ([73,110,116]:Bs) (Sl.nil:Sl Int)) false TValue.zero (Sl.nil:Sl TDir))]⟩:Sl TInput) (TRef.mk ([73,110,116]:Bs) (Sl.nil:Sl Int)) (Sl.nil:Sl TDir))]⟩:Sl TField) (Sl.nil:Sl TMember) (Sl.nil:Sl TInput))]⟩:Sl TDef)) x10 (TRef.mk ([73,110,116]:Bs) (Sl.nil:Sl Int)) false) false fun x11=>guardO ((((decide (((x6.l.length:Nat):Int)=(1:Int)))&&((x8==([122]:Bs))))&&x11)) (Z126 (TDoc.mk (⟨false,[(TDef.mk (1:Int) ([81,117,101,114,121]:Bs) (Sl.nil:Sl Bs) (Sl.nil:Sl TDir) (⟨false,[(TField.mk ([120]:Bs) (⟨false,[(TInput.mk ([110]:Bs) (TRef.mk ([73,110,116]:Bs) (Sl.nil:Sl Int)) false TValue.zero (Sl.nil:Sl TDir))]⟩:Sl TInput) (TRef.mk ([73,110,116]:Bs) (Sl.nil:Sl Int)) (Sl.nil:Sl TDir))]⟩:Sl TField) (Sl.nil:Sl TMember) (Sl.nil:Sl TInput))]⟩:Sl TDef)) (TQuery.mk (⟨false,[(TOp.mk (1:Int) ([113]:Bs) (⟨false,[(TVar.mk ([109]:Bs) (TRef.mk ([73,110,116]:Bs) (Sl.nil:Sl Int)) false TValue.zero)]⟩:Sl TVar) (⟨false,[(TSel.mk (1:Int) ([]:Bs) ([120]:Bs) ([]:Bs) (⟨false,[(TArg.mk ([110]:Bs) (TValue.mk (7:Int) (0:Int) ([122]:Bs) true ([]) (Sl.nil:Sl Bs)))]⟩:Sl TArg) (Sl.nil:Sl TDir) true ([]))]⟩:Sl TSel))]⟩:Sl TOp) (Sl.nil:Sl TFrag))) (Sl.nil:Sl TFault) fun x12=>guardO ((((decide (((x6.l.length:Nat):Int)=(1:Int)))&&((x8==([122]:Bs))))&&x11)) (Z43 x12 (⟨false,[(TFault.mk (26:Int) ([113]:Bs)),(TFault.mk (27:Int) ([113,47,120]:Bs))]⟩:Sl TFault)) false fun x13=>some ((((decide (((x6.l.length:Nat):Int)=(1:Int)))&&((x8==([122]:Bs))))&&x11)&&x13)
theorem Z14_walk  {oT:Ab.Obj}{gT:Nat}{r:Bool}(hE:Z14 =some r) (H:Heap) (hgT:H gT=some oT) (hoT:IsTab Tryz.prog oT):ACalls Tryz.prog 7 [] H fun v h'=>v=.a (.d (.bool r))/\h'=H:=by
 unfold Z14 at hE;refine ACalls.oW 58 [.tmp 0] Tryz.call7 Tryz.func7 ?_;refine seqR ?_;refine S As ?_;refine nil ?_;refine seqR ?_;refine S BU (S BU (S BV (S BU ?_)));refine Sl ?_;refine Sf ?_;refine nil ?_;refine freezeA 1 _ rfl Keeps.nil ?_;refine seqR ?_;refine S BU (S BU (S BU (S BV (S BU (S BV (S BU (S BV (S BU ?_))))))));refine Sl ?_;refine Sf ?_;refine nil ?_;refine freezeA 2 _ rfl (KA 1 Keeps.nil) ?_
 refine seqR ?_;refine S BU (S BU (S BV (S Ld (S BV (S BU (S BV (S BU ?_)))))));refine Sl ?_;refine Sf ?_;refine nil ?_;refine freezeA 3 _ rfl (KA 2 Keeps.nil) ?_;refine seqR ?_;refine S Ld ?_;obtain⟨x6,gx6,hE⟩:=bO hE;refine Sc rfl rfl (Z128_walk gx6) ?_;refine S As ?_;refine nil ?_;refine AWp.seqD ?_;refine Sd Mv ?_;refine DOps.s0 (lenM' (f:=strE) (s:=x6) (TK rfl) rfl rfl rfl) rfl ?_;refine Sd BI (Sd Mv (g0d Mv ?_))
 obtain⟨x8,gx8,hE⟩:=gO hE;refine DOps.gC rfl rfl (fun hC=>ungdA (k:=32) rfl (idxMn (f:=strE) (n:=0) (TK rfl) rfl (TK rfl) rfl rfl rfl (gx8 hC))) rfl ?_;refine g1d 33 rfl Ld ?_;refine g1d 34 rfl BS ?_;refine Sd PA (Sd Mv (g0d Ld (g0d Fv ?_)));refine g1d 39 rfl Ld ?_;obtain⟨x9,gx9,hE⟩:=gO hE;refine DOps.gC rfl rfl (fun hC=>ungdA (k:=40) rfl (idxMn (f:=TOp.c) (n:=0) (TK rfl) rfl (TK rfl) rfl rfl rfl (gx9 hC))) rfl ?_
 refine g1d 41 rfl Fv ?_;refine g1d 42 rfl Ld ?_;obtain⟨x10,gx10,hE⟩:=gO hE;refine DOps.gC rfl rfl (fun hC=>ungdA (k:=43) rfl (idxMn (f:=TVar.c) (n:=0) (TK rfl) rfl (TK rfl) rfl rfl rfl (gx10 hC))) rfl ?_;refine g1d 44 rfl Ld ?_;refine g0d BU ?_;obtain⟨x11,gx11,hE⟩:=gO hE;refine DOps.gC rfl rfl (fun hC=>ungdA (k:=38) rfl (ungdA (k:=45) rfl (ungdA (k:=46) rfl (callP rfl rfl (fun H=>Z127_walk (gx11 hC) H))))) rfl ?_
 refine Sd PA (Sd Mv (g0d Ld (g0d Ld ?_)));obtain⟨x12,gx12,hE⟩:=gO hE;refine DOps.gC rfl rfl (fun hC=>ungdA (k:=50) rfl (ungdA (k:=51) rfl (callR rfl rfl (Z126_walk (gT:=gT) (oT:=oT) (gx12 hC) _ hpG (by assumption))))) rfl ?_;refine g0d BU (g0d BU ?_);refine DOps.gC rfl rfl (fun hC=>ungdA (k:=53) rfl (ungdA (k:=54) rfl (buildSlice (TK rfl) rfl (TK rfl) rfl rfl rfl rfl rfl rfl))) rfl ?_;obtain⟨x13,gx13,hE⟩:=gO hE
 refine gc2d 52 55 rfl rfl rfl rfl rfl rfl (fun hC=>Z43_walk (gx13 hC)) ?_;refine Sd PA (Sd As ?_);refine DOps.nil (by decide +kernel) ?_;exact rt hE
def Z13_j9  :Option Bool:=(Z14 ).bind fun x11=>some x11
def Z13_j19 (s5_14:Nat) (k_next_13:Nat->Option Bool) :Option Bool:=k_next_13 (s5_14+1)
def Z13_j36 (s7_31:Nat) (k_next_30:Nat->Option Bool) :Option Bool:=k_next_30 (s7_31+1)
def Z13_j38 (s7_31:Nat) (k_next_30:Nat->Option Bool) (s8_39:Int):Option Bool:=bif (!decide (s8_39=(1:Int))) then(some false) else(Z13_j36 s7_31 k_next_30 )
def Z13_j52 (s9_46:Nat) (k_next_44:Int->Nat->Option Bool) (s8_53:Int):Option Bool:=k_next_44 s8_53 (s9_46+1)
def Z13_l44 (a1:TQuery) (s5_14:Nat) (x21:(Sl Bs)) (s7_31:Nat) (k_next_30:Nat->Option Bool):Nat->Int->Nat->Option Bool
 | 0,_,_=>none
 | n44+1,s8_45,s9_46=>(a1.FOps.l[s5_14]?).bind fun x49=>bif (decide (((s9_46:Nat):Int)<((x49.FVars.l.length:Nat):Int))) then((a1.FOps.l[s5_14]?).bind fun x55=>(x55.FVars.l[s9_46]?).bind fun x56=>(x21.l[s7_31]?).bind fun x57=>bif ((x56.FName==x57)) then((addC s8_45 (1:Int)).bind fun x59=>Z13_j52 s9_46 ((Z13_l44 a1 s5_14 x21 s7_31 k_next_30 n44)) x59) else(Z13_j52 s9_46 ((Z13_l44 a1 s5_14 x21 s7_31 k_next_30 n44)) s8_45)) else(Z13_j38 s7_31 k_next_30 s8_45)
def Z13_l30 (a1:TQuery) (s5_14:Nat) (x21:(Sl Bs)) (k_next_13:Nat->Option Bool):Nat->Nat->Option Bool
 | 0,_=>none
 | n30+1,s7_31=>bif (decide (((s7_31:Nat):Int)<((x21.l.length:Nat):Int))) then(Z13_l44 a1 s5_14 x21 s7_31 ((Z13_l30 a1 s5_14 x21 k_next_13 n30)) (Option.elim (a1.FOps.l[s5_14]?) 1 (fun x49=>x49.FVars.l.length+1)) (0:Int) 0) else(Z13_j19 s5_14 k_next_13 )
def Z13_l13 (a1:TQuery) :Nat->Nat->Option Bool
 | 0,_=>none
 | n13+1,s5_14=>bif (decide (((s5_14:Nat):Int)<((a1.FOps.l.length:Nat):Int))) then((Z128 a1 ((s5_14:Nat):Int)).bind fun x21=>(a1.FOps.l[s5_14]?).bind fun x25=>bif (!decide (((x21.l.length:Nat):Int)=((x25.FVars.l.length:Nat):Int))) then(some false) else(Z13_l30 a1 s5_14 x21 ((Z13_l13 a1 n13)) (x21.l.length+1) 0)) else(Z13_j9   )
def Z13 (a0:TDoc) (a1:TQuery):Option Bool:=(Z15 a0 a1).bind fun x4=>guardO (!(!x4)) (Z126 a0 a1) (Sl.nil:Sl TFault) fun x5=>bif ((!x4)||(decide ((0:Int)<((x5.l.length:Nat):Int)))) then((Z14 ).bind fun x8=>some x8) else(Z13_l13 a1 (a1.FOps.l.length+1) 0)
theorem Z13_walk {a0:TDoc}{a1:TQuery}{oT:Ab.Obj}{gT:Nat}{r:Bool}(hE:Z13 a0 a1=some r) (H:Heap) (hgT:H gT=some oT) (hoT:IsTab Tryz.prog oT):ACalls Tryz.prog 3 [.agg (TDoc.c a0),.agg (TQuery.c a1)] H fun v h'=>v=.a (.d (.bool r))/\h'=H:=by
 unfold Z13 at hE;refine ACalls.oW 79 [.tmp 4] Tryz.call3 Tryz.func3 ?_;refine seqR ?_;refine S BX (S BX (S As ?_));refine nil ?_;refine seqK fun K2 hK2=>?_;refine seqR ?_;refine S Ld (S Ld ?_);obtain⟨x4,gx4,hE⟩:=bO hE;refine Sc rfl rfl (Z15_walk gx4) ?_;refine S NB (S Mv (g0 Ld (g0 Ld ?_)));obtain⟨x5,gx5,hE⟩:=gO hE;refine gC rfl rfl (fun hC=>ungdA (k:=15) rfl (ungdA (k:=16) rfl (callR rfl rfl (Z126_walk (gT:=gT) (oT:=oT) (gx5 hC) _ hpG (by assumption))))) rfl ?_
 refine gC rfl rfl (fun hC=>ungdA (k:=17) rfl (lenM' (f:=TFault.c) (s:=x5) (TK rfl) rfl rfl rfl)) rfl ?_;refine g1 18 rfl BI ?_;refine S PO ?_;refine nil ?_;refine cE hE (fun hc6 hE=>?_) (fun hc6 hE=>?_)
 ·refine seqR ?_;obtain⟨x8,gx8,hE⟩:=bO hE;refine s0 (callR rfl rfl (Z14_walk (gT:=gT) (oT:=oT) gx8 _ hpG (by assumption))) rfl ?_;refine S As ?_;refine nil ?_;exact rt hE
 refine sk hK2 ?_;clear hK2 K2;refine seqJH KeepsT.nil (fun(z:Unit)=>[]) (fun z=>H) (fun z=>Z13_j9 =some r) ?_ ?_
 ·intro K9 hK9;refine seqR ?_;refine S As ?_;refine nil ?_;refine block ?_;refine loopH (TA 3 KeepsT.nil) (fun(z:Nat×Nat)=>[(5,.a (.d (.int .i64 ((z.2:Nat):Int))))]) (fun z=>H) (fun z=>z.1) (fun z=>Z13_l13 a1 z.1 z.2=some r) ((a1.FOps.l.length+1),0) hE Weak.toA ?_;rintro ⟨n13,s5_14⟩ hE K13 hK13;try dsimp only at hE
  cases n13 with
  | zero=>cases hE
  | succ n13 =>
    rw [Z13_l13] at hE;refine seqK fun K15 hK15=>?_;refine seqR ?_;refine S Mv (S Fv (S Ld ?_));refine sLen (f:=TOp.c) (s:=a1.FOps) (TK rfl) rfl rfl rfl rfl fun hL17=>?_;refine S BI ?_;refine nil ?_;refine cE hE (fun hc18 hE=>?_) (fun hc18 hE=>?_)
    ·try dsimp only at hc18
     have hf18:=of_decide_eq_true hc18;refine sk hK15 ?_;clear hK15 K15;refine seqJH (TA 3 (TA 5 KeepsT.nil)) (fun(z:Unit)=>[]) (fun z=>H) (fun z=>Z13_j19 s5_14 ((Z13_l13 a1 n13)) =some r) ?_ ?_
     ·intro K19 hK19;refine block ?_;refine seqR ?_;refine S Ld (S Mv ?_);obtain⟨x21,gx21,hE⟩:=bO hE;refine Sc rfl rfl (Z128_walk gx21) ?_;refine S As ?_;refine nil ?_;refine seqK fun K22 hK22=>?_;refine seqR ?_;refine S Mv ?_;refine sLen (f:=strE) (s:=x21) (TK rfl) rfl rfl rfl rfl fun hL24=>?_;refine S Fv (S Ld (S Mv ?_));obtain⟨x25,gx25,hE⟩:=bO hE;refine s0 (idxMn (f:=TOp.c) (n:=s5_14) (TK rfl) rfl (TK rfl) rfl rfl rfl gx25) rfl ?_
      refine S Fv (S Ld ?_);refine sLen (f:=TVar.c) (s:=x25.FVars) (TK rfl) rfl rfl rfl rfl fun hL26=>?_;refine S BI ?_;refine nil ?_;refine cE hE (fun hc27 hE=>?_) (fun hc27 hE=>?_)
      ·refine seqR ?_;refine S As ?_;refine nil ?_;exact rt hE
      refine sk hK22 ?_;clear hK22 K22;refine seqR ?_;refine S As ?_;refine nil ?_;refine block ?_;refine loopH (TA 3 (TA 5 (TA 6 KeepsT.nil))) (fun(z:Nat×Nat)=>[(7,.a (.d (.int .i64 ((z.2:Nat):Int))))]) (fun z=>H) (fun z=>z.1) (fun z=>Z13_l30 a1 s5_14 x21 ((Z13_l13 a1 n13)) z.1 z.2=some r) ((x21.l.length+1),0) hE Weak.toA ?_;rintro ⟨n30,s7_31⟩ hE K30 hK30;try dsimp only at hE
      cases n30 with
      | zero=>cases hE
      | succ n30 =>
        rw [Z13_l30] at hE;refine seqK fun K32 hK32=>?_;refine seqR ?_;refine S Mv (S Mv ?_);refine sLen (f:=strE) (s:=x21) (TK rfl) rfl rfl rfl rfl fun hL34=>?_;refine S BI ?_;refine nil ?_;refine cE hE (fun hc35 hE=>?_) (fun hc35 hE=>?_)
        ·try dsimp only at hc35
         have hf35:=of_decide_eq_true hc35;refine sk hK32 ?_;clear hK32 K32;refine seqJH (TA 3 (TA 5 (TA 6 (TA 7 KeepsT.nil)))) (fun(z:Unit)=>[]) (fun z=>H) (fun z=>Z13_j36 s7_31 ((Z13_l30 a1 s5_14 x21 ((Z13_l13 a1 n13)) n30)) =some r) ?_ ?_
         ·intro K36 hK36;refine block ?_;refine seqR ?_;refine S As ?_;refine nil ?_;refine seqJH (TA 3 (TA 5 (TA 6 (TA 7 KeepsT.nil)))) (fun(z:Int)=>[(8,.a (.d (.int .i64 z)))]) (fun z=>H) (fun z=>Z13_j38 s7_31 ((Z13_l30 a1 s5_14 x21 ((Z13_l13 a1 n13)) n30)) z=some r) ?_ ?_
          ·intro K38 hK38;refine seqR ?_;refine S As ?_;refine nil ?_;refine block ?_;refine loopH (TA 3 (TA 5 (TA 6 (TA 7 KeepsT.nil)))) (fun(z:Nat×Int×Nat)=>[(8,.a (.d (.int .i64 z.2.1))),(9,.a (.d (.int .i64 ((z.2.2:Nat):Int))))]) (fun z=>H) (fun z=>z.1) (fun z=>Z13_l44 a1 s5_14 x21 s7_31 ((Z13_l30 a1 s5_14 x21 ((Z13_l13 a1 n13)) n30)) z.1 z.2.1 z.2.2=some r) ((Option.elim (a1.FOps.l[s5_14]?) 1 (fun x49=>x49.FVars.l.length+1)),(0:Int),0) hE Weak.toA ?_
           rintro ⟨n44,s8_45,s9_46⟩ hE K44 hK44;try dsimp only at hE
           cases n44 with
           | zero=>cases hE
           | succ n44 =>
             rw [Z13_l44] at hE;refine seqK fun K47 hK47=>?_;refine seqR ?_;refine S Mv (S Fv (S Ld (S Mv ?_)));obtain⟨x49,gx49,hE⟩:=bO hE;refine s0 (idxMn (f:=TOp.c) (n:=s5_14) (TK rfl) rfl (TK rfl) rfl rfl rfl gx49) rfl ?_;refine S Fv (S Ld ?_);refine sLen (f:=TVar.c) (s:=x49.FVars) (TK rfl) rfl rfl rfl rfl fun hL50=>?_;refine S BI ?_;refine nil ?_;refine cE hE (fun hc51 hE=>?_) (fun hc51 hE=>?_)
             ·try dsimp only at hc51
              have hf51:=of_decide_eq_true hc51;refine sk hK47 ?_;clear hK47 K47;refine seqJH (TA 3 (TA 5 (TA 6 (TA 7 (TA 9 KeepsT.nil))))) (fun(z:Int)=>[(8,.a (.d (.int .i64 z)))]) (fun z=>H) (fun z=>Z13_j52 s9_46 ((Z13_l44 a1 s5_14 x21 s7_31 ((Z13_l30 a1 s5_14 x21 ((Z13_l13 a1 n13)) n30)) n44)) z=some r) ?_ ?_
              ·intro K52 hK52;refine block ?_;refine AWp.seqD ?_;refine Sd Fv (Sd Ld (Sd Mv ?_));obtain⟨x55,gx55,hE⟩:=bO hE;refine DOps.s0 (idxMn (f:=TOp.c) (n:=s5_14) (TK rfl) rfl (TK rfl) rfl rfl rfl gx55) rfl ?_;refine Sd Fv (Sd Ld (Sd Mv ?_));obtain⟨x56,gx56,hE⟩:=bO hE;refine DOps.s0 (idxMn (f:=TVar.c) (n:=s9_46) (TK rfl) rfl (TK rfl) rfl rfl rfl gx56) rfl ?_;refine Sd Fv (Sd Ld (Sd Mv (Sd Mv ?_)))
               obtain⟨x57,gx57,hE⟩:=bO hE;refine DOps.s0 (idxMn (f:=strE) (n:=s7_31) (TK rfl) rfl (TK rfl) rfl rfl rfl gx57) rfl ?_;refine Sd Ld (Sd BS ?_);refine DOps.nil (by decide +kernel) ?_;refine cE hE (fun hc58 hE=>?_) (fun hc58 hE=>?_)
               ·refine region ?_;refine S Mv ?_;obtain⟨x59,gx59,hE⟩:=bO hE;refine s0 (addM rfl rfl gx59) rfl ?_;refine S As ?_;refine nil ?_;exact hK52 _ x59 Weak.toA hE
               refine AWp.skip ?_;exact hK52 _ s8_45 Weak.toA hE
              rintro s8_53 hE;try dsimp only at hE
              unfold Z13_j52 at hE;refine region ?_;refine S Mv ?_;refine SI ?_;refine S As ?_;refine nil ?_;exact hK44 _ (n44,s8_53,(s9_46+1)) Weak.toA hE (Nat.lt_succ_self _)
             refine AWp.exit ?_;exact hK38 _ s8_45 Weak.toA hE
          rintro s8_39 hE;try dsimp only at hE
          unfold Z13_j38 at hE;refine seqR ?_;refine S Mv (S BI ?_);refine nil ?_;refine cE hE (fun hc41 hE=>?_) (fun hc41 hE=>?_)
          ·refine seqR ?_;refine S As ?_;refine nil ?_;exact rt hE
          refine AWp.skip ?_;exact hK36 _ () Weak.toA hE
         rintro _ hE;try dsimp only at hE
         unfold Z13_j36 at hE;refine region ?_;refine S Mv ?_;refine SI ?_;refine S As ?_;refine nil ?_;exact hK30 _ (n30,(s7_31+1)) Weak.toA hE (Nat.lt_succ_self _)
        refine AWp.exit ?_;exact hK19 _ () Weak.toA hE
     rintro _ hE;try dsimp only at hE
     unfold Z13_j19 at hE;refine region ?_;refine S Mv ?_;refine SI ?_;refine S As ?_;refine nil ?_;exact hK13 _ (n13,(s5_14+1)) Weak.toA hE (Nat.lt_succ_self _)
    refine AWp.exit ?_;exact hK9 _ () Weak.toA hE
 rintro _ hE;try dsimp only at hE
 unfold Z13_j9 at hE;refine seqR ?_;obtain⟨x11,gx11,hE⟩:=bO hE;refine s0 (callR rfl rfl (Z14_walk (gT:=gT) (oT:=oT) gx11 _ hpG (by assumption))) rfl ?_;refine S As ?_;refine nil ?_;exact rt hE
end Go.Proofs
