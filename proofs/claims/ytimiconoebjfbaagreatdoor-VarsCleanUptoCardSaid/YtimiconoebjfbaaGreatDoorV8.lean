import Derived.Test.YtimiconoebjfbaaGreatDoorV7
set_option maxRecDepth 100000
set_option maxHeartbeats 2000000
set_option linter.unusedVariables false
set_option linter.unusedSimpArgs false
namespace Go.Proofs
open Go Go.Ab
open AOps Cert AWp Keeps KeepsT
variable {lou:Lou}
def Z1 (a0:Coerce_coercer) (a1:Int):Option (Int×Coerce_coercer):=bif (decide ((24:Int)<a1)) then(some ((5:Int),a0)) else((addC a0.Fnodes (1:Int)).bind fun x7=>bif (decide ((4096:Int)<x7)) then(some ((4:Int),(Coerce_coercer.mk a0.Fd a0.Fvars a0.Fliteral x7))) else(some ((0:Int),(Coerce_coercer.mk a0.Fd a0.Fvars a0.Fliteral x7))))
theorem Z1_walk {a0:Coerce_coercer}{a1:Int}{c0:Nat}{r:Int×Coerce_coercer}(hE:Z1 a0 a1=some r) (H:Heap) (hc0:H c0=some (.cells (Coerce_coercer.c a0))):ACalls Tryz.prog 115 [.d (.ptr c0 0),.d (.int .i64 a1)] H fun v h'=>v=.a (.d (.int .i64 r.1))/\h'=(H.set c0 (some (.cells (Coerce_coercer.c r.2)))):=by
 unfold Z1 at hE;refine ACalls.oW 19 [.tmp 4] Tryz.call115 Tryz.func115 ?_;refine AWp.heqA (h':=(H.set c0 (some (.cells (Coerce_coercer.c a0))))) (by funext n_; simp only [Heap.set]; (repeat' split)<;>simp_all) ?_;refine seqR ?_;refine S As ?_;refine nil ?_;refine seqK fun K2 hK2=>?_;refine seqR ?_;refine S Mv (S BI ?_);refine nil ?_;refine cE hE (fun hc4 hE=>?_) (fun hc4 hE=>?_)
 ·refine seqR ?_;refine S As ?_;refine nil ?_;exact rt hE
 refine sk hK2 ?_;clear hK2 K2;refine seqR ?_;refine S Mv (S NP ?_);refine s0 (fieldP (TK rfl) rfl rfl (TK rfl) rfl rfl) rfl ?_;refine s0 (loadP (TK rfl) rfl rfl hpG rfl) rfl ?_;obtain⟨x7,gx7,hE⟩:=bO hE;refine s0 (addM rfl rfl gx7) rfl ?_;refine S NP ?_;refine s0 (fieldP (TK rfl) rfl rfl (TK rfl) rfl rfl) rfl ?_;refine sHn (storeP1 (TK rfl) rfl rfl hpG rfl (by repeat (first|exact SetAt.zero|apply SetAt.succ))) rfl rfl ?_
 refine hq (H.set c0 (some (.cells (Coerce_coercer.c (Coerce_coercer.mk a0.Fd a0.Fvars a0.Fliteral x7))))) ?_;refine nil ?_;refine seqK fun K8 hK8=>?_;refine seqR ?_;refine S Mv (S NP ?_);refine s0 (fieldP (TK rfl) rfl rfl (TK rfl) rfl rfl) rfl ?_;refine s0 (loadP (TK rfl) rfl rfl hpG rfl) rfl ?_;refine S BI ?_;refine nil ?_;refine cE hE (fun hc10 hE=>?_) (fun hc10 hE=>?_)
 ·refine seqR ?_;refine S As ?_;refine nil ?_;exact rt hE
 refine sk hK8 ?_;clear hK8 K8;refine seqR ?_;refine S As ?_;refine nil ?_;exact rt hE
def Z7_j8  (y9_c0:Coerce_coercer):Option (Int×Coerce_coercer):=some ((0:Int),y9_c0)
def Z7_l13 (a1:TValue) (a2:Int) (k_rec_114:Coerce_coercer->TValue->Int->Option (Int×Coerce_coercer)):Nat->Nat->Coerce_coercer->Option (Int×Coerce_coercer)
 | 0,_,_=>none
 | n13+1,s20_14,y15_c0=>bif (decide (((s20_14:Nat):Int)<((a1.FItems.l.length:Nat):Int))) then((a1.FItems.l[s20_14]?).bind fun x21=>(addC a2 (1:Int)).bind fun x23=>(k_rec_114 y15_c0 x21 x23).bind fun x24=>bif (!decide (x24.1=(0:Int))) then(some (x24.1,x24.2)) else((Z7_l13 a1 a2 k_rec_114 n13) (s20_14+1) x24.2)) else(Z7_j8   y15_c0)
def Z7_n:Nat->Coerce_coercer->TValue->Int->Option (Int×Coerce_coercer)
 | 0,_,_,_=>none
 | n+1,a0,a1,a2=>(Z1 a0 a2).bind fun x4=>bif (!decide (x4.1=(0:Int))) then(some (x4.1,x4.2)) else(Z7_l13 a1 a2 (Z7_n n) (a1.FItems.l.length+1) 0 x4.2)
theorem Z7_step (n:Nat) (ih_114:∀{a0:Coerce_coercer}{a1:TValue}{a2:Int}{c0:Nat}{r:Int×Coerce_coercer},Z7_n n a0 a1 a2=some r->∀(H:Heap) (hc0:H c0=some (.cells (Coerce_coercer.c a0))),ACalls Tryz.prog 114 [.d (.ptr c0 0),.agg (TValue.c a1),.d (.int .i64 a2)] H fun v h'=>v=.a (.d (.int .i64 r.1))/\h'=(H.set c0 (some (.cells (Coerce_coercer.c r.2))))):∀{a0:Coerce_coercer}{a1:TValue}{a2:Int}{c0:Nat}{r:Int×Coerce_coercer},Z7_n (n+1) a0 a1 a2=some r->∀(H:Heap) (hc0:H c0=some (.cells (Coerce_coercer.c a0))),ACalls Tryz.prog 114 [.d (.ptr c0 0),.agg (TValue.c a1),.d (.int .i64 a2)] H fun v h'=>v=.a (.d (.int .i64 r.1))/\h'=(H.set c0 (some (.cells (Coerce_coercer.c r.2)))):=by
 intro a0 a1 a2  c0 r hE H hc0;rw [Z7_n] at hE;refine ACalls.oW 33 [.tmp 6] Tryz.call114 Tryz.func114 ?_;refine AWp.heqA (h':=(H.set c0 (some (.cells (Coerce_coercer.c a0))))) (by funext n_; simp only [Heap.set]; (repeat' split)<;>simp_all) ?_;refine seqR ?_;refine S BX (S As ?_);refine nil ?_;refine seqK fun K2 hK2=>?_;refine seqR ?_;refine S Mv (S Mv ?_);obtain⟨x4,gx4,hE⟩:=bO hE;refine sH (callH rfl rfl (Z1_walk gx4 _ hpG)) rfl ?_
 refine hq (H.set c0 (some (.cells (Coerce_coercer.c x4.2)))) ?_;refine S As ?_;refine nil ?_;refine seqR ?_;refine S Mv (S BI ?_);refine nil ?_;refine cE hE (fun hc6 hE=>?_) (fun hc6 hE=>?_)
 ·refine seqR ?_;refine S Mv (S As ?_);refine nil ?_;exact rt hE
 refine sk hK2 ?_;clear hK2 K2;refine seqJH KeepsT.nil (fun(z:Coerce_coercer)=>[]) (fun z=>(H.set c0 (some (.cells (Coerce_coercer.c z))))) (fun z=>Z7_j8 z=some r) ?_ ?_
 ·intro K8 hK8;refine seqR ?_;refine S Fv ?_;refine s0 (loadV (TK rfl) rfl rfl (congrArg (fun x=>some (A.d x)) (TValue.FItemsD_eq _))) rfl ?_;refine sLen (f:=TValue.c) (s:=a1.FItems) (TK rfl) rfl rfl rfl rfl fun hL12=>?_;refine S Mv ?_;refine nil ?_;refine block ?_;refine loopH (TA 0 (TA 2 (TA 18 (TA 19 KeepsT.nil)))) (fun(z:Nat×Nat×Coerce_coercer)=>[(20,.a (.d (.int .i64 ((z.2.1:Nat):Int))))]) (fun z=>(H.set c0 (some (.cells (Coerce_coercer.c z.2.2))))) (fun z=>z.1) (fun z=>Z7_l13 a1 a2 (Z7_n n) z.1 z.2.1 z.2.2=some r) ((a1.FItems.l.length+1),0,x4.2) hE Weak.toA ?_
  rintro ⟨n13,s20_14,y15_c0⟩ hE K13 hK13;try dsimp only at hE
  cases n13 with
  | zero=>cases hE
  | succ n13 =>
    rw [Z7_l13] at hE;refine seqR ?_;refine S BI ?_;refine nil ?_;refine seqK fun K17 hK17=>?_;refine cE hE (fun hc18 hE=>?_) (fun hc18 hE=>?_)
    ·try dsimp only at hc18
     have hf18:=of_decide_eq_true hc18;refine sk hK17 ?_;clear hK17 K17;refine seqK fun K19 hK19=>?_;refine block ?_;refine seqR ?_;obtain⟨x21,gx21,hE⟩:=bO hE;refine s0 (idxMn (f:=TValue.c) (n:=s20_14) (TK rfl) rfl (TK rfl) rfl rfl rfl gx21) rfl ?_;refine S Ld ?_;refine Sl ?_;refine Sf ?_;refine nil ?_;refine freezeA 9 _ rfl (KA 0 (KA 2 (KA 18 (KA 19 (KA 20 Keeps.nil))))) ?_;refine seqR ?_;refine S Mv (S Ld (S Mv ?_))
     obtain⟨x23,gx23,hE⟩:=bO hE;refine s0 (addM rfl rfl gx23) rfl ?_;obtain⟨x24,gx24,hE⟩:=bO hE;refine sH (callH rfl rfl (ih_114 gx24 _ hpG)) rfl ?_;refine hq (H.set c0 (some (.cells (Coerce_coercer.c x24.2)))) ?_;refine S As ?_;refine nil ?_;refine seqR ?_;refine S Mv (S BI ?_);refine nil ?_;refine cE hE (fun hc26 hE=>?_) (fun hc26 hE=>?_)
     ·refine seqR ?_;refine S Mv (S As ?_);refine nil ?_;exact rt hE
     refine sk hK19 ?_;clear hK19 K19;refine region ?_;refine SI ?_;refine S Mv ?_;refine nil ?_;exact hK13 _ (n13,(s20_14+1),x24.2) Weak.toA hE (Nat.lt_succ_self _)
    refine AWp.exit ?_;exact hK8 _ y15_c0 Weak.toA hE
 rintro y9_c0 hE;try dsimp only at hE
 unfold Z7_j8 at hE;refine seqR ?_;refine S As ?_;refine nil ?_;exact rt hE
theorem Z7_all:∀(n:Nat),(∀{a0:Coerce_coercer}{a1:TValue}{a2:Int}{c0:Nat}{r:Int×Coerce_coercer},Z7_n n a0 a1 a2=some r->∀(H:Heap) (hc0:H c0=some (.cells (Coerce_coercer.c a0))),ACalls Tryz.prog 114 [.d (.ptr c0 0),.agg (TValue.c a1),.d (.int .i64 a2)] H fun v h'=>v=.a (.d (.int .i64 r.1))/\h'=(H.set c0 (some (.cells (Coerce_coercer.c r.2)))))
 | 0=>fun hE=>by first|cases hE|(rw [Z7_n] at hE; cases hE)
 | n+1=>Z7_step n (Z7_all n)
def Z7 (a0:Coerce_coercer) (a1:TValue) (a2:Int):Option (Int×Coerce_coercer):=Z7_n F0 a0 a1 a2
theorem Z7_walk {a0:Coerce_coercer}{a1:TValue}{a2:Int}{c0:Nat}{r:Int×Coerce_coercer}(hE:Z7 a0 a1 a2=some r) (H:Heap) (hc0:H c0=some (.cells (Coerce_coercer.c a0))):ACalls Tryz.prog 114 [.d (.ptr c0 0),.agg (TValue.c a1),.d (.int .i64 a2)] H fun v h'=>v=.a (.d (.int .i64 r.1))/\h'=(H.set c0 (some (.cells (Coerce_coercer.c r.2)))):=(Z7_all F0) hE H hc0
def Z114 (a0:TRef):Option Bool:=guardO ((decide ((0:Int)<((a0.FWraps.l.length:Nat):Int)))) (a0.FWraps.l[0]?) (0:Int) fun x4=>some ((decide ((0:Int)<((a0.FWraps.l.length:Nat):Int)))&&(decide (x4=(1:Int))))
theorem Z114_walk {a0:TRef}{r:Bool}(hE:Z114 a0=some r) (H:Heap) :ACalls Tryz.prog 116 [.agg (TRef.c a0)] H fun v h'=>v=.a (.d (.bool r))/\h'=H:=by
 unfold Z114 at hE;refine ACalls.oW 14 [.tmp 2] Tryz.call116 Tryz.func116 ?_;refine seqR ?_;refine S BX (S As ?_);refine nil ?_;refine seqR ?_;refine S Fv (S Ld ?_);refine sLen (f:=(intE .i64)) (s:=a0.FWraps) (TK rfl) rfl rfl rfl rfl fun hL3=>?_;refine S BI (S Mv (g0 Fv ?_));refine g1 8 rfl Ld ?_;obtain⟨x4,gx4,hE⟩:=gO hE;refine gC rfl rfl (fun hC=>ungdA (k:=9) rfl (idxMn (f:=(intE .i64)) (n:=0) (TK rfl) rfl (TK rfl) rfl rfl rfl (gx4 hC))) rfl ?_
 refine g1 10 rfl Ld ?_;refine g1 11 rfl BI ?_;refine S PA (S As ?_);refine nil ?_;exact rt hE
def Z99 (a0:(Sl Int)):Option (Sl Int):=bif a0.nl then(some (Sl.nil:Sl Int)) else((appC 8 (⟨false,[]⟩:Sl Int) a0).bind fun x7=>some x7)
theorem Z99_walk {a0:Sl Int}{w0:Option Nat}{r:Sl Int}(hE:Z99 a0=some r) (H:Heap) :ACalls Tryz.prog 122 [.d (Sl.d 1 (intE .i64) w0 a0)] H fun v h'=>v=.a (.d (Sl.d 1 (intE .i64) none r))/\h'=H:=by
 unfold Z99 at hE;refine ACalls.oW 8 [.tmp 2] Tryz.call122 Tryz.func122 ?_;refine seqR ?_;refine s0 (assignNil (k':=1) rfl) rfl ?_;refine nil ?_;refine seqK fun K2 hK2=>?_;refine seqR ?_;refine S Mv ?_;refine s0 (eqNil (TK rfl) rfl rfl) rfl ?_;refine nil ?_;refine cE hE (fun hc4 hE=>?_) (fun hc4 hE=>?_)
 ·refine seqR ?_;refine s0 (assignNil (k':=1) rfl) rfl ?_;refine nil ?_;exact rt hE
 refine sk hK2 ?_;clear hK2 K2;refine seqR ?_;refine s0 (buildSliceF (TK rfl) rfl (TK rfl) rfl rfl rfl rfl rfl rfl) rfl ?_;refine S Mv ?_;obtain⟨x7,gx7,hE⟩:=bO hE;refine s0 (appFM (f:=(intE .i64)) (TK rfl) rfl (TK rfl) (TK rfl) ⟨_,rfl⟩ rfl rfl (by decide) rfl rfl rfl (by intro q h; cases h<;>decide) rfl rfl gx7) rfl ?_;refine S As ?_;refine nil ?_;exact rt hE
theorem Z99_arr {a0:Sl Int}{w0:Option Nat}{ar0:Nat}{r:Sl Int}(hE:Z99 a0=some r) (H:Heap) (har0:H ar0=some (.arr 1 [])) :ACalls Tryz.prog 122 [.d (Sl.d 1 (intE .i64) w0 a0)] H fun v h'=>v=.a (.d (.arr 1 ar0 r.nl r.l.length))/\h'=H.set ar0 (some (.arr 1 (r.l.map (intE .i64)))):=by
 unfold Z99 at hE;refine ACalls.oW 8 [.tmp 2] Tryz.call122 Tryz.func122 ?_;refine AWp.heqA (h':=(H.set ar0 (some (.arr 1 [])))) (by funext n_; simp only [Heap.set]; (repeat' split)<;>simp_all) ?_;refine seqR ?_;refine s0 (assignNil (k':=1) rfl) rfl ?_;refine AOps.nilR 2 1 ar0 rfl hpG ?_;refine nil ?_;refine seqK fun K2 hK2=>?_;refine seqR ?_;refine S Mv ?_;refine s0 (eqNil (TK rfl) rfl rfl) rfl ?_
 refine nil ?_;refine cE hE (fun hc4 hE=>?_) (fun hc4 hE=>?_)
 ·refine seqR ?_;refine s0 (assignNil (k':=1) rfl) rfl ?_;refine AOps.nilR 2 1 ar0 rfl hpG ?_;refine nil ?_;exact rt hE
 refine sk hK2 ?_;clear hK2 K2;refine seqR ?_;refine s0 (buildSliceF (TK rfl) rfl (TK rfl) rfl rfl rfl rfl rfl rfl) rfl ?_;refine AOps.fullR 5 1 ar0 rfl hpG ?_;refine S Mv ?_;obtain⟨x7,gx7,hE⟩:=bO hE;refine sH (appR (f:=(intE .i64)) (s:=(⟨false,[]⟩:Sl Int)) (TK rfl) rfl (TK rfl) (TK rfl) ⟨_,rfl⟩ rfl rfl rfl rfl rfl rfl hpG (by first|rfl|simp [Sl.setL,Sl.nil,sortL_len]) rfl gx7) rfl ?_;refine hq (H.set ar0 (some (.arr 1 (x7.l.map (intE .i64))))) ?_
 refine S As ?_;refine nil ?_;exact rt hE
def Z117_j3 (a0:TRef)  (s3_4:(Sl Int)):Option TRef:=(Z99 s3_4).bind fun x6=>some (TRef.mk a0.FName x6)
def Z117 (a0:TRef):Option TRef:=(Z114 a0).bind fun x8=>bif x8 then((partC a0.FWraps (some (1:Int)) none).bind fun x10=>Z117_j3 a0  x10) else(Z117_j3 a0  a0.FWraps)
theorem Z117_walk {a0 r:TRef}(hE:Z117 a0=some r) (H:Heap) :ACalls Tryz.prog 136 [.agg (TRef.c a0)] H fun v h'=>v=.a (.agg (TRef.c r))/\h'=H:=by
 unfold Z117 at hE;refine ACalls.oW 15 [.cell 2 41] Tryz.call136 Tryz.func136 ?_;refine seqR ?_;refine S BX ?_;refine Sl ?_;refine nil ?_;refine seqR ?_;refine S Fv (S Ld (S As ?_));refine nil ?_;refine seqJH (TA 1 (TA 2 KeepsT.nil)) (fun(z:(Sl Int))=>[(3,.a (.d (Sl.d 1 (intE .i64) none z)))]) (fun z=>H) (fun z=>Z117_j3 a0 z=some r) ?_ ?_
 ·intro K3 hK3;refine seqR ?_;refine S Ld ?_;obtain⟨x8,gx8,hE⟩:=bO hE;refine Sc rfl rfl (Z114_walk gx8) ?_;refine nil ?_;refine cE hE (fun hc9 hE=>?_) (fun hc9 hE=>?_)
  ·refine region ?_;refine S Mv ?_;obtain⟨x10,gx10,hE⟩:=bO hE;refine s0 (partM (f:=(intE .i64)) (l:=(some (1:Int))) (r:=none) (TK rfl) rfl (TK rfl) rfl rfl rfl trivial gx10) rfl ?_;refine S As ?_;refine nil ?_;exact hK3 _ x10 Weak.toA hE
  refine AWp.skip ?_;exact hK3 _ a0.FWraps Weak.toA hE
 rintro s3_4 hE;try dsimp only at hE
 unfold Z117_j3 at hE;refine AWp.seqD ?_;refine Sd Fv (Sd Ld (Sd Mv ?_));obtain⟨x6,gx6,hE⟩:=bO hE;refine DOps.s0 (callP rfl rfl (fun H=>Z99_walk gx6 H)) rfl ?_;refine Sd BU ?_;refine DOps.sLn (storeLFA (TK rfl) rfl rfl rfl rfl rfl) ?_;refine DOps.nil (by decide +kernel) ?_;exact rt hE
def Z113 (a0:TRef):Option Bool:=(Z117 a0).bind fun x3=>guardO ((decide ((0:Int)<((x3.FWraps.l.length:Nat):Int)))) (x3.FWraps.l[0]?) (0:Int) fun x6=>some ((decide ((0:Int)<((x3.FWraps.l.length:Nat):Int)))&&(decide (x6=(2:Int))))
theorem Z113_walk {a0:TRef}{r:Bool}(hE:Z113 a0=some r) (H:Heap) :ACalls Tryz.prog 135 [.agg (TRef.c a0)] H fun v h'=>v=.a (.d (.bool r))/\h'=H:=by
 unfold Z113 at hE;refine ACalls.oW 16 [.tmp 2] Tryz.call135 Tryz.func135 ?_;refine seqR ?_;refine sL (boxL rfl (by repeat (first|exact Snoc.nil|apply Snoc.cons))) rfl ?_;refine S As ?_;refine nil ?_;refine seqR ?_;refine S LL ?_;obtain⟨x3,gx3,hE⟩:=bO hE;refine Sc rfl rfl (Z117_walk gx3) ?_;refine Sf ?_;refine nil ?_;refine seqR ?_;refine S FL (S LL ?_);refine sLen (f:=(intE .i64)) (s:=x3.FWraps) (TK rfl) rfl rfl rfl rfl fun hL5=>?_
 refine S BI (S Mv (g0 FL ?_));refine gC rfl rfl (fun hC=>ungdLA (k:=10) rfl (loadL (TK rfl) rfl rfl rfl rfl)) rfl ?_;obtain⟨x6,gx6,hE⟩:=gO hE;refine gC rfl rfl (fun hC=>ungdA (k:=11) rfl (idxMn (f:=(intE .i64)) (n:=0) (TK rfl) rfl (TK rfl) rfl rfl rfl (gx6 hC))) rfl ?_;refine g1 12 rfl Ld ?_;refine g1 13 rfl BI ?_;refine S PA (S As ?_);refine nil ?_;exact rt hE
def Z112 (a0:TRef):Option (TRef×Bool):=(Z113 a0).bind fun x4=>bif (!x4) then(some ((TRef.mk ([]:Bs) (Sl.nil:Sl Int)),false)) else((Z117 a0).bind fun x8=>(partC x8.FWraps (some (1:Int)) none).bind fun x10=>some ((TRef.mk x8.FName x10),true))
theorem Z112_walk {a0:TRef}{r:TRef×Bool}(hE:Z112 a0=some r) (H:Heap) :ACalls Tryz.prog 117 [.agg (TRef.c a0)] H fun v h'=>v=.tup [.agg (TRef.c r.1),.d (.bool r.2)]/\h'=H:=by
 unfold Z112 at hE;refine ACalls.oW 15 [.cell 2 41,.tmp 3] Tryz.call117 Tryz.func117 ?_;refine seqR ?_;refine sL (boxL rfl (by repeat (first|exact Snoc.nil|apply Snoc.cons))) rfl ?_;refine Sl ?_;refine S As ?_;refine nil ?_;refine seqK fun K2 hK2=>?_;refine seqR ?_;refine S LL ?_;obtain⟨x4,gx4,hE⟩:=bO hE;refine Sc rfl rfl (Z113_walk gx4) ?_;refine S NB ?_;refine nil ?_;refine cE hE (fun hc5 hE=>?_) (fun hc5 hE=>?_)
 ·refine seqR ?_;refine S BU ?_;refine Sf ?_;refine S As ?_;refine nil ?_;exact rt hE
 refine sk hK2 ?_;clear hK2 K2;refine seqR ?_;refine S LL ?_;obtain⟨x8,gx8,hE⟩:=bO hE;refine Sc rfl rfl (Z117_walk gx8) ?_;refine Sf ?_;refine nil ?_;refine seqR ?_;refine S FL (S LL ?_);obtain⟨x10,gx10,hE⟩:=bO hE;refine s0 (partM (f:=(intE .i64)) (l:=(some (1:Int))) (r:=none) (TK rfl) rfl (TK rfl) rfl rfl rfl trivial gx10) rfl ?_;refine S FL ?_;refine Sf ?_;refine nil ?_;refine seqR ?_;refine S LL ?_
 refine Sf ?_;refine S As ?_;refine nil ?_;exact rt hE
def Z93_j2  (y3_l0:TInput):Option (TInput×Bool):=some ((TInput.mk ([]:Bs) TRef.zero false TValue.zero (Sl.nil:Sl TDir)),false)
def Z93_l7 (a0:(Sl TInput)) (a1:Bs) :Nat->Nat->TInput->Option (TInput×Bool)
 | 0,_,_=>none
 | n7+1,s10_8,y9_l0=>bif (decide (((s10_8:Nat):Int)<((a0.l.length:Nat):Int))) then((a0.l[s10_8]?).bind fun x15=>bif ((x15.FName==a1)) then(some (x15,true)) else((Z93_l7 a0 a1 n7) (s10_8+1) y9_l0)) else(Z93_j2   y9_l0)
def Z93 (a0:(Sl TInput)) (a1:Bs):Option (TInput×Bool):=Z93_l7 a0 a1 (a0.l.length+1) 0 TInput.zero
theorem Z93_walk {a0:Sl TInput}{a1:Bs}{w0:Option Nat}{r:TInput×Bool}(hE:Z93 a0 a1=some r) (H:Heap) :ACalls Tryz.prog 96 [.d (Sl.d 10 TInput.c w0 a0),.d (.str a1)] H fun v h'=>v=.tup [.agg (TInput.c r.1),.d (.bool r.2)]/\h'=H:=by
 unfold Z93 at hE;refine ACalls.oW 21 [.cell 4 75,.tmp 5] Tryz.call96 Tryz.func96 ?_;refine seqR ?_;refine Sl ?_;refine S As ?_;refine nil ?_;refine seqJ (TA 4 KeepsT.nil) (fun(z:TInput)=>[]) (fun z=>[TInput.c z]) (fun z=>H) (fun z=>Z93_j2 z=some r) ?_ ?_
 ·intro K2 hK2;refine seqR ?_;refine S Mv ?_;refine sLen (f:=TInput.c) (s:=a0) (TK rfl) rfl rfl rfl rfl fun hL6=>?_;refine S Mv ?_;refine nil ?_;refine block ?_;refine loopO (TA 1 (TA 4 (TA 8 (TA 9 KeepsT.nil)))) (fun(z:Nat×Nat×TInput)=>[(10,.a (.d (.int .i64 ((z.2.1:Nat):Int))))]) (fun z=>[TInput.c z.2.2]) (fun z=>H) (fun z=>z.1) (fun z=>Z93_l7 a0 a1 z.1 z.2.1 z.2.2=some r) ((a0.l.length+1),0,TInput.zero) hE Weak.toA ?_
  rintro ⟨n7,s10_8,y9_l0⟩ hE K7 hK7;try dsimp only at hE
  cases n7 with
  | zero=>cases hE
  | succ n7 =>
    rw [Z93_l7] at hE;refine seqR ?_;refine S BI ?_;refine nil ?_;refine seqK fun K11 hK11=>?_;refine cE hE (fun hc12 hE=>?_) (fun hc12 hE=>?_)
    ·try dsimp only at hc12
     have hf12:=of_decide_eq_true hc12;refine sk hK11 ?_;clear hK11 K11;refine seqK fun K13 hK13=>?_;refine block ?_;refine seqR ?_;obtain⟨x15,gx15,hE⟩:=bO hE;refine s0 (idxMn (f:=TInput.c) (n:=s10_8) (TK rfl) rfl (TK rfl) rfl rfl rfl gx15) rfl ?_;refine S Ld ?_;refine Sl ?_;refine Sf ?_;refine nil ?_;refine freezeA 7 _ rfl (KA 1 (KA 4 (KA 8 (KA 9 (KA 10 Keeps.nil))))) ?_;refine seqR ?_;refine S Fv (S Ld (S Mv (S BS ?_)))
     refine nil ?_;refine cE hE (fun hc17 hE=>?_) (fun hc17 hE=>?_)
     ·refine seqR ?_;refine S Ld ?_;refine Sf ?_;refine S As ?_;refine nil ?_;exact rt hE
     refine sk hK13 ?_;clear hK13 K13;refine region ?_;refine SI ?_;refine S Mv ?_;refine nil ?_;exact hK7 _ (n7,(s10_8+1),y9_l0) Weak.toA hE (Nat.lt_succ_self _)
    refine AWp.exit ?_;exact hK2 _ y9_l0 Weak.toA hE
 rintro y3_l0 hE;try dsimp only at hE
 unfold Z93_j2 at hE;refine seqR ?_;refine S BU ?_;refine Sf ?_;refine S As ?_;refine nil ?_;exact rt hE
def Z6 (a0:TValue) (a1:Bool) (a2:Coerce_coercer):Option Coerce_coercer:=some (Coerce_coercer.mk a2.Fd a0 a1 a2.Fnodes)
theorem Z6_walk {a0:TValue}{a1:Bool}{a2:Coerce_coercer}{c2:Nat}{r:Coerce_coercer}(hE:Z6 a0 a1 a2=some r) (H:Heap) (hc2:H c2=some (.cells (Coerce_coercer.c a2))):ACallsD Tryz.prog 147 [.d (.view (TValue.c a0)),.d (.view (boolE a1)),.d (.view [.ptr c2 0])] H fun v h'=>v=.tup []/\h'=(H.set c2 (some (.cells (Coerce_coercer.c r)))):=by
 unfold Z6 at hE;refine ACallsD.of_wp (fn:=Tryz.f147) (c:=_) Tryz.tab_ok (fun _ _=>Tryz.call147 _ _) Tryz.func147 rfl (n:=11) rfl (rs:=[]) rfl rfl ?_;refine AWp.heqA (h':=(H.set c2 (some (.cells (Coerce_coercer.c a2))))) (by funext n_; simp only [Heap.set]; (repeat' split)<;>simp_all) ?_;refine region ?_;refine S Ld (S Ld (S Ld (S Ld (S NP ?_))));refine s0 (fieldP (TK rfl) rfl rfl (TK rfl) rfl rfl) rfl ?_
 refine sHn (storeP' (TK rfl) rfl rfl hpG rfl (Nat.le_of_ble_eq_true rfl) rfl rfl) rfl rfl ?_;refine hq (H.set c2 (some (.cells (Coerce_coercer.c (Coerce_coercer.mk a2.Fd a0 a2.Fliteral a2.Fnodes))))) ?_;refine S NP ?_;refine s0 (fieldP (TK rfl) rfl rfl (TK rfl) rfl rfl) rfl ?_;refine sHn (storeP1 (TK rfl) rfl rfl hpG rfl (by repeat (first|exact SetAt.zero|apply SetAt.succ))) rfl rfl ?_;refine hq (H.set c2 (some (.cells (Coerce_coercer.c (Coerce_coercer.mk a2.Fd a0 a1 a2.Fnodes))))) ?_
 refine nil ?_;repeat (first|refine xBlock_normal ?_|refine xThen_exit ?_|refine xBlock_exit ?_)
 obtain rfl:=Option.some.inj hE;refine retQ.normalF (H.set c2 (some (.cells (Coerce_coercer.c (Coerce_coercer.mk a2.Fd a0 a1 a2.Fnodes))))) (xs:=[]) rfl ⟨rfl,rfl⟩ ?_;exact(fun _ _ h=>h)
def Z124 (a0:Bs):Option TValue:=some (TValue.mk (3:Int) (0:Int) a0 true ([]) (Sl.nil:Sl Bs))
theorem Z124_walk {a0:Bs}{r:TValue}(hE:Z124 a0=some r) (H:Heap) :ACalls Tryz.prog 138 [.d (.str a0)] H fun v h'=>v=.a (.agg (TValue.c r))/\h'=H:=by
 unfold Z124 at hE;refine ACalls.oW 5 [.cell 2 44] Tryz.call138 Tryz.func138 ?_;refine seqR ?_;refine Sl ?_;refine nil ?_;refine seqR ?_;refine S Mv (S BU ?_);refine Sf ?_;refine nil ?_;exact rt hE
def Tryz.lay148_ren:Go.Shelf.Ren:=⟨fun|171=>148|243=>152|246=>154|283=>155|284=>156|285=>157|286=>158|129=>160|317=>159|318=>161|319=>162|320=>163|337=>164|338=>165|n=>n,fun|3=>3|9=>9|2=>2|4=>4|171=>179|0=>0|53=>180|37=>183|5=>5|173=>184|212=>188|51=>189|20=>20|213=>190|46=>191|232=>194|233=>195|n=>n,fun|17=>0|18=>1|19=>2|n=>n⟩
theorem Tryz.lay148:Go.Proofs.LaysM.n171 Tryz.prog Tryz.lay148_ren:={
 mixed:=by kernel_rfl
 f129:=Tryz.func160.trans (congrArg some (by kernel_rfl))
 f171:=Tryz.func148.trans (congrArg some (by kernel_rfl))
 f243:=Tryz.func152.trans (congrArg some (by kernel_rfl))
 f246:=Tryz.func154.trans (congrArg some (by kernel_rfl))
 f283:=Tryz.func155.trans (congrArg some (by kernel_rfl))
 f284:=Tryz.func156.trans (congrArg some (by kernel_rfl))
 f285:=Tryz.func157.trans (congrArg some (by kernel_rfl))
 f286:=Tryz.func158.trans (congrArg some (by kernel_rfl))
 f317:=Tryz.func159.trans (congrArg some (by kernel_rfl))
 f318:=Tryz.func161.trans (congrArg some (by kernel_rfl))
 f319:=Tryz.func162.trans (congrArg some (by kernel_rfl))
 f320:=Tryz.func163.trans (congrArg some (by kernel_rfl))
 f337:=Tryz.func164.trans (congrArg some (by kernel_rfl))
 f338:=Tryz.func165.trans (congrArg some (by kernel_rfl))
 t0:=Tryz.underlying0
 a0:=Tryz.isAgg0
 z0:=Tryz.sizeOf0
 v0:=Tryz.zeroValue0
 t2:=Tryz.underlying2
 a2:=Tryz.isAgg2
 z2:=Tryz.sizeOf2
 v2:=Tryz.zeroValue2
 t3:=Tryz.underlying3
 a3:=Tryz.isAgg3
 z3:=Tryz.sizeOf3
 v3:=Tryz.zeroValue3
 t4:=Tryz.underlying4
 a4:=Tryz.isAgg4
 z4:=Tryz.sizeOf4
 v4:=Tryz.zeroValue4
 t5:=Tryz.underlying5
 a5:=Tryz.isAgg5
 z5:=Tryz.sizeOf5
 v5:=Tryz.zeroValue5
 t9:=Tryz.underlying9
 a9:=Tryz.isAgg9
 z9:=Tryz.sizeOf9
 v9:=Tryz.zeroValue9
 t20:=Tryz.underlying20
 a20:=Tryz.isAgg20
 z20:=Tryz.sizeOf20
 v20:=Tryz.zeroValue20
 t37:=Tryz.underlying183
 a37:=Tryz.isAgg183
 z37:=Tryz.sizeOf183
 v37:=Tryz.zeroValue183
 t46:=Tryz.underlying191
 a46:=Tryz.isAgg191
 z46:=Tryz.sizeOf191
 v46:=Tryz.zeroValue191
 t51:=Tryz.underlying189
 a51:=Tryz.isAgg189
 z51:=Tryz.sizeOf189
 v51:=Tryz.zeroValue189
 t53:=Tryz.underlying180
 a53:=Tryz.isAgg180
 z53:=Tryz.sizeOf180
 v53:=Tryz.zeroValue180
 t171:=Tryz.underlying179
 a171:=Tryz.isAgg179
 z171:=Tryz.sizeOf179
 v171:=Tryz.zeroValue179
 t173:=Tryz.underlying184
 a173:=Tryz.isAgg184
 z173:=Tryz.sizeOf184
 v173:=Tryz.zeroValue184
 t212:=Tryz.underlying188
 a212:=Tryz.isAgg188
 z212:=Tryz.sizeOf188
 v212:=Tryz.zeroValue188
 t213:=Tryz.underlying190
 a213:=Tryz.isAgg190
 z213:=Tryz.sizeOf190
 t232:=Tryz.underlying194
 a232:=Tryz.isAgg194
 z232:=Tryz.sizeOf194
 v232:=Tryz.zeroValue194
 t233:=Tryz.underlying195
 a233:=Tryz.isAgg195
 z233:=Tryz.sizeOf195
 v233:=Tryz.zeroValue195
 g17:=by kernel_rfl
 g18:=by kernel_rfl
 g19:=by kernel_rfl
 i0:=by kernel_rfl
 i2:=by kernel_rfl
 i3:=by kernel_rfl
 i4:=by kernel_rfl
 i5:=by kernel_rfl
 i9:=by kernel_rfl
 i20:=by kernel_rfl
 i37:=by kernel_rfl
 i46:=by kernel_rfl
 i51:=by kernel_rfl
 i53:=by kernel_rfl
 i171:=by kernel_rfl
 i173:=by kernel_rfl
 i212:=by kernel_rfl
 i232:=by kernel_rfl
 i233:=by kernel_rfl
 m17:=by kernel_rfl
 m18:=by kernel_rfl
 m19:=by kernel_rfl }
def Z109 (n:Int):Option Bs:=if -9223372036854775808<=n/\n<=9223372036854775807/\(Lib.itoa n).length<=maxS then some (Lib.itoa n) else none
def Z109_q (n:Int):Option Bs:=Z109 n
theorem Z109_eq (n:Int):Z109 n=Z109_q n:=rfl
theorem Z109_walk {a0:Int}{oT:Ab.Obj}{gT:Nat}{r:Bs}(hE:Z109 a0=some r) (H:Heap) (hgT:H gT=some oT) (hoT:IsTab Tryz.prog oT):ACalls Tryz.prog 148 [.d (.int .i64 a0)] H fun v h'=>v=.a (.d (.str r))/\h'=H:=by
 unfold Z109 at hE
 split at hE
 ·rename_i h
  obtain rfl:=Option.some.inj hE;exact itoa_calls Tryz.lay148 h.1 h.2.1 rfl hgT hoT h.2.2
 cases hE
def Z110 (a0:Int):Option Bs:=(Z109 a0).bind fun x3=>some x3
theorem Z110_walk {a0:Int}{oT:Ab.Obj}{gT:Nat}{r:Bs}(hE:Z110 a0=some r) (H:Heap) (hgT:H gT=some oT) (hoT:IsTab Tryz.prog oT):ACalls Tryz.prog 139 [.d (.int .i64 a0)] H fun v h'=>v=.a (.d (.str r))/\h'=H:=by
 unfold Z110 at hE;refine ACalls.oW 5 [.tmp 2] Tryz.call139 Tryz.func139 ?_;refine seqR ?_;refine S As ?_;refine nil ?_;refine seqR ?_;refine S Mv ?_;obtain⟨x3,gx3,hE⟩:=bO hE;refine s0 (callR rfl rfl (Z109_walk (gT:=gT) (oT:=oT) gx3 _ hpG (by assumption))) rfl ?_;refine S As ?_;refine nil ?_;exact rt hE
end Go.Proofs

namespace Go.Proofs
open Go Go.Ab
open AOps Cert AWp Keeps KeepsT
variable {lou:Lou}
def Z107_j2  :Option Int:=some (-1:Int)
def Z107_l6 (a0:(Sl TMember)) (a1:(TMember->Option Bool)) :Nat->Nat->Option Int
 | 0,_=>none
 | n6+1,s8_7=>bif (decide (((s8_7:Nat):Int)<((a0.l.length:Nat):Int))) then((a0.l[s8_7]?).bind fun x14=>(a1 x14).bind fun x15=>bif x15 then(some ((s8_7:Nat):Int)) else((Z107_l6 a0 a1 n6) (s8_7+1))) else(Z107_j2   )
def Z107 (a0:(Sl TMember)) (a1:(TMember->Option Bool)):Option Int:=Z107_l6 a0 a1 (a0.l.length+1) 0
theorem Z107_walk {a0:Sl TMember}{a1:TMember->Option Bool}{w0:Option Nat}{cl1:List D}{k1:Nat}{r:Int}(hE:Z107 a0 a1=some r) (H:Heap) (hf1:∀x0 r,a1 x0=some r->∀H,ACalls Tryz.prog k1 ([.agg (TMember.c x0)]++cl1.map A.d) H fun v h'=>v=.a (.d (.bool r))/\h'=H):ACalls Tryz.prog 149 [.d (Sl.d 2 TMember.c w0 a0),.d (.func k1 cl1)] H fun v h'=>v=.a (.d (.int .i64 r))/\h'=H:=by
 unfold Z107 at hE;refine ACalls.oW 19 [.tmp 4] Tryz.call149 Tryz.func149 ?_;refine seqR ?_;refine S As ?_;refine nil ?_;refine seqJH KeepsT.nil (fun(z:Unit)=>[]) (fun z=>H) (fun z=>Z107_j2 =some r) ?_ ?_
 ·intro K2 hK2;refine seqR ?_;refine S Mv ?_;refine sLen (f:=TMember.c) (s:=a0) (TK rfl) rfl rfl rfl rfl fun hL5=>?_;refine S Mv ?_;refine nil ?_;refine block ?_;refine loopH (TA 0 (TA 1 (TA 7 KeepsT.nil))) (fun(z:Nat×Nat)=>[(8,.a (.d (.int .i64 ((z.2:Nat):Int))))]) (fun z=>H) (fun z=>z.1) (fun z=>Z107_l6 a0 a1 z.1 z.2=some r) ((a0.l.length+1),0) hE Weak.toA ?_;rintro ⟨n6,s8_7⟩ hE K6 hK6;try dsimp only at hE
  cases n6 with
  | zero=>cases hE
  | succ n6 =>
    rw [Z107_l6] at hE;refine seqR ?_;refine S BI ?_;refine nil ?_;refine seqK fun K9 hK9=>?_;refine cE hE (fun hc10 hE=>?_) (fun hc10 hE=>?_)
    ·try dsimp only at hc10
     have hf10:=of_decide_eq_true hc10;refine sk hK9 ?_;clear hK9 K9;refine seqK fun K11 hK11=>?_;refine block ?_;refine seqR ?_;refine S Mv (S As ?_);refine nil ?_;refine seqR ?_;refine S Mv (S Mv (S Mv ?_));obtain⟨x14,gx14,hE⟩:=bO hE;refine s0 (idxMn (f:=TMember.c) (n:=s8_7) (TK rfl) rfl (TK rfl) rfl rfl rfl gx14) rfl ?_;refine S Ld ?_;obtain⟨x15,gx15,hE⟩:=bO hE;refine s0 (callP rfl rfl (hf1 _ _ gx15)) rfl ?_
     refine nil ?_;refine cE hE (fun hc16 hE=>?_) (fun hc16 hE=>?_)
     ·refine seqR ?_;refine S Mv (S As ?_);refine nil ?_;exact rt hE
     refine sk hK11 ?_;clear hK11 K11;refine region ?_;refine SI ?_;refine S Mv ?_;refine nil ?_;exact hK6 _ (n6,(s8_7+1)) Weak.toA hE (Nat.lt_succ_self _)
    refine AWp.exit ?_;exact hK2 _ () Weak.toA hE
 rintro _ hE;try dsimp only at hE
 unfold Z107_j2 at hE;refine seqR ?_;refine S As ?_;refine nil ?_;exact rt hE
def Z102 (a0:(Sl TMember)) (a1:(TMember->Option Bool)):Option Bool:=(Z107 a0 a1).bind fun x3=>some (decide ((0:Int)<=x3))
theorem Z102_walk {a0:Sl TMember}{a1:TMember->Option Bool}{w0:Option Nat}{cl1:List D}{k1:Nat}{r:Bool}(hE:Z102 a0 a1=some r) (H:Heap) (hf1:∀x0 r,a1 x0=some r->∀H,ACalls Tryz.prog k1 ([.agg (TMember.c x0)]++cl1.map A.d) H fun v h'=>v=.a (.d (.bool r))/\h'=H):ACalls Tryz.prog 140 [.d (Sl.d 2 TMember.c w0 a0),.d (.func k1 cl1)] H fun v h'=>v=.a (.d (.bool r))/\h'=H:=by
 unfold Z102 at hE;refine ACalls.oW 9 [.tmp 4] Tryz.call140 Tryz.func140 ?_;refine seqR ?_;refine S As ?_;refine nil ?_;refine seqR ?_;refine S Mv (S Mv ?_);obtain⟨x3,gx3,hE⟩:=bO hE;refine s0 (callP rfl rfl (fun H=>Z107_walk gx3 H hf1)) rfl ?_;refine S BI (S As ?_);refine nil ?_;exact rt hE
def Z3 (a0:TMember) (a1:TValue):Option Bool:=some ((a0.FName==a1.FText))
theorem Z3_walk {a0:TMember}{a1:TValue}{r:Bool}(hE:Z3 a0 a1=some r) (H:Heap) :ACalls Tryz.prog 141 [.agg (TMember.c a0),.d (.view (TValue.c a1))] H fun v h'=>v=.a (.d (.bool r))/\h'=H:=by
 unfold Z3 at hE;refine ACalls.oW 9 [.tmp 3] Tryz.call141 Tryz.func141 ?_;refine seqR ?_;refine S BX (S As ?_);refine nil ?_;refine seqR ?_;refine S Fv (S Ld (S Fv (S Ld (S BS (S As ?_)))));refine nil ?_;exact rt hE
def Z2_j3  (s8_4:Bool) (y5_l0:TValue):Option (TValue×Int):=bif (!s8_4) then(some ((TValue.mk (0:Int) (0:Int) ([]:Bs) true ([]) (Sl.nil:Sl Bs)),(23:Int))) else(some (y5_l0,(0:Int)))
def Z2_j20  (y21_l0:TValue):Option (TValue×Int):=Z2_j3   (decide (y21_l0.FKind=(3:Int))) y21_l0
def Z2_j26 (a0:Coerce_coercer) (a1:Bs)  (y27_l0:TValue):Option (TValue×Int):=(Z92 a0.Fd a1).bind fun x29=>guardO ((decide (y27_l0.FKind=(4:Int)))) (Z102 x29.1.FMembers (fun y0=>Z3 y0 y27_l0)) false fun x30=>bif (!((decide (y27_l0.FKind=(4:Int)))&&x30)) then(some ((TValue.mk (0:Int) (0:Int) ([]:Bs) true ([]) (Sl.nil:Sl Bs)),(23:Int))) else(some (y27_l0,(0:Int)))
def Z2 (a0:Coerce_coercer) (a1:Bs) (a2:TValue):Option (TValue×Int):=bif ((a1==([73,110,116]:Bs))) then(Z2_j3   (((decide (a2.FKind=(2:Int)))&&(decide ((-2147483648:Int)<=a2.FInt)))&&(decide (a2.FInt<(2147483648:Int)))) a2) else(bif ((a1==([83,116,114,105,110,103]:Bs))) then(Z2_j3   (decide (a2.FKind=(3:Int))) a2) else(bif ((a1==([66,111,111,108,101,97,110]:Bs))) then(Z2_j3   (decide (a2.FKind=(1:Int))) a2) else(bif ((a1==([73,68]:Bs))) then(bif (decide (a2.FKind=(2:Int))) then((Z110 a2.FInt).bind fun x24=>(Z124 x24).bind fun x25=>Z2_j20   x25) else(Z2_j20   a2)) else(bif ((decide (a2.FKind=(3:Int)))&&(!a0.Fliteral)) then(Z2_j26 a0 a1  (TValue.mk (4:Int) a2.FInt a2.FText a2.FItems.nl a2.FItems.l a2.FKeys)) else(Z2_j26 a0 a1  a2)))))
theorem Z2_walk {a0:Coerce_coercer}{a1:Bs}{a2:TValue}{oT:Ab.Obj}{c0 gT:Nat}{r:TValue×Int}(hE:Z2 a0 a1 a2=some r) (H:Heap) (hc0:H c0=some (.cells (Coerce_coercer.c a0))) (hgT:H gT=some oT) (hoT:IsTab Tryz.prog oT):ACalls Tryz.prog 120 [.d (.ptr c0 0),.d (.str a1),.agg (TValue.c a2)] H fun v h'=>v=.tup [.agg (TValue.c r.1),.d (.int .i64 r.2)]/\h'=H:=by
 unfold Z2 at hE;refine ACalls.oW 82 [.cell 6 44,.tmp 7] Tryz.call120 Tryz.func120 ?_;refine seqR ?_;refine sL (boxL rfl (by repeat (first|exact Snoc.nil|apply Snoc.cons))) rfl ?_;refine Sl ?_;refine S As ?_;refine nil ?_;refine seqR ?_;refine S As ?_;refine nil ?_;refine AWp.seqJD (TA 5 (TA 6 KeepsT.nil)) (fun(z:Bool×TValue)=>[(8,.a (.d (.bool z.1)))]) (fun z=>[TValue.c z.2,TValue.c TValue.zero]) (fun z=>H) (fun z=>Z2_j3 z.1 z.2=some r) ?_ ?_
 ·intro K3 hK3 hD3;refine seqR ?_;refine S Mv ?_;refine nil ?_;refine block ?_;refine seqR ?_;refine S BS (S As ?_);refine nil ?_;refine cE hE (fun hc13 hE=>?_) (fun hc13 hE=>?_)
  ·refine region ?_;refine S FL (S LL (S BI (S Mv (g0 FL ?_))));refine gC rfl rfl (fun hC=>ungdLA (k:=47) rfl (loadL (TK rfl) rfl rfl rfl rfl)) rfl ?_;refine g1 48 rfl BI ?_;refine S PA (S Mv (g0 FL ?_));refine gC rfl rfl (fun hC=>ungdLA (k:=52) rfl (loadL (TK rfl) rfl rfl rfl rfl)) rfl ?_;refine g1 53 rfl BI ?_;refine S PA (S As ?_);refine nil ?_;exact hK3 _ ((((decide (a2.FKind=(2:Int)))&&(decide ((-2147483648:Int)<=a2.FInt)))&&(decide (a2.FInt<(2147483648:Int)))),a2) Weak.toA hE
  refine seqR ?_;refine S BS (S As ?_);refine nil ?_;refine cE hE (fun hc15 hE=>?_) (fun hc15 hE=>?_)
  ·refine region ?_;refine S FL (S LL (S BI (S As ?_)));refine nil ?_;exact hK3 _ ((decide (a2.FKind=(3:Int))),a2) Weak.toA hE
  refine seqR ?_;refine S BS (S As ?_);refine nil ?_;refine cE hE (fun hc17 hE=>?_) (fun hc17 hE=>?_)
  ·refine region ?_;refine S FL (S LL (S BI (S As ?_)));refine nil ?_;exact hK3 _ ((decide (a2.FKind=(1:Int))),a2) Weak.toA hE
  refine seqR ?_;refine S BS (S As ?_);refine nil ?_;refine cE hE (fun hc19 hE=>?_) (fun hc19 hE=>?_)
  ·refine seqJ (TA 5 (TA 6 KeepsT.nil)) (fun(z:TValue)=>[]) (fun z=>[TValue.c z,TValue.c TValue.zero]) (fun z=>H) (fun z=>Z2_j20 z=some r) ?_ ?_
   ·intro K20 hK20;refine seqR ?_;refine S FL (S LL (S BI ?_));refine nil ?_;refine cE hE (fun hc23 hE=>?_) (fun hc23 hE=>?_)
    ·refine region ?_;refine S FL (S LL ?_);obtain⟨x24,gx24,hE⟩:=bO hE;refine s0 (callR rfl rfl (Z110_walk (gT:=gT) (oT:=oT) gx24 _ hpG (by assumption))) rfl ?_;obtain⟨x25,gx25,hE⟩:=bO hE;refine Sc rfl rfl (Z124_walk gx25) ?_;refine Sf ?_;refine nil ?_;exact hK20 _ x25 Weak.toA hE
    refine AWp.skip ?_;exact hK20 _ a2 Weak.toA hE
   rintro y21_l0 hE;try dsimp only at hE
   unfold Z2_j20 at hE;refine region ?_;refine S FL (S LL (S BI (S As ?_)));refine nil ?_;exact hK3 _ ((decide (y21_l0.FKind=(3:Int))),y21_l0) Weak.toA hE
  refine seqJ (TA 0 (TA 1 (TA 5 (TA 6 KeepsT.nil)))) (fun(z:TValue)=>[]) (fun z=>[TValue.c z,TValue.c TValue.zero]) (fun z=>H) (fun z=>Z2_j26 a0 a1 z=some r) ?_ ?_
  ·intro K26 hK26;refine seqR ?_;refine S FL (S LL (S BI (S Mv (g0 Mv ?_))));refine g1 16 rfl NP ?_;refine gC rfl rfl (fun hC=>ungdA (k:=17) rfl (fieldP (TK rfl) rfl rfl (TK rfl) rfl rfl)) rfl ?_;refine gC rfl rfl (fun hC=>ungdA (k:=18) rfl (loadP (TK rfl) rfl rfl hpG rfl)) rfl ?_;refine g1 19 rfl NB ?_;refine S PA ?_;refine nil ?_;refine cE hE (fun hc37 hE=>?_) (fun hc37 hE=>?_)
   ·refine region ?_;refine S FL ?_;refine AOps.relocal 0 (TValue.cu a2) rfl (fun j w cs hh hx=>by rw [<- TValue.cu_eq]; exact hx) ?_;refine Sf ?_;refine AOps.relocal 0 (TValue.c (TValue.mk (4:Int) a2.FInt a2.FText a2.FItems.nl a2.FItems.l a2.FKeys)) rfl (fun j w cs hh hx=>by rw [TValue.cu_eq]; exact hx) ?_;refine nil ?_;exact hK26 _ (TValue.mk (4:Int) a2.FInt a2.FText a2.FItems.nl a2.FItems.l a2.FKeys) Weak.toA hE
   refine AWp.skip ?_;exact hK26 _ a2 Weak.toA hE
  rintro y27_l0 hE;try dsimp only at hE
  unfold Z2_j26 at hE;refine seqR ?_;refine S Mv (S NP ?_);refine s0 (fieldP (TK rfl) rfl rfl (TK rfl) rfl rfl) rfl ?_;refine s0 (loadP (TK rfl) rfl rfl hpG rfl) rfl ?_;refine S Mv ?_;obtain⟨x29,gx29,hE⟩:=bO hE;refine Sc rfl rfl (Z92_walk gx29) ?_;refine S Mv (S EX (S EX ?_));refine Sl ?_;refine Sf ?_;refine S As ?_;refine nil ?_;refine freezeA 9 _ rfl (KA 5 (KA 6 Keeps.nil)) ?_;refine AWp.freezeAt 5 _ rfl rfl ?_
  refine region ?_;refine S Fv (S Ld (S BI (S Mv (g0 Fv ?_))));refine g1 36 rfl Ld ?_;refine gC rfl rfl (fun hC=>makeFunc rfl) rfl ?_;obtain⟨x30,gx30,hE⟩:=gO hE;refine gC rfl rfl (fun hC=>ungdA (k:=37) rfl (ungdA (k:=38) rfl (callP rfl rfl (fun H=>Z102_walk (gx30 hC) H (fun _ _ hx=>Z3_walk hx))))) rfl ?_;refine S PA (S As ?_);refine nil ?_;refine hD3 _ ?_;refine seqK fun K31 hK31=>?_;refine seqR ?_
  refine S Mv (S NB ?_);refine nil ?_;refine cE hE (fun hc33 hE=>?_) (fun hc33 hE=>?_)
  ·refine seqR ?_;refine S BU ?_;refine Sf ?_;refine S As ?_;refine nil ?_;exact rt hE
  refine sk hK31 ?_;clear hK31 K31;refine seqR ?_;refine S Ld ?_;refine Sf ?_;refine S As ?_;refine nil ?_;exact rt hE
 rintro ⟨s8_4,y5_l0⟩ hE;try dsimp only at hE
 unfold Z2_j3 at hE;refine seqK fun K6 hK6=>?_;refine seqR ?_;refine S Mv (S NB ?_);refine nil ?_;refine cE hE (fun hc8 hE=>?_) (fun hc8 hE=>?_)
 ·refine seqR ?_;refine S BU ?_;refine Sf ?_;refine S As ?_;refine nil ?_;exact rt hE
 refine sk hK6 ?_;clear hK6 K6;refine seqR ?_;refine S LL ?_;refine Sf ?_;refine S As ?_;refine nil ?_;exact rt hE
end Go.Proofs
