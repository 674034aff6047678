import Derived.Test.YtbcphmbgonamlaaGreatDoorV4
set_option maxRecDepth 100000
set_option maxHeartbeats 2000000
set_option linter.unusedVariables false
set_option linter.unusedSimpArgs false
namespace Go.Proofs
open Go Go.Ab
open AOps Cert AWp Keeps KeepsT
variable {lou:Lou}
def Z127 (a0:Bs) (a1:Int):Option (Z8×Int×Int):=(idxC a0 a1).bind fun x3=>(Z114 ([33,36,38,40,41,58,61,64,91,93,123,124,125]:Bs) (IntKind.wrap .i32 ((x3.toNat:Nat):Int))).bind fun x6=>bif x6 then((addC a1 (1:Int)).bind fun x9=>(cutC a0 (some a1) (some x9)).bind fun x10=>(addC a1 (1:Int)).bind fun x11=>some ((Z8.mk (1:Int) x10 a1),x11,(0:Int))) else(bif (decide ((IntKind.wrap .i32 ((x3.toNat:Nat):Int))=(46:Int))) then((cutC a0 (some a1) none).bind fun x16=>(Z115 x16 ([46,46,46]:Bs)).bind fun x17=>bif (!x17) then(some ((Z8.mk (0:Int) ([]:Bs) (0:Int)),(0:Int),(3:Int))) else((addC a1 (3:Int)).bind fun x21=>some ((Z8.mk (1:Int) ([46,46,46]:Bs) a1),x21,(0:Int)))) else(bif ((decide ((IntKind.wrap .i32 ((x3.toNat:Nat):Int))=(45:Int)))||((decide ((48:Int)<=(IntKind.wrap .i32 ((x3.toNat:Nat):Int))))&&(decide ((IntKind.wrap .i32 ((x3.toNat:Nat):Int))<=(57:Int))))) then((addC a1 (1:Int)).bind fun x25=>(Z129 a0 x25 Z125).bind fun x26=>(cutC a0 (some a1) (some x26)).bind fun x28=>(Z121 x28).bind fun x29=>(cutC a0 (some a1) (some x26)).bind fun x31=>some ((Z8.mk (3:Int) x31 a1),x26,x29.2)) else((Z125 (IntKind.wrap .i32 ((x3.toNat:Nat):Int))).bind fun x33=>bif x33 then((Z129 a0 a1 Z125).bind fun x36=>(subC x36 a1).bind fun x39=>bif (decide ((64:Int)<x39)) then(some ((Z8.mk (0:Int) ([]:Bs) (0:Int)),(0:Int),(3:Int))) else((cutC a0 (some a1) (some x36)).bind fun x43=>some ((Z8.mk (2:Int) x43 a1),x36,(0:Int)))) else(bif (decide ((IntKind.wrap .i32 ((x3.toNat:Nat):Int))=(34:Int))) then((Z126 a0 a1).bind fun x47=>bif (decide (x47<(0:Int))) then(some ((Z8.mk (0:Int) ([]:Bs) (0:Int)),(0:Int),(3:Int))) else((cutC a0 (some a1) (some x47)).bind fun x53=>(Z123 x53).bind fun x54=>some ((Z8.mk (4:Int) x54.1 a1),x47,x54.2))) else(some ((Z8.mk (0:Int) ([]:Bs) (0:Int)),(0:Int),(3:Int)))))))
theorem Z127_walk {a0:Bs}{a1:Int}{r:Z8×Int×Int}(hE:Z127 a0 a1=some r) (H:Heap) :ACalls Tryz.prog 203 [.d (.str a0),.d (.int .i64 a1)] H fun v h'=>v=.tup [.agg (Z8.c r.1),.d (.int .i64 r.2.1),.d (.int .i64 r.2.2)]/\h'=H:=by
 unfold Z127 at hE;refine ACalls.oW 116 [.cell 4 205,.tmp 5,.tmp 6] Tryz.call203 Tryz.func203 ?_;refine seqR ?_;refine Sl ?_;refine S As (S As (nil ?_));refine seqR (S Mv (S Mv ?_));obtain⟨x3,gx3,hE⟩:=bO hE;refine s0 (idxS (TK rfl) rfl rfl rfl gx3) rfl ?_;refine s0 (convI (TK rfl) (TK rfl) rfl rfl) rfl ?_;refine S As (nil ?_);refine seqK fun K4 hK4=>?_;refine block ?_;refine seqR (S Mv ?_);obtain⟨x6,gx6,hE⟩:=bO hE
 refine Sc rfl rfl (Z114_walk gx6) ?_;refine S As (nil ?_);refine cE hE (fun hc7 hE=>?_) (fun hc7 hE=>?_)
 ·refine seqR (S Mv (S Mv (S Mv ?_)));obtain⟨x9,gx9,hE⟩:=bO hE;refine s0 (addM rfl rfl gx9) rfl ?_;obtain⟨x10,gx10,hE⟩:=bO hE;refine s0 (cutM (l:=(some a1)) (r:=(some x9)) (TK rfl) rfl rfl rfl rfl (by simp) gx10) rfl ?_;refine S Mv (S BU (S Mv ?_));obtain⟨x11,gx11,hE⟩:=bO hE;refine s0 (addM rfl rfl gx11) rfl ?_;refine Sf ?_;refine S As (S As (nil ?_));exact rt hE
 refine seqR (S Mv (S BI (S As (nil ?_))));refine cE hE (fun hc13 hE=>?_) (fun hc13 hE=>?_)
 ·refine seqK fun K14 hK14=>?_;refine seqR (S Mv (S Mv ?_));obtain⟨x16,gx16,hE⟩:=bO hE;refine s0 (cutM (l:=(some a1)) (r:=none) (TK rfl) rfl rfl rfl trivial (by simp) gx16) rfl ?_;obtain⟨x17,gx17,hE⟩:=bO hE;refine Sc rfl rfl (Z115_walk gx17) ?_;refine S NB (nil ?_);refine cE hE (fun hc18 hE=>?_) (fun hc18 hE=>?_)
  ·refine seqR (S BU ?_);refine Sf ?_;refine S As (S As (nil ?_));exact rt hE
  refine sk hK14 ?_;clear hK14 K14;refine seqR (S Mv (S BU (S Mv ?_)));obtain⟨x21,gx21,hE⟩:=bO hE;refine s0 (addM rfl rfl gx21) rfl ?_;refine Sf ?_;refine S As (S As (nil ?_));exact rt hE
 refine seqR (S Mv (S BI (S Mv (G0 Mv ?_))));refine G1 48 rfl BI ?_;refine G1 49 rfl Mv ?_;refine G0 Mv ?_;refine G1 51 rfl BI ?_;refine gC rfl rfl (fun hC=>ungdA (k:=50) rfl (pickAndA rfl rfl rfl)) rfl ?_;refine S PO (S As (nil ?_));refine cE hE (fun hc23 hE=>?_) (fun hc23 hE=>?_)
 ·refine seqR (S Mv (S Mv ?_));obtain⟨x25,gx25,hE⟩:=bO hE;refine s0 (addM rfl rfl gx25) rfl ?_;obtain⟨x26,gx26,hE⟩:=bO hE;refine s0 (callP rfl rfl (fun H=>Z129_walk gx26 H (fun _ _ hx=>Z125_walk hx))) rfl ?_;refine S As (nil ?_);refine seqR (S Mv (S Mv (S Mv ?_)));obtain⟨x28,gx28,hE⟩:=bO hE;refine s0 (cutM (l:=(some a1)) (r:=(some x26)) (TK rfl) rfl rfl rfl rfl (by simp) gx28) rfl ?_;obtain⟨x29,gx29,hE⟩:=bO hE
  refine Sc rfl rfl (Z121_walk gx29) ?_;refine S Mv (S EX (S EX (S As (S As (nil ?_)))));refine seqR (S Mv (S Mv (S Mv ?_)));obtain⟨x31,gx31,hE⟩:=bO hE;refine s0 (cutM (l:=(some a1)) (r:=(some x26)) (TK rfl) rfl rfl rfl rfl (by simp) gx31) rfl ?_;refine S Mv (S BU (S Mv (S Mv ?_)));refine Sf ?_;refine S As (S As (nil ?_));exact rt hE
 refine seqR (S Mv ?_);obtain⟨x33,gx33,hE⟩:=bO hE;refine Sc rfl rfl (Z125_walk gx33) ?_;refine S As (nil ?_);refine cE hE (fun hc34 hE=>?_) (fun hc34 hE=>?_)
 ·refine seqR (S Mv (S Mv ?_));obtain⟨x36,gx36,hE⟩:=bO hE;refine s0 (callP rfl rfl (fun H=>Z129_walk gx36 H (fun _ _ hx=>Z125_walk hx))) rfl ?_;refine S As (nil ?_);refine seqK fun K37 hK37=>?_;refine seqR (S Mv (S Mv ?_));obtain⟨x39,gx39,hE⟩:=bO hE;refine s0 (subM rfl rfl gx39) rfl ?_;refine S BI (nil ?_);refine cE hE (fun hc40 hE=>?_) (fun hc40 hE=>?_)
  ·refine seqR (S BU ?_);refine Sf ?_;refine S As (S As (nil ?_));exact rt hE
  refine sk hK37 ?_;clear hK37 K37;refine seqR (S Mv (S Mv (S Mv ?_)));obtain⟨x43,gx43,hE⟩:=bO hE;refine s0 (cutM (l:=(some a1)) (r:=(some x36)) (TK rfl) rfl rfl rfl rfl (by simp) gx43) rfl ?_;refine S Mv (S BU (S Mv ?_));refine Sf ?_;refine S As (S As (nil ?_));exact rt hE
 refine seqR (S Mv (S BI (S As (nil ?_))));refine cE hE (fun hc45 hE=>?_) (fun hc45 hE=>?_)
 ·refine seqR (S Mv (S Mv ?_));obtain⟨x47,gx47,hE⟩:=bO hE;refine Sc rfl rfl (Z126_walk gx47) ?_;refine S As (nil ?_);refine seqK fun K48 hK48=>?_;refine seqR (S Mv (S BI (nil ?_)));refine cE hE (fun hc50 hE=>?_) (fun hc50 hE=>?_)
  ·refine seqR (S BU ?_);refine Sf ?_;refine S As (S As (nil ?_));exact rt hE
  refine sk hK48 ?_;clear hK48 K48;refine seqR (S Mv (S Mv (S Mv ?_)));obtain⟨x53,gx53,hE⟩:=bO hE;refine s0 (cutM (l:=(some a1)) (r:=(some x47)) (TK rfl) rfl rfl rfl rfl (by simp) gx53) rfl ?_;obtain⟨x54,gx54,hE⟩:=bO hE;refine Sc rfl rfl (Z123_walk gx54) ?_;refine S Mv (S EX (S EX (S As (S As (nil ?_)))));refine seqR (S Mv (S Mv (S BU (S Mv (S Mv ?_)))));refine Sf ?_;refine S As (S As (nil ?_));exact rt hE
 refine sk hK4 ?_;clear hK4 K4;refine seqR (S BU ?_);refine Sf ?_;refine S As (S As (nil ?_));exact rt hE
def Z124_j8 (a0:Bs)  (s5_9:(Sl Z8)):Option ((Sl Z8)×Int×Int):=(appC 32 s5_9 (⟨false,[(Z8.mk (5:Int) ([]:Bs) ((a0.length:Nat):Int))]⟩:Sl Z8)).bind fun x12=>some (x12,(0:Int),(0:Int))
def Z124_l15 (a0:Bs) :Nat->(Sl Z8)->Int->Option ((Sl Z8)×Int×Int)
 | 0,_,_=>none
 | n15+1,s5_16,s6_17=>bif (decide (s6_17<((a0.length:Nat):Int))) then((Z127 a0 s6_17).bind fun x24=>bif (!decide (x24.2.2=(0:Int))) then(some ((Sl.nil:Sl Z8),s6_17,x24.2.2)) else((appC 32 s5_16 (⟨false,[x24.1]⟩:Sl Z8)).bind fun x30=>(Z128 a0 x24.2.1).bind fun x31=>(Z124_l15 a0 n15) x30 x31)) else(Z124_j8 a0  s5_16)
def Z124 (a0:Bs):Option ((Sl Z8)×Int×Int):=bif (decide ((65536:Int)<((a0.length:Nat):Int))) then(some ((Sl.nil:Sl Z8),(65536:Int),(4:Int))) else((Z128 a0 (0:Int)).bind fun x14=>Z124_l15 a0 F0 (Sl.nil:Sl Z8) x14)
theorem Z124_walk {a0:Bs}{r:((Sl Z8)×Int×Int)}(hE:Z124 a0=some r) (H:Heap) :ACalls Tryz.prog 137 [.d (.str a0)] H fun v h'=>v=.tup [.d (Sl.d 3 Z8.c none r.1),.d (.int .i64 r.2.1),.d (.int .i64 r.2.2)]/\h'=H:=by
 unfold Z124 at hE;refine ACalls.oW 44 [.tmp 2,.tmp 3,.tmp 4] Tryz.call137 Tryz.func137 ?_;refine AWp.tok 3 fun tk1 htk1=>?_;refine seqR ?_;refine s0 (assignNil (k':=3) rfl) rfl ?_;refine S As (S As (nil ?_));refine seqK fun K2 hK2=>?_;refine seqR (S Mv ?_);refine sLenS (TK rfl) rfl rfl rfl rfl fun hL4=>?_;refine S BI (nil ?_);refine cE hE (fun hc5 hE=>?_) (fun hc5 hE=>?_)
 ·refine seqR ?_;refine s0 (assignNil (k':=3) rfl) rfl ?_;refine S As (S As (nil ?_));refine AWp.ret ?_;repeat (first|refine xBlock_ret ?_|refine xThen_ret ?_)
  obtain rfl:=Option.some.inj hE;refine retQ.retF H rfl ⟨rfl,rfl⟩ ?_
  first|exact Heap.sub_set htk1|(simp only [Heap.set_set]; exact Heap.sub_set htk1)
 refine sk hK2 ?_;clear hK2 K2;refine seqR (S As (nil ?_));refine AWp.nilTok 5 3 tk1 rfl hpG ?_;refine seqJH (TA 0 KeepsT.nil) (fun(z:(Sl Z8))=>[(5,.a (.d (Sl.d 3 Z8.c (some tk1) z)))]) (fun z=>(H.set tk1 (some (.tok 3 z.l.length)))) (fun z=>Z124_j8 a0 z=some r) ?_ ?_
 ·intro K8 hK8;refine seqR (S Mv ?_);obtain⟨x14,gx14,hE⟩:=bO hE;refine Sc rfl rfl (Z128_walk gx14) ?_;refine S As (nil ?_);refine block ?_;refine loopH (TA 0 KeepsT.nil) (fun(z:Nat×(Sl Z8)×Int)=>[(5,.a (.d (Sl.d 3 Z8.c (some tk1) z.2.1))),(6,.a (.d (.int .i64 z.2.2)))]) (fun z=>(H.set tk1 (some (.tok 3 z.2.1.l.length)))) (fun z=>z.1) (fun z=>Z124_l15 a0 z.1 z.2.1 z.2.2=some r) (F0,(Sl.nil:Sl Z8),x14) hE Weak.toA ?_
  rintro ⟨n15,s5_16,s6_17⟩ hE K15 hK15;try dsimp only at hE
  cases n15 with
  | zero=>cases hE
  | succ n15 =>
    rw [Z124_l15] at hE;refine seqK fun K18 hK18=>?_;refine seqR (S Mv (S Mv ?_));refine sLenS (TK rfl) rfl rfl rfl rfl fun hL20=>?_;refine S BI (nil ?_);refine cE hE (fun hc21 hE=>?_) (fun hc21 hE=>?_)
    ·refine sk hK18 ?_;clear hK18 K18;refine seqK fun K22 hK22=>?_;refine block ?_;refine seqR (S Mv (S Mv ?_));obtain⟨x24,gx24,hE⟩:=bO hE;refine Sc rfl rfl (Z127_walk gx24) ?_;refine S Mv (S EX (S EX (S EX ?_)));refine Sl ?_;refine Sf ?_;refine S As (S As (nil ?_));refine freezeA 7 _ rfl (KA 0 (KA 5 (KA 6 (KA 8 (KA 9 Keeps.nil))))) ?_;refine seqK fun K25 hK25=>?_;refine seqR (S Mv (S BI (nil ?_)))
     refine cE hE (fun hc27 hE=>?_) (fun hc27 hE=>?_)
     ·refine seqR (S Mv (S Mv ?_));refine s0 (assignNil (k':=3) rfl) rfl ?_;refine S As (S As (nil ?_));refine AWp.ret ?_;repeat (first|refine xBlock_ret ?_|refine xThen_ret ?_)
      obtain rfl:=Option.some.inj hE;refine retQ.retF H rfl ⟨rfl,rfl⟩ ?_
      first|exact Heap.sub_set htk1|(simp only [Heap.set_set]; exact Heap.sub_set htk1)
     refine sk hK25 ?_;clear hK25 K25;refine seqR (S Mv (S Ld (S BV ?_)));obtain⟨x30,gx30,hE⟩:=bO hE;refine SH (am Z8.c (TK rfl) rfl (TK rfl) (TK rfl) gx30) ?_;refine hq (H.set tk1 (some (.tok 3 x30.l.length))) ?_;refine S As (nil ?_);refine region ?_;refine S Mv (S As (nil ?_));refine hK22 _ ?_;clear hK22 K22;refine region ?_;refine S Mv (S Mv ?_);obtain⟨x31,gx31,hE⟩:=bO hE;refine Sc rfl rfl (Z128_walk gx31) ?_
     refine S As (nil ?_);exact hK15 _ (n15,x30,x31) Weak.toA hE (Nat.lt_succ_self _)
    refine AWp.exit ?_;exact hK8 _ s5_16 Weak.toA hE
 rintro s5_9 hE;try dsimp only at hE
 unfold Z124_j8 at hE;refine seqR (S Mv (S Mv ?_));refine sLenS (TK rfl) rfl rfl rfl rfl fun hL11=>?_;refine S BU (S BV ?_);obtain⟨x12,gx12,hE⟩:=bO hE;refine SH (am Z8.c (TK rfl) rfl (TK rfl) (TK rfl) gx12) ?_;refine hq (H.set tk1 (some (.tok 3 x12.l.length))) ?_;refine S As (S As (S As (nil ?_)));refine AWp.dropTok 2 rfl ?_;refine AWp.ret ?_;repeat (first|refine xBlock_ret ?_|refine xThen_ret ?_)
 obtain rfl:=Option.some.inj hE;refine retQ.retF H rfl ⟨rfl,rfl⟩ ?_
 first|exact Heap.sub_set htk1|(simp only [Heap.set_set]; exact Heap.sub_set htk1)
def Tryz.lay138_ren:Go.Shelf.Ren:=⟨fun|35=>138|n=>n,fun|22=>47|23=>3|3=>3|4=>4|0=>0|n=>n,fun|n=>n⟩
theorem Tryz.lay138:Go.Proofs.SlLaysE.n35 Tryz.prog Tryz.lay138_ren:={
 mixed:=by kernel_rfl
 f35:=⟨Tryz.f138.name,by decide,Tryz.func138.trans (congrArg some (by kernel_rfl))⟩
 t0:=Tryz.underlying0
 a0:=Tryz.isAgg0
 z0:=Tryz.sizeOf0
 v0:=Tryz.zeroValue0
 t3:=Tryz.underlying3
 a3:=Tryz.isAgg3
 z3:=Tryz.sizeOf3
 v3:=Tryz.zeroValue3
 t4:=Tryz.underlying4
 a4:=Tryz.isAgg4
 z4:=Tryz.sizeOf4
 v4:=Tryz.zeroValue4
 t22:=Tryz.underlying47
 a22:=Tryz.isAgg47
 z22:=Tryz.sizeOf47
 v22:=Tryz.zeroValue47
 a23:=Tryz.isAgg3
 z23:=Tryz.sizeOf3 }
theorem Z106_walk {s:Sl Int}{H:Heap}{id m:Nat}{nl:Bool}(hH:H id=some (.arr 1 (s.l.map (intE .i64)))) (hm:m=s.l.length):ACalls Tryz.prog 138 [.d (.arr 1 id nl m)] H fun r h'=>r=.tup []/\h'=H.set id (some (.arr 1 ((Sl.rev s).l.map (intE .i64)))) :=
 revI_calls Tryz.lay138 hH hm rfl
end Go.Proofs

namespace Go.Proofs
open Go Go.Ab
open AOps Cert AWp Keeps KeepsT
variable {lou:Lou}
def Z135_j22  (s4_23:(Sl Z8)) (y24_l0:TRef) (y25_l1:TRef):Option (TRef×Int):=(s4_23.l[0]?).bind fun x28=>bif (!decide (x28.FKind=(5:Int))) then(some ((TRef.mk ([]:Bs) (Sl.nil:Sl Int)),(3:Int))) else(bif (decide ((24:Int)<((y25_l1.FWraps.l.length:Nat):Int))) then(some ((TRef.mk ([]:Bs) (Sl.nil:Sl Int)),(5:Int))) else((some (Sl.rev y25_l1.FWraps)).bind fun x37=>some ((TRef.mk y25_l1.FName x37),(0:Int))))
def Z135_j44 (s8_41:Int) (y42_l0:TRef) (k_next_39:(Sl Z8)->Int->TRef->TRef->Option (TRef×Int)) (s4_45:(Sl Z8)) (y46_l1:TRef):Option (TRef×Int):=bif (decide (s8_41=(0:Int))) then(Z135_j22   s4_45 y42_l0 y46_l1) else((s4_45.l[0]?).bind fun x52=>guardO (!(!decide (x52.FKind=(1:Int)))) (s4_45.l[0]?) Z8.zero fun x53=>bif ((!decide (x52.FKind=(1:Int)))||(!(x53.FText==([93]:Bs)))) then(some ((TRef.mk ([]:Bs) (Sl.nil:Sl Int)),(3:Int))) else((appC 8 y46_l1.FWraps (⟨false,[(2:Int)]⟩:Sl Int)).bind fun x56=>(partC s4_45 (some (1:Int)) none).bind fun x57=>(subC s8_41 (1:Int)).bind fun x58=>k_next_39 x57 x58 y42_l0 (TRef.mk y46_l1.FName x56)))
def Z135_l39 :Nat->(Sl Z8)->Int->TRef->TRef->Option (TRef×Int)
 | 0,_,_,_,_=>none
 | n39+1,s4_40,s8_41,y42_l0,y43_l1=>(s4_40.l[0]?).bind fun x60=>guardO ((decide (x60.FKind=(1:Int)))) (s4_40.l[0]?) Z8.zero fun x61=>bif ((decide (x60.FKind=(1:Int)))&&((x61.FText==([33]:Bs)))) then((appC 8 y43_l1.FWraps (⟨false,[(1:Int)]⟩:Sl Int)).bind fun x63=>(partC s4_40 (some (1:Int)) none).bind fun x64=>Z135_j44 s8_41 y42_l0 ((Z135_l39  n39)) x64 (TRef.mk y43_l1.FName x63)) else(Z135_j44 s8_41 y42_l0 ((Z135_l39  n39)) s4_40 y43_l1)
def Z135_j11  (s4_12:(Sl Z8)) (s8_13:Int):Option (TRef×Int):=(s4_12.l[0]?).bind fun x16=>bif (!decide (x16.FKind=(2:Int))) then(some ((TRef.mk ([]:Bs) (Sl.nil:Sl Int)),(3:Int))) else((s4_12.l[0]?).bind fun x20=>(partC s4_12 (some (1:Int)) none).bind fun x21=>Z135_l39 F0 x21 s8_13 TRef.zero (TRef.mk x20.FText TRef.zero.FWraps))
def Z135_l65 :Nat->(Sl Z8)->Int->Option (TRef×Int)
 | 0,_,_=>none
 | n65+1,s4_66,s8_67=>(s4_66.l[0]?).bind fun x70=>guardO ((decide (x70.FKind=(1:Int)))) (s4_66.l[0]?) Z8.zero fun x71=>bif ((decide (x70.FKind=(1:Int)))&&((x71.FText==([91]:Bs)))) then((addC s8_67 (1:Int)).bind fun x73=>(partC s4_66 (some (1:Int)) none).bind fun x74=>(Z135_l65  n65) x74 x73) else(Z135_j11   s4_66 s8_67)
def Z135 (a0:Bs):Option (TRef×Int):=(Z124 a0).bind fun x3=>bif (!decide (x3.2.2=(0:Int))) then(some ((TRef.mk ([]:Bs) (Sl.nil:Sl Int)),x3.2.2)) else(Z135_l65 F0 x3.1 (0:Int))
theorem Z135_walk {a0:Bs}{r:TRef×Int}(hE:Z135 a0=some r) (H:Heap) :ACalls Tryz.prog 69 [.d (.str a0)] H fun v h'=>v=.tup [.agg (TRef.c r.1),.d (.int .i64 r.2)]/\h'=H:=by
 unfold Z135 at hE;refine ACalls.oW 106 [.cell 2 49,.tmp 3] Tryz.call69 Tryz.func69 ?_;refine seqR ?_;refine Sl ?_;refine S As (nil ?_);refine seqR (S Mv ?_);obtain⟨x3,gx3,hE⟩:=bO hE;refine Sc rfl rfl (Z124_walk gx3) ?_;refine S Mv (S EX (S EX (S EX (S As (S As (S As (nil ?_)))))));refine seqK fun K4 hK4=>?_;refine seqR (S Mv (S BI (nil ?_)));refine cE hE (fun hc6 hE=>?_) (fun hc6 hE=>?_)
 ·refine seqR (S BU (S Mv ?_));refine Sf ?_;refine S As (nil ?_);exact rt hE
 refine sk hK4 ?_;clear hK4 K4;refine seqR ?_;refine Sl ?_;refine AOps.arrO 1 fun tk7_9 htk7_9=>?_;refine AOps.relocal 1 _ rfl (fun j w cs hh hx=>arr_cell 1 1 1 hh (t:=tk7_9) hpG hx rfl) ?_;refine nil ?_;refine seqR (S As (nil ?_));refine seqJH (TA 2 (TA 7 KeepsT.nil)) (fun(z:(Sl Z8)×Int)=>[(4,.a (.d (Sl.d 3 Z8.c none z.1))),(8,.a (.d (.int .i64 z.2)))]) (fun z=>(H.set tk7_9 (some (.arr 1 [])))) (fun z=>Z135_j11 z.1 z.2=some r) ?_ ?_
 ·intro K11 hK11;refine block ?_;refine loopH (TA 2 (TA 7 KeepsT.nil)) (fun(z:Nat×(Sl Z8)×Int)=>[(4,.a (.d (Sl.d 3 Z8.c none z.2.1))),(8,.a (.d (.int .i64 z.2.2)))]) (fun z=>(H.set tk7_9 (some (.arr 1 [])))) (fun z=>z.1) (fun z=>Z135_l65 z.1 z.2.1 z.2.2=some r) (F0,x3.1,(0:Int)) hE Weak.toA ?_;rintro ⟨n65,s4_66,s8_67⟩ hE K65 hK65;try dsimp only at hE
  cases n65 with
  | zero=>cases hE
  | succ n65 =>
    rw [Z135_l65] at hE;refine seqK fun K68 hK68=>?_;refine seqR (S Mv ?_);obtain⟨x70,gx70,hE⟩:=bO hE;refine S (ix Z8.c 0 gx70) (S Fv (S Ld (S BI (S Mv (G0 Mv ?_)))));obtain⟨x71,gx71,hE⟩:=gO hE;refine gC rfl rfl (fun hC=>ungdA (k:=25) rfl (idxMn (f:=Z8.c) (n:=0) (TK rfl) rfl (TK rfl) rfl rfl rfl (gx71 hC))) rfl ?_;refine G1 26 rfl Fv ?_;refine G1 27 rfl Ld ?_;refine G1 28 rfl BS ?_;refine S PA (nil ?_)
    refine cE hE (fun hc72 hE=>?_) (fun hc72 hE=>?_)
    ·refine sk hK68 ?_;clear hK68 K68;refine block ?_;refine AWp.draw rfl ?_;refine Sd Mv ?_;obtain⟨x73,gx73,hE⟩:=bO hE;refine DOps.s0 (addM rfl rfl gx73) rfl ?_;refine Sd Mv ?_;obtain⟨x74,gx74,hE⟩:=bO hE;refine DOps.s0 (partM (f:=Z8.c) (l:=(some (1:Int))) (r:=none) (TK rfl) rfl (TK rfl) rfl rfl rfl trivial gx74) rfl ?_;refine Sd As (Sd As ?_);refine DOps.nil (by decide +kernel) ?_;exact hK65 _ (n65,x74,x73) Weak.toA hE (Nat.lt_succ_self _)
    refine AWp.exit ?_;exact hK11 _ (s4_66,s8_67) Weak.toA hE
 rintro ⟨s4_12,s8_13⟩ hE;try dsimp only at hE
 unfold Z135_j11 at hE;refine seqK fun K14 hK14=>?_;refine seqR (S Mv ?_);obtain⟨x16,gx16,hE⟩:=bO hE;refine S (ix Z8.c 0 gx16) (S Fv (S Ld (S BI (nil ?_))));refine cE hE (fun hc17 hE=>?_) (fun hc17 hE=>?_)
 ·refine seqR (S BU ?_);refine Sf ?_;refine S As (nil ?_);refine AWp.ret ?_;repeat (first|refine xBlock_ret ?_|refine xThen_ret ?_)
  obtain rfl:=Option.some.inj hE;refine retQ.retF H rfl ⟨rfl,rfl⟩ ?_
  first|exact Heap.sub_set htk7_9|(simp only [Heap.set_set]; exact Heap.sub_set htk7_9)
 refine sk hK14 ?_;clear hK14 K14;refine AWp.seqD (Sd Mv ?_);obtain⟨x20,gx20,hE⟩:=bO hE;refine Sd (ix Z8.c 0 gx20) (Sd Fv (Sd Ld (Sd Mv ?_)));obtain⟨x21,gx21,hE⟩:=bO hE;refine DOps.s0 (partM (f:=Z8.c) (l:=(some (1:Int))) (r:=none) (TK rfl) rfl (TK rfl) rfl rfl rfl trivial gx21) rfl ?_;refine Sd FL ?_;refine DOps.sLn (storeL1 (TK rfl) rfl rfl rfl rfl (by repeat (first|exact SetAt.zero|apply SetAt.succ)) (by repeat (first|exact SetAt.zero|apply SetAt.succ))) ?_
 refine Sd As ?_;refine DOps.nil (by decide +kernel) ?_;refine seqJ (TA 2 (TA 7 KeepsT.nil)) (fun(z:(Sl Z8)×TRef×TRef)=>[(4,.a (.d (Sl.d 3 Z8.c none z.1)))]) (fun z=>[TRef.c z.2.1,(strE z.2.2.FName++[.arr 1 tk7_9 z.2.2.FWraps.nl z.2.2.FWraps.l.length])]) (fun z=>(H.set tk7_9 (some (.arr 1 (z.2.2.FWraps.l.map (intE .i64)))))) (fun z=>Z135_j22 z.1 z.2.1 z.2.2=some r) ?_ ?_
 ·intro K22 hK22;refine block ?_;refine loopO (TA 2 (TA 7 KeepsT.nil)) (fun(z:Nat×(Sl Z8)×Int×TRef×TRef)=>[(4,.a (.d (Sl.d 3 Z8.c none z.2.1))),(8,.a (.d (.int .i64 z.2.2.1)))]) (fun z=>[TRef.c z.2.2.2.1,(strE z.2.2.2.2.FName++[.arr 1 tk7_9 z.2.2.2.2.FWraps.nl z.2.2.2.2.FWraps.l.length])]) (fun z=>(H.set tk7_9 (some (.arr 1 (z.2.2.2.2.FWraps.l.map (intE .i64)))))) (fun z=>z.1) (fun z=>Z135_l39 z.1 z.2.1 z.2.2.1 z.2.2.2.1 z.2.2.2.2=some r) (F0,x21,s8_13,TRef.zero,(TRef.mk x20.FText TRef.zero.FWraps)) hE Weak.toA ?_
  rintro ⟨n39,s4_40,s8_41,y42_l0,y43_l1⟩ hE K39 hK39;try dsimp only at hE
  cases n39 with
  | zero=>cases hE
  | succ n39 =>
    rw [Z135_l39] at hE;refine block ?_;refine seqJ (TA 2 (TA 7 (TA 8 KeepsT.nil))) (fun(z:(Sl Z8)×TRef)=>[(4,.a (.d (Sl.d 3 Z8.c none z.1)))]) (fun z=>[TRef.c y42_l0,(strE z.2.FName++[.arr 1 tk7_9 z.2.FWraps.nl z.2.FWraps.l.length])]) (fun z=>(H.set tk7_9 (some (.arr 1 (z.2.FWraps.l.map (intE .i64)))))) (fun z=>Z135_j44 s8_41 y42_l0 ((Z135_l39 n39)) z.1 z.2=some r) ?_ ?_
    ·intro K44 hK44;refine seqR (S Mv ?_);obtain⟨x60,gx60,hE⟩:=bO hE;refine S (ix Z8.c 0 gx60) (S Fv (S Ld (S BI (S Mv (G0 Mv ?_)))));obtain⟨x61,gx61,hE⟩:=gO hE;refine gC rfl rfl (fun hC=>ungdA (k:=54) rfl (idxMn (f:=Z8.c) (n:=0) (TK rfl) rfl (TK rfl) rfl rfl rfl (gx61 hC))) rfl ?_;refine G1 55 rfl Fv ?_;refine G1 56 rfl Ld ?_;refine G1 57 rfl BS ?_;refine S PA (nil ?_);refine cE hE (fun hc62 hE=>?_) (fun hc62 hE=>?_)
     ·refine AWp.draw rfl ?_;refine Sd FL (Sd LL (Sd BV ?_));obtain⟨x63,gx63,hE⟩:=bO hE;refine DOps.sH (appR (f:=(intE .i64)) (s:=y43_l1.FWraps) (TK rfl) rfl (TK rfl) (TK rfl) ⟨_,rfl⟩ rfl rfl rfl rfl rfl rfl hpG (by first|rfl|simp [Sl.setL,Sl.nil,sortL_len]) rfl gx63) rfl ?_;refine DOps.Dh (H.set tk7_9 (some (.arr 1 (x63.l.map (intE .i64))))) ?_;refine Sd Mv ?_;obtain⟨x64,gx64,hE⟩:=bO hE;refine DOps.s0 (partM (f:=Z8.c) (l:=(some (1:Int))) (r:=none) (TK rfl) rfl (TK rfl) rfl rfl rfl trivial gx64) rfl ?_
      refine Sd FL ?_;refine DOps.sLn (storeL1 (TK rfl) rfl rfl rfl rfl (by repeat (first|exact SetAt.zero|apply SetAt.succ)) (by repeat (first|exact SetAt.zero|apply SetAt.succ))) ?_;refine Sd As ?_;refine DOps.nil (by decide +kernel) ?_;exact hK44 _ (x64,(TRef.mk y43_l1.FName x63)) Weak.toA hE
     refine AWp.skip ?_;exact hK44 _ (s4_40,y43_l1) Weak.toA hE
    rintro ⟨s4_45,y46_l1⟩ hE;try dsimp only at hE
    unfold Z135_j44 at hE;refine seqK fun K47 hK47=>?_;refine seqR (S Mv (S BI (nil ?_)));refine cE hE (fun hc49 hE=>?_) (fun hc49 hE=>?_)
    ·refine AWp.exit ?_;exact hK22 _ (s4_45,y42_l0,y46_l1) Weak.toA hE
    refine sk hK47 ?_;clear hK47 K47;refine seqK fun K50 hK50=>?_;refine seqR (S Mv ?_);obtain⟨x52,gx52,hE⟩:=bO hE;refine S (ix Z8.c 0 gx52) (S Fv (S Ld (S BI (S Mv (G0 Mv ?_)))));obtain⟨x53,gx53,hE⟩:=gO hE;refine gC rfl rfl (fun hC=>ungdA (k:=75) rfl (idxMn (f:=Z8.c) (n:=0) (TK rfl) rfl (TK rfl) rfl rfl rfl (gx53 hC))) rfl ?_;refine G1 76 rfl Fv ?_;refine G1 77 rfl Ld ?_;refine G1 78 rfl BS ?_;refine S PO (nil ?_)
    refine cE hE (fun hc54 hE=>?_) (fun hc54 hE=>?_)
    ·refine seqR (S BU ?_);refine Sf ?_;refine S As (nil ?_);refine AWp.ret ?_;repeat (first|refine xBlock_ret ?_|refine xThen_ret ?_)
     obtain rfl:=Option.some.inj hE;refine retQ.retF H rfl ⟨rfl,rfl⟩ ?_
     first|exact Heap.sub_set htk7_9|(simp only [Heap.set_set]; exact Heap.sub_set htk7_9)
    refine sk hK50 ?_;clear hK50 K50;refine AWp.draw rfl ?_;refine Sd FL (Sd LL (Sd BV ?_));obtain⟨x56,gx56,hE⟩:=bO hE;refine DOps.sH (appR (f:=(intE .i64)) (s:=y46_l1.FWraps) (TK rfl) rfl (TK rfl) (TK rfl) ⟨_,rfl⟩ rfl rfl rfl rfl rfl rfl hpG (by first|rfl|simp [Sl.setL,Sl.nil,sortL_len]) rfl gx56) rfl ?_;refine DOps.Dh (H.set tk7_9 (some (.arr 1 (x56.l.map (intE .i64))))) ?_;refine Sd Mv ?_;obtain⟨x57,gx57,hE⟩:=bO hE
    refine DOps.s0 (partM (f:=Z8.c) (l:=(some (1:Int))) (r:=none) (TK rfl) rfl (TK rfl) rfl rfl rfl trivial gx57) rfl ?_;refine Sd Mv ?_;obtain⟨x58,gx58,hE⟩:=bO hE;refine DOps.s0 (subM rfl rfl gx58) rfl ?_;refine Sd FL ?_;refine DOps.sLn (storeL1 (TK rfl) rfl rfl rfl rfl (by repeat (first|exact SetAt.zero|apply SetAt.succ)) (by repeat (first|exact SetAt.zero|apply SetAt.succ))) ?_;refine Sd As (Sd As ?_)
    refine DOps.nil (by decide +kernel) ?_;exact hK39 _ (n39,x57,x58,y42_l0,(TRef.mk y46_l1.FName x56)) Weak.toA hE (Nat.lt_succ_self _)
 rintro ⟨s4_23,y24_l0,y25_l1⟩ hE;try dsimp only at hE
 unfold Z135_j22 at hE;refine seqK fun K26 hK26=>?_;refine seqR (S Mv ?_);obtain⟨x28,gx28,hE⟩:=bO hE;refine S (ix Z8.c 0 gx28) (S Fv (S Ld (S BI (nil ?_))));refine cE hE (fun hc29 hE=>?_) (fun hc29 hE=>?_)
 ·refine seqR (S BU ?_);refine Sf ?_;refine S As (nil ?_);refine AWp.ret ?_;repeat (first|refine xBlock_ret ?_|refine xThen_ret ?_)
  obtain rfl:=Option.some.inj hE;refine retQ.retF H rfl ⟨rfl,rfl⟩ ?_
  first|exact Heap.sub_set htk7_9|(simp only [Heap.set_set]; exact Heap.sub_set htk7_9)
 refine sk hK26 ?_;clear hK26 K26;refine seqK fun K31 hK31=>?_;refine seqR (S FL (S LL ?_));refine AOps.sLenR (f:=(intE .i64)) (l:=y25_l1.FWraps.l) (TK rfl) rfl rfl rfl hpG (by first|rfl|simp [Sl.setL,Sl.nil,sortL_len]) rfl fun hL33=>?_;refine S BI (nil ?_);refine cE hE (fun hc34 hE=>?_) (fun hc34 hE=>?_)
 ·refine seqR (S BU ?_);refine Sf ?_;refine S As (nil ?_);refine AWp.ret ?_;repeat (first|refine xBlock_ret ?_|refine xThen_ret ?_)
  obtain rfl:=Option.some.inj hE;refine retQ.retF H rfl ⟨rfl,rfl⟩ ?_
  first|exact Heap.sub_set htk7_9|(simp only [Heap.set_set]; exact Heap.sub_set htk7_9)
 refine sk hK31 ?_;clear hK31 K31;refine seqR (S FL (S LL ?_));obtain⟨x37,gx37,hE⟩:=bO hE;have ex37:=Option.some.inj gx37;refine sH (callH rfl rfl (Z106_walk (s:=y25_l1.FWraps) hpG (by first|rfl|simp [Sl.setL,Sl.nil,sortL_len]))) rfl ?_;refine AOps.heq (h':=(H.set tk7_9 (some (.arr 1 (x37.l.map (intE .i64)))))) (by subst ex37; exact(by first|rfl|(rw [Heap.set_set]; rfl)|(funext n_; simp only [Heap.set]; (repeat' split)<;>first|rfl|(exfalso; simp_all; done)|(simp_all; done)))) ?_
 refine AOps.relocal 1 (strE (TRef.mk y25_l1.FName x37).FName++[.arr 1 tk7_9 (TRef.mk y25_l1.FName x37).FWraps.nl (TRef.mk y25_l1.FName x37).FWraps.l.length]) rfl (fun j w cs hh hx=>by subst ex37; first|exact hx|simpa [Sl.rev] using hx) ?_;refine nil ?_;refine seqK fun K38 hK38=>?_;refine AWp.frzL 1 1 tk7_9 rfl rfl hpG (by first|rfl|(simp [Sl.setL,Sl.nil,sortL_len]; done)|(subst_vars; first|rfl|(simp [Sl.setL,Sl.nil,sortL_len]; done))) ?_
 refine AWp.heqA (h':=H) (by first|rfl|(rw [Heap.set_set]; rfl)|(funext n_; simp only [Heap.set]; (repeat' split)<;>first|rfl|(exfalso; simp_all; done)|(simp_all; done))) ?_;refine region ?_;refine S LL ?_;refine Sf ?_;refine S As (nil ?_);refine hK38 _ ?_;clear hK38 K38;exact rt hE
def Z133 (a0:TRef):Option Bool:=guardO ((decide ((0:Int)<((a0.FWraps.l.length:Nat):Int)))) (a0.FWraps.l[0]?) (0:Int) fun x4=>some ((decide ((0:Int)<((a0.FWraps.l.length:Nat):Int)))&&(decide (x4=(1:Int))))
theorem Z133_walk {a0:TRef}{r:Bool}(hE:Z133 a0=some r) (H:Heap) :ACalls Tryz.prog 53 [.agg (TRef.c a0)] H fun v h'=>v=.a (.d (.bool r))/\h'=H:=by
 unfold Z133 at hE;refine ACalls.oW 14 [.tmp 2] Tryz.call53 Tryz.func53 ?_;refine seqR (S BX (S As (nil ?_)));refine seqR (S Fv (S Ld ?_));refine sLen (f:=(intE .i64)) (s:=a0.FWraps) (TK rfl) rfl rfl rfl rfl fun hL3=>?_;refine S BI (S Mv (G0 Fv ?_));refine G1 8 rfl Ld ?_;obtain⟨x4,gx4,hE⟩:=gO hE;refine gC rfl rfl (fun hC=>ungdA (k:=9) rfl (idxMn (f:=(intE .i64)) (n:=0) (TK rfl) rfl (TK rfl) rfl rfl rfl (gx4 hC))) rfl ?_
 refine G1 10 rfl Ld ?_;refine G1 11 rfl BI ?_;refine S PA (S As (nil ?_));exact rt hE
def Z99 (a0:(Sl Int)):Option (Sl Int):=bif a0.nl then(some (Sl.nil:Sl Int)) else((appC 8 (⟨false,[]⟩:Sl Int) a0).bind fun x7=>some x7)
theorem Z99_walk {a0:Sl Int}{w0:Option Nat}{r:Sl Int}(hE:Z99 a0=some r) (H:Heap) :ACalls Tryz.prog 283 [.d (Sl.d 1 (intE .i64) w0 a0)] H fun v h'=>v=.a (.d (Sl.d 1 (intE .i64) none r))/\h'=H:=by
 unfold Z99 at hE;refine ACalls.oW 8 [.tmp 2] Tryz.call283 Tryz.func283 ?_;refine seqR ?_;refine s0 (assignNil (k':=1) rfl) rfl ?_;refine nil ?_;refine seqK fun K2 hK2=>?_;refine seqR (S Mv ?_);refine s0 (eqNil (TK rfl) rfl rfl) rfl ?_;refine nil ?_;refine cE hE (fun hc4 hE=>?_) (fun hc4 hE=>?_)
 ·refine seqR ?_;refine s0 (assignNil (k':=1) rfl) rfl ?_;refine nil ?_;exact rt hE
 refine sk hK2 ?_;clear hK2 K2;refine seqR ?_;refine s0 (buildSliceF (TK rfl) rfl (TK rfl) rfl rfl rfl rfl rfl rfl) rfl ?_;refine S Mv ?_;obtain⟨x7,gx7,hE⟩:=bO hE;refine s0 (appFM (f:=(intE .i64)) (TK rfl) rfl (TK rfl) (TK rfl) ⟨_,rfl⟩ rfl rfl (by decide) rfl rfl rfl (by intro q h; cases h<;>decide) rfl rfl gx7) rfl ?_;refine S As (nil ?_);exact rt hE
theorem Z99_arr {a0:Sl Int}{w0:Option Nat}{ar0:Nat}{r:Sl Int}(hE:Z99 a0=some r) (H:Heap) (har0:H ar0=some (.arr 1 [])) :ACalls Tryz.prog 283 [.d (Sl.d 1 (intE .i64) w0 a0)] H fun v h'=>v=.a (.d (.arr 1 ar0 r.nl r.l.length))/\h'=H.set ar0 (some (.arr 1 (r.l.map (intE .i64)))):=by
 unfold Z99 at hE;refine ACalls.oW 8 [.tmp 2] Tryz.call283 Tryz.func283 ?_;refine AWp.heqA (h':=(H.set ar0 (some (.arr 1 [])))) (by funext n_; simp only [Heap.set]; (repeat' split)<;>simp_all) ?_;refine seqR ?_;refine s0 (assignNil (k':=1) rfl) rfl ?_;refine AOps.nilR 2 1 ar0 rfl hpG ?_;refine nil ?_;refine seqK fun K2 hK2=>?_;refine seqR (S Mv ?_);refine s0 (eqNil (TK rfl) rfl rfl) rfl ?_;refine nil ?_
 refine cE hE (fun hc4 hE=>?_) (fun hc4 hE=>?_)
 ·refine seqR ?_;refine s0 (assignNil (k':=1) rfl) rfl ?_;refine AOps.nilR 2 1 ar0 rfl hpG ?_;refine nil ?_;exact rt hE
 refine sk hK2 ?_;clear hK2 K2;refine seqR ?_;refine s0 (buildSliceF (TK rfl) rfl (TK rfl) rfl rfl rfl rfl rfl rfl) rfl ?_;refine AOps.fullR 5 1 ar0 rfl hpG ?_;refine S Mv ?_;obtain⟨x7,gx7,hE⟩:=bO hE;refine sH (appR (f:=(intE .i64)) (s:=(⟨false,[]⟩:Sl Int)) (TK rfl) rfl (TK rfl) (TK rfl) ⟨_,rfl⟩ rfl rfl rfl rfl rfl rfl hpG (by first|rfl|simp [Sl.setL,Sl.nil,sortL_len]) rfl gx7) rfl ?_;refine hq (H.set ar0 (some (.arr 1 (x7.l.map (intE .i64))))) ?_
 refine S As (nil ?_);exact rt hE
def Z134_j3 (a0:TRef)  (s3_4:(Sl Int)):Option TRef:=(Z99 s3_4).bind fun x6=>some (TRef.mk a0.FName x6)
def Z134 (a0:TRef):Option TRef:=(Z133 a0).bind fun x8=>bif x8 then((partC a0.FWraps (some (1:Int)) none).bind fun x10=>Z134_j3 a0  x10) else(Z134_j3 a0  a0.FWraps)
theorem Z134_walk {a0 r:TRef}(hE:Z134 a0=some r) (H:Heap) :ACalls Tryz.prog 233 [.agg (TRef.c a0)] H fun v h'=>v=.a (.agg (TRef.c r))/\h'=H:=by
 unfold Z134 at hE;refine ACalls.oW 15 [.cell 2 49] Tryz.call233 Tryz.func233 ?_;refine seqR (S BX ?_);refine Sl ?_;refine nil ?_;refine seqR (S Fv (S Ld (S As (nil ?_))));refine seqJH (TA 1 (TA 2 KeepsT.nil)) (fun(z:(Sl Int))=>[(3,.a (.d (Sl.d 1 (intE .i64) none z)))]) (fun z=>H) (fun z=>Z134_j3 a0 z=some r) ?_ ?_
 ·intro K3 hK3;refine seqR (S Ld ?_);obtain⟨x8,gx8,hE⟩:=bO hE;refine Sc rfl rfl (Z133_walk gx8) ?_;refine nil ?_;refine cE hE (fun hc9 hE=>?_) (fun hc9 hE=>?_)
  ·refine region ?_;refine S Mv ?_;obtain⟨x10,gx10,hE⟩:=bO hE;refine s0 (partM (f:=(intE .i64)) (l:=(some (1:Int))) (r:=none) (TK rfl) rfl (TK rfl) rfl rfl rfl trivial gx10) rfl ?_;refine S As (nil ?_);exact hK3 _ x10 Weak.toA hE
  refine AWp.skip ?_;exact hK3 _ a0.FWraps Weak.toA hE
 rintro s3_4 hE;try dsimp only at hE
 unfold Z134_j3 at hE;refine AWp.seqD (Sd Fv (Sd Ld (Sd Mv ?_)));obtain⟨x6,gx6,hE⟩:=bO hE;refine Scd rfl rfl (Z99_walk gx6) ?_;refine Sd BU ?_;refine DOps.sLn (storeLFA (TK rfl) rfl rfl rfl rfl rfl) ?_;refine DOps.nil (by decide +kernel) ?_;exact rt hE
def Z132 (a0:TRef):Option Bool:=(Z134 a0).bind fun x3=>guardO ((decide ((0:Int)<((x3.FWraps.l.length:Nat):Int)))) (x3.FWraps.l[0]?) (0:Int) fun x6=>some ((decide ((0:Int)<((x3.FWraps.l.length:Nat):Int)))&&(decide (x6=(2:Int))))
theorem Z132_walk {a0:TRef}{r:Bool}(hE:Z132 a0=some r) (H:Heap) :ACalls Tryz.prog 232 [.agg (TRef.c a0)] H fun v h'=>v=.a (.d (.bool r))/\h'=H:=by
 unfold Z132 at hE;refine ACalls.oW 16 [.tmp 2] Tryz.call232 Tryz.func232 ?_;refine seqR ?_;refine sL (boxL rfl (by repeat (first|exact Snoc.nil|apply Snoc.cons))) rfl ?_;refine S As (nil ?_);refine seqR (S LL ?_);obtain⟨x3,gx3,hE⟩:=bO hE;refine Sc rfl rfl (Z134_walk gx3) ?_;refine Sf ?_;refine nil ?_;refine seqR (S FL (S LL ?_));refine sLen (f:=(intE .i64)) (s:=x3.FWraps) (TK rfl) rfl rfl rfl rfl fun hL5=>?_
 refine S BI (S Mv (G0 FL ?_));refine gC rfl rfl (fun hC=>ungdLA (k:=10) rfl (loadL (TK rfl) rfl rfl rfl rfl)) rfl ?_;obtain⟨x6,gx6,hE⟩:=gO hE;refine gC rfl rfl (fun hC=>ungdA (k:=11) rfl (idxMn (f:=(intE .i64)) (n:=0) (TK rfl) rfl (TK rfl) rfl rfl rfl (gx6 hC))) rfl ?_;refine G1 12 rfl Ld ?_;refine G1 13 rfl BI ?_;refine S PA (S As (nil ?_));exact rt hE
def Z131 (a0:TRef):Option (TRef×Bool):=(Z132 a0).bind fun x4=>bif (!x4) then(some ((TRef.mk ([]:Bs) (Sl.nil:Sl Int)),false)) else((Z134 a0).bind fun x8=>(partC x8.FWraps (some (1:Int)) none).bind fun x10=>some ((TRef.mk x8.FName x10),true))
theorem Z131_walk {a0:TRef}{r:TRef×Bool}(hE:Z131 a0=some r) (H:Heap) :ACalls Tryz.prog 186 [.agg (TRef.c a0)] H fun v h'=>v=.tup [.agg (TRef.c r.1),.d (.bool r.2)]/\h'=H:=by
 unfold Z131 at hE;refine ACalls.oW 15 [.cell 2 49,.tmp 3] Tryz.call186 Tryz.func186 ?_;refine seqR ?_;refine sL (boxL rfl (by repeat (first|exact Snoc.nil|apply Snoc.cons))) rfl ?_;refine Sl ?_;refine S As (nil ?_);refine seqK fun K2 hK2=>?_;refine seqR (S LL ?_);obtain⟨x4,gx4,hE⟩:=bO hE;refine Sc rfl rfl (Z132_walk gx4) ?_;refine S NB (nil ?_);refine cE hE (fun hc5 hE=>?_) (fun hc5 hE=>?_)
 ·refine seqR (S BU ?_);refine Sf ?_;refine S As (nil ?_);exact rt hE
 refine sk hK2 ?_;clear hK2 K2;refine seqR (S LL ?_);obtain⟨x8,gx8,hE⟩:=bO hE;refine Sc rfl rfl (Z134_walk gx8) ?_;refine Sf ?_;refine nil ?_;refine seqR (S FL (S LL ?_));obtain⟨x10,gx10,hE⟩:=bO hE;refine s0 (partM (f:=(intE .i64)) (l:=(some (1:Int))) (r:=none) (TK rfl) rfl (TK rfl) rfl rfl rfl trivial gx10) rfl ?_;refine S FL ?_;refine Sf ?_;refine nil ?_;refine seqR (S LL ?_);refine Sf ?_;refine S As (nil ?_)
 exact rt hE
def Tryz.lay307_ren:Go.Shelf.Ren:=⟨fun|10=>307|6=>342|n=>n,fun|22=>47|23=>3|25=>328|3=>3|4=>4|0=>0|n=>n,fun|n=>n⟩
theorem Tryz.lay307:Go.Proofs.SlLaysH.n10 Tryz.prog Tryz.lay307_ren:={
 mixed:=by kernel_rfl
 f6:=⟨Tryz.f342.name,by decide,Tryz.func342.trans (congrArg some (by kernel_rfl))⟩
 f10:=⟨Tryz.f307.name,by decide,Tryz.func307.trans (congrArg some (by kernel_rfl))⟩
 t0:=Tryz.underlying0
 a0:=Tryz.isAgg0
 z0:=Tryz.sizeOf0
 v0:=Tryz.zeroValue0
 t3:=Tryz.underlying3
 a3:=Tryz.isAgg3
 z3:=Tryz.sizeOf3
 v3:=Tryz.zeroValue3
 t4:=Tryz.underlying4
 a4:=Tryz.isAgg4
 z4:=Tryz.sizeOf4
 v4:=Tryz.zeroValue4
 t22:=Tryz.underlying47
 a22:=Tryz.isAgg47
 z22:=Tryz.sizeOf47
 v22:=Tryz.zeroValue47
 a23:=Tryz.isAgg3
 z23:=Tryz.sizeOf3
 t25:=Tryz.underlying328
 a25:=Tryz.isAgg328
 z25:=Tryz.sizeOf328
 v25:=Tryz.zeroValue328 }
theorem Z102_walk {s:Sl Int}{f:Int->Option Bool}{g:Nat}(ht:∀x,∃z,f x=some z) (eg:∀args w,(callFunc g args).run Tryz.prog w=.ok (.enter g args) w) (hg:∀x z w,f x=some z->Calls Tryz.prog g #[.int .i64 x] w fun e w'=>e=.returned (.bool z)/\w'=w)
  {H:Heap}{id m:Nat}{nl:Bool}(hH:H id=some (.arr 1 (s.l.map (intE .i64)))) (hm:m=s.l.length) (hn:nl=s.nl):ACalls Tryz.prog 307 [.d (.arr 1 id nl m),.d (.func g [])] H fun r h'=>r=.a (.d (Sl.d 1 (intE .i64) none (delL f s)))/\h'=H.set id none :=
 delI_calls Tryz.lay307 Tryz.zeroValue3 ht eg hg hH hm hn rfl
def Z141 (a0:Int):Option Bool:=some (decide (a0=(1:Int)))
theorem Z141_tot (x:Int):∃z,Z141 x=some z:=⟨_,rfl⟩
theorem Z141_enter (args:Array Value) (w:World):(callFunc 308 args).run Tryz.prog w=.ok (.enter 308 args) w:=Tryz.call308 args w
theorem Z141_calls (x:Int) (z:Bool) (w:World) (h:Z141 x=some z):Calls Tryz.prog 308 #[.int .i64 x] w fun e w'=>e=.returned (.bool z)/\w'=w:=by
 obtain rfl:=Option.some.inj h
 go_enter Tryz.func308,Tryz.ntmps308
 go_wp2
 go_ret
 exact⟨rfl,rfl⟩
def Z140 (a0:(Sl Int)):Option (Sl Int):=(Z99 a0).bind fun x3=>(some (delL Z141 x3)).bind fun x4=>some x4
theorem Z140_walk {a0:Sl Int}{w0:Option Nat}{r:Sl Int}(hE:Z140 a0=some r) (H:Heap) :ACalls Tryz.prog 252 [.d (Sl.d 1 (intE .i64) w0 a0)] H fun v h'=>v=.a (.d (Sl.d 1 (intE .i64) none r))/\h'=H:=by
 unfold Z140 at hE;refine ACalls.oW 6 [.tmp 2] Tryz.call252 Tryz.func252 ?_;refine AWp.arrO 1 fun ar1 har1=>?_;refine seqR ?_;refine s0 (assignNil (k':=1) rfl) rfl ?_;refine nil ?_;refine seqR (S Mv ?_);obtain⟨x3,gx3,hE⟩:=bO hE;refine sH (callH rfl rfl (Z99_arr gx3 _ hpG)) rfl ?_;refine hq (H.set ar1 (some (.arr 1 (x3.l.map (intE .i64))))) ?_;obtain⟨x4,gx4,hE⟩:=bO hE;have ex4:=Option.some.inj gx4;refine sH (callH rfl rfl (Z102_walk (s:=x3) (f:=Z141) Z141_tot Z141_enter Z141_calls hpG (by first|rfl|simp [Sl.setL,Sl.nil,sortL_len]) rfl)) rfl ?_
 refine hq H ?_;rw [ex4];refine S As (nil ?_);exact rt hE
def Z138 (a0:TRef) (a1:TRef):Option Bool:=guardO (((a0.FName==a1.FName))) (Z140 a0.FWraps) (Sl.nil:Sl Int) fun x3=>guardO (((a0.FName==a1.FName))) (Z140 a1.FWraps) (Sl.nil:Sl Int) fun x4=>guardO (((a0.FName==a1.FName))) (Z104 x3 x4) false fun x5=>some (((a0.FName==a1.FName))&&x5)
theorem Z138_walk {a0 a1:TRef}{r:Bool}(hE:Z138 a0 a1=some r) (H:Heap) :ACalls Tryz.prog 204 [.agg (TRef.c a0),.agg (TRef.c a1)] H fun v h'=>v=.a (.d (.bool r))/\h'=H:=by
 unfold Z138 at hE;refine ACalls.oW 19 [.tmp 4] Tryz.call204 Tryz.func204 ?_;refine seqR (S BX (S BX (S As (nil ?_))));refine AWp.seqD (Sd Fv (Sd Ld (Sd Fv (Sd Ld (Sd BS (Sd Mv (G0d Fv ?_)))))));refine G1d 11 rfl Ld ?_;obtain⟨x3,gx3,hE⟩:=gO hE;refine Gc1d 12 rfl rfl rfl rfl rfl (fun hC=>Z140_walk (gx3 hC)) ?_;refine G0d Fv ?_;refine G1d 14 rfl Ld ?_;obtain⟨x4,gx4,hE⟩:=gO hE;refine Gc1d 15 rfl rfl rfl rfl rfl (fun hC=>Z140_walk (gx4 hC)) ?_
 obtain⟨x5,gx5,hE⟩:=gO hE;refine Gc2d 13 16 rfl rfl rfl rfl rfl rfl (fun hC=>Z104_walk (gx5 hC)) ?_;refine Sd PA (Sd As ?_);refine DOps.nil (by decide +kernel) ?_;exact rt hE
end Go.Proofs

namespace Go.Proofs
open Go Go.Ab
open AOps Cert AWp Keeps KeepsT
variable {lou:Lou}
def Z139_j14 (y10_l0:TRef) (y11_l1:TRef) (y12_l2:TRef) (k_next_9:TRef->TRef->TRef->TRef->Option (TRef×Bool)) (y15_l3:TRef):Option (TRef×Bool):=(Z131 y10_l0).bind fun x17=>(Z131 y11_l1).bind fun x19=>bif ((!x17.2)||(!x19.2)) then(some (y15_l3,true)) else((appC 8 y15_l3.FWraps (⟨false,[(2:Int)]⟩:Sl Int)).bind fun x25=>k_next_9 x17.1 x19.1 y12_l2 (TRef.mk y15_l3.FName x25))
def Z139_l9 :Nat->TRef->TRef->TRef->TRef->Option (TRef×Bool)
 | 0,_,_,_,_=>none
 | n9+1,y10_l0,y11_l1,y12_l2,y13_l3=>(Z133 y10_l0).bind fun x27=>guardO (x27) (Z133 y11_l1) false fun x28=>bif (x27&&x28) then((appC 8 y13_l3.FWraps (⟨false,[(1:Int)]⟩:Sl Int)).bind fun x30=>Z139_j14 y10_l0 y11_l1 y12_l2 ((Z139_l9  n9)) (TRef.mk y13_l3.FName x30)) else(Z139_j14 y10_l0 y11_l1 y12_l2 ((Z139_l9  n9)) y13_l3)
def Z139 (a0:TRef) (a1:TRef):Option (TRef×Bool):=(Z138 a0 a1).bind fun x4=>bif (!x4) then(some ((TRef.mk ([]:Bs) (Sl.nil:Sl Int)),false)) else(Z139_l9 F0 a0 a1 TRef.zero (TRef.mk a0.FName (Sl.nil:Sl Int)))
theorem Z139_walk {a0 a1:TRef}{r:TRef×Bool}(hE:Z139 a0 a1=some r) (H:Heap) :ACalls Tryz.prog 139 [.agg (TRef.c a0),.agg (TRef.c a1)] H fun v h'=>v=.tup [.agg (TRef.c r.1),.d (.bool r.2)]/\h'=H:=by
 unfold Z139 at hE;refine ACalls.oW 54 [.cell 4 49,.tmp 5] Tryz.call139 Tryz.func139 ?_;refine seqR ?_;refine sL (boxL rfl (by repeat (first|exact Snoc.nil|apply Snoc.cons))) rfl ?_;refine sL (boxL rfl (by repeat (first|exact Snoc.nil|apply Snoc.cons))) rfl ?_;refine Sl ?_;refine S As (nil ?_);refine seqK fun K2 hK2=>?_;refine seqR (S LL (S LL ?_));obtain⟨x4,gx4,hE⟩:=bO hE;refine Sc rfl rfl (Z138_walk gx4) ?_
 refine S NB (nil ?_);refine cE hE (fun hc5 hE=>?_) (fun hc5 hE=>?_)
 ·refine seqR (S BU ?_);refine Sf ?_;refine S As (nil ?_);exact rt hE
 refine sk hK2 ?_;clear hK2 K2;refine seqR (S FL (S LL (S BU ?_)));refine Sl ?_;refine AOps.tok 1 fun tk6_8 htk6_8=>?_;refine AOps.relocal 3 _ rfl (fun j w cs hh hx=>tok_cell 1 1 1 hh (t:=tk6_8) hpG hx rfl) ?_;refine Sf ?_;refine AOps.relocal 3 _ rfl (fun j w cs hh hx=>tok_cell 1 1 1 hh (t:=tk6_8) hpG hx rfl) ?_;refine nil ?_;refine block ?_;refine loopO (TA 2 (TA 3 (TA 4 (TA 6 KeepsT.nil)))) (fun(z:Nat×TRef×TRef×TRef×TRef)=>[]) (fun z=>[TRef.c z.2.1,TRef.c z.2.2.1,TRef.c z.2.2.2.1,(strE z.2.2.2.2.FName++[Sl.d 1 (intE .i64) (some tk6_8) z.2.2.2.2.FWraps])]) (fun z=>(H.set tk6_8 (some (.tok 1 z.2.2.2.2.FWraps.l.length)))) (fun z=>z.1) (fun z=>Z139_l9 z.1 z.2.1 z.2.2.1 z.2.2.2.1 z.2.2.2.2=some r) (F0,a0,a1,TRef.zero,(TRef.mk a0.FName (Sl.nil:Sl Int))) hE Weak.toA ?_
 rintro ⟨n9,y10_l0,y11_l1,y12_l2,y13_l3⟩ hE K9 hK9;try dsimp only at hE
 cases n9 with
 | zero=>cases hE
 | succ n9 =>
   rw [Z139_l9] at hE;refine block ?_;refine seqJ (TA 2 (TA 3 (TA 4 (TA 6 KeepsT.nil)))) (fun(z:TRef)=>[]) (fun z=>[TRef.c y10_l0,TRef.c y11_l1,TRef.c y12_l2,(strE z.FName++[Sl.d 1 (intE .i64) (some tk6_8) z.FWraps])]) (fun z=>(H.set tk6_8 (some (.tok 1 z.FWraps.l.length)))) (fun z=>Z139_j14 y10_l0 y11_l1 y12_l2 ((Z139_l9 n9)) z=some r) ?_ ?_
   ·intro K14 hK14;refine seqR (S LL ?_);obtain⟨x27,gx27,hE⟩:=bO hE;refine Sc rfl rfl (Z133_walk gx27) ?_;refine S Mv (G0 LL ?_);obtain⟨x28,gx28,hE⟩:=gO hE;refine Gc1 22 rfl rfl rfl rfl rfl (fun hC=>Z133_walk (gx28 hC)) ?_;refine S PA (nil ?_);refine cE hE (fun hc29 hE=>?_) (fun hc29 hE=>?_)
    ·refine region ?_;refine S FL (S LL (S BV ?_));obtain⟨x30,gx30,hE⟩:=bO hE;refine SH (am (intE .i64) (TK rfl) rfl (TK rfl) (TK rfl) gx30) ?_;refine hq (H.set tk6_8 (some (.tok 1 x30.l.length))) ?_;refine S FL ?_;refine Sf ?_;refine nil ?_;exact hK14 _ (TRef.mk y13_l3.FName x30) Weak.toA hE
    refine AWp.skip ?_;exact hK14 _ y13_l3 Weak.toA hE
   rintro y15_l3 hE;try dsimp only at hE
   unfold Z139_j14 at hE;refine seqR (S LL ?_);obtain⟨x17,gx17,hE⟩:=bO hE;refine Sc rfl rfl (Z131_walk gx17) ?_;refine S Mv (S EX (S EX ?_));refine Sl ?_;refine Sf ?_;refine S As (nil ?_);refine freezeA 7 _ rfl (KA 2 (KA 3 (KA 4 (KA 6 (KA 8 Keeps.nil))))) ?_;refine seqR (S LL ?_);obtain⟨x19,gx19,hE⟩:=bO hE;refine Sc rfl rfl (Z131_walk gx19) ?_;refine S Mv (S EX (S EX ?_));refine Sl ?_;refine Sf ?_
   refine S As (nil ?_);refine freezeA 9 _ rfl (KA 2 (KA 3 (KA 4 (KA 6 (KA 7 (KA 8 (KA 10 Keeps.nil))))))) ?_;refine seqK fun K20 hK20=>?_;refine seqR (S Mv (S NB (S Mv (G0 Mv ?_))));refine G1 43 rfl NB ?_;refine S PO (nil ?_);refine cE hE (fun hc22 hE=>?_) (fun hc22 hE=>?_)
   ·refine seqK fun K23 hK23=>?_;refine AWp.relocal 3 _ rfl (fun j w cs hh hx=>untok_cell 1 hx rfl) ?_;refine region ?_;refine S LL ?_;refine Sf ?_;refine S As (nil ?_);refine hK23 _ ?_;clear hK23 K23;refine AWp.ret ?_;repeat (first|refine xBlock_ret ?_|refine xThen_ret ?_)
    obtain rfl:=Option.some.inj hE;refine retQ.retF H rfl ⟨rfl,rfl⟩ ?_
    first|exact Heap.sub_set htk6_8|(simp only [Heap.set_set]; exact Heap.sub_set htk6_8)
   refine sk hK20 ?_;clear hK20 K20;refine seqR (S FL (S LL (S BV ?_)));obtain⟨x25,gx25,hE⟩:=bO hE;refine SH (am (intE .i64) (TK rfl) rfl (TK rfl) (TK rfl) gx25) ?_;refine hq (H.set tk6_8 (some (.tok 1 x25.l.length))) ?_;refine S FL ?_;refine Sf ?_;refine nil ?_;refine AWp.draw rfl ?_;refine Sd Ld (Sd Ld ?_);refine DOps.sLn (storeLFA (TK rfl) rfl rfl rfl rfl rfl) ?_;refine DOps.sLn (storeLFA (TK rfl) rfl rfl rfl rfl rfl) ?_
   refine DOps.nil (by decide +kernel) ?_;exact hK9 _ (n9,x17.1,x19.1,y12_l2,(TRef.mk y15_l3.FName x25)) Weak.toA hE (Nat.lt_succ_self _)
def Z130 (a0:TRef) (a1:TRef):Option Bool:=(Z139 a0 a1).bind fun x3=>guardO (x3.2) (Z137 x3.1 a1) false fun x5=>some (x3.2&&x5)
theorem Z130_walk {a0 a1:TRef}{r:Bool}(hE:Z130 a0 a1=some r) (H:Heap) :ACalls Tryz.prog 70 [.agg (TRef.c a0),.agg (TRef.c a1)] H fun v h'=>v=.a (.d (.bool r))/\h'=H:=by
 unfold Z130 at hE;refine ACalls.oW 19 [.tmp 4] Tryz.call70 Tryz.func70 ?_;refine seqR (S BX (S BX (S As (nil ?_))));refine seqR (S Ld (S Ld ?_));obtain⟨x3,gx3,hE⟩:=bO hE;refine Sc rfl rfl (Z139_walk gx3) ?_;refine S Mv (S EX (S EX ?_));refine Sl ?_;refine Sf ?_;refine S As (nil ?_);refine freezeA 5 _ rfl (KA 3 (KA 6 Keeps.nil)) ?_;refine seqR (S Mv (S Mv (G0 Ld (G0 Ld ?_))));obtain⟨x5,gx5,hE⟩:=gO hE
 refine Gc2 15 16 rfl rfl rfl rfl rfl rfl (fun hC=>Z137_walk (gx5 hC)) ?_;refine S PA (S As (nil ?_));exact rt hE
def Z9_j2  :Option Bool:=some false
def Z9_j15 (a0:Z2)  (s27_16:Bool):Option Bool:=bif s27_16 then((Z135 a0.FFrom).bind fun x19=>(Z135 a0.FTo).bind fun x21=>guardO (((decide (x19.2=(0:Int)))&&(decide (x21.2=(0:Int))))) (Z130 x19.1 x21.1) false fun x23=>some (((decide (x19.2=(0:Int)))&&(decide (x21.2=(0:Int))))&&x23)) else(Z9_j2   )
def Z9_j9 (a0:Z2)  (s14_10:Bool):Option Bool:=bif s14_10 then((Z116 a0.FTo ([33]:Bs)).bind fun x13=>guardO ((!x13)) (Z113 a0.FTo ([32,61,32]:Bs)) false fun x14=>some ((!x13)&&(!x14))) else(bif (decide (a0.FKind=(9:Int))) then(Z9_j15 a0  (decide (a0.FKind=(9:Int)))) else(Z9_j15 a0  (decide (a0.FKind=(15:Int)))))
def Z9_j5 (a0:Z2)  (s9_6:Bool):Option Bool:=bif s9_6 then(some true) else(bif (decide (a0.FKind=(8:Int))) then(Z9_j9 a0  (decide (a0.FKind=(8:Int)))) else(Z9_j9 a0  (decide (a0.FKind=(14:Int)))))
def Z9 (a0:Z2):Option Bool:=bif (decide (a0.FKind=(2:Int))) then(Z9_j5 a0  (decide (a0.FKind=(2:Int)))) else(bif (decide (a0.FKind=(5:Int))) then(Z9_j5 a0  (decide (a0.FKind=(5:Int)))) else(bif (decide (a0.FKind=(12:Int))) then(Z9_j5 a0  (decide (a0.FKind=(12:Int)))) else(Z9_j5 a0  (decide (a0.FKind=(18:Int))))))
theorem Z9_walk {a0:Z2}{r:Bool}(hE:Z9 a0=some r) (H:Heap) :ACalls Tryz.prog 27 [.agg (Z2.c a0)] H fun v h'=>v=.a (.d (.bool r))/\h'=H:=by
 unfold Z9 at hE;refine ACalls.oW 53 [.tmp 2] Tryz.call27 Tryz.func27 ?_;refine seqR (S BX (S As (nil ?_)));refine seqJH KeepsT.nil (fun(z:Unit)=>[]) (fun z=>H) (fun z=>Z9_j2 =some r) ?_ ?_
 ·intro K2 hK2;refine seqR (S Fv (S Ld (nil ?_)));refine block ?_;refine seqJH (TA 1 (TA 8 KeepsT.nil)) (fun(z:Bool)=>[(9,.a (.d (.bool z)))]) (fun z=>H) (fun z=>Z9_j5 a0 z=some r) ?_ ?_
  ·intro K5 hK5;refine seqR (S BI (S As (nil ?_)));refine cE hE (fun hc29 hE=>?_) (fun hc29 hE=>?_)
   ·refine AWp.skip ?_;exact hK5 _ (decide (a0.FKind=(2:Int))) Weak.toA hE
   refine seqR (S BI (S As (nil ?_)));refine cE hE (fun hc31 hE=>?_) (fun hc31 hE=>?_)
   ·refine AWp.skip ?_;exact hK5 _ (decide (a0.FKind=(5:Int))) Weak.toA hE
   refine seqR (S BI (S As (nil ?_)));refine cE hE (fun hc33 hE=>?_) (fun hc33 hE=>?_)
   ·refine AWp.skip ?_;exact hK5 _ (decide (a0.FKind=(12:Int))) Weak.toA hE
   refine region ?_;refine S BI (S As (nil ?_));exact hK5 _ (decide (a0.FKind=(18:Int))) Weak.toA hE
  rintro s9_6 hE;try dsimp only at hE
  unfold Z9_j5 at hE;refine cE hE (fun hc7 hE=>?_) (fun hc7 hE=>?_)
  ·refine seqR (S As (nil ?_));exact rt hE
  refine seqJH (TA 1 (TA 8 KeepsT.nil)) (fun(z:Bool)=>[(14,.a (.d (.bool z)))]) (fun z=>H) (fun z=>Z9_j9 a0 z=some r) ?_ ?_
  ·intro K9 hK9;refine seqR (S BI (S As (nil ?_)));refine cE hE (fun hc27 hE=>?_) (fun hc27 hE=>?_)
   ·refine AWp.skip ?_;exact hK9 _ (decide (a0.FKind=(8:Int))) Weak.toA hE
   refine region ?_;refine S BI (S As (nil ?_));exact hK9 _ (decide (a0.FKind=(14:Int))) Weak.toA hE
  rintro s14_10 hE;try dsimp only at hE
  unfold Z9_j9 at hE;refine cE hE (fun hc11 hE=>?_) (fun hc11 hE=>?_)
  ·refine seqR (S Fv (S Ld ?_));obtain⟨x13,gx13,hE⟩:=bO hE;refine Sc rfl rfl (Z116_walk gx13) ?_;refine S NB (S Mv (G0 Fv ?_));refine G1 22 rfl Ld ?_;obtain⟨x14,gx14,hE⟩:=gO hE;refine Gc1 23 rfl rfl rfl rfl rfl (fun hC=>Z113_walk (gx14 hC)) ?_;refine G1 24 rfl NB ?_;refine S PA (S As (nil ?_));exact rt hE
  refine seqJH (TA 1 KeepsT.nil) (fun(z:Bool)=>[(27,.a (.d (.bool z)))]) (fun z=>H) (fun z=>Z9_j15 a0 z=some r) ?_ ?_
  ·intro K15 hK15;refine seqR (S BI (S As (nil ?_)));refine cE hE (fun hc25 hE=>?_) (fun hc25 hE=>?_)
   ·refine AWp.skip ?_;exact hK15 _ (decide (a0.FKind=(9:Int))) Weak.toA hE
   refine region ?_;refine S BI (S As (nil ?_));exact hK15 _ (decide (a0.FKind=(15:Int))) Weak.toA hE
  rintro s27_16 hE;try dsimp only at hE
  unfold Z9_j15 at hE;refine cE hE (fun hc17 hE=>?_) (fun hc17 hE=>?_)
  ·refine seqR (S Fv (S Ld ?_));obtain⟨x19,gx19,hE⟩:=bO hE;refine Sc rfl rfl (Z135_walk gx19) ?_;refine S Mv (S EX (S EX ?_));refine Sl ?_;refine Sf ?_;refine S As (nil ?_);refine freezeA 3 _ rfl (KA 1 (KA 4 Keeps.nil)) ?_;refine seqR (S Fv (S Ld ?_));obtain⟨x21,gx21,hE⟩:=bO hE;refine Sc rfl rfl (Z135_walk gx21) ?_;refine S Mv (S EX (S EX ?_));refine Sl ?_;refine Sf ?_;refine S As (nil ?_);refine freezeA 5 _ rfl (KA 3 (KA 4 (KA 6 Keeps.nil))) ?_
   refine seqR (S Mv (S BI (S Mv (G0 Mv ?_))));refine G1 45 rfl BI ?_;refine S PA (S Mv (G0 Ld (G0 Ld ?_)));obtain⟨x23,gx23,hE⟩:=gO hE;refine Gc2 49 50 rfl rfl rfl rfl rfl rfl (fun hC=>Z130_walk (gx23 hC)) ?_;refine S PA (S As (nil ?_));exact rt hE
  refine AWp.skip ?_;exact hK2 _ () Weak.toA hE
 rintro _ hE;try dsimp only at hE
 unfold Z9_j2 at hE;refine seqR (S As (nil ?_));exact rt hE
section
variable [IsLoud lou]
theorem eqt_36:eqTab Tryz.prog 36=some [.int .i64,.str,.str,.str,.str,.str]:=by kernel_rfl
def Z31 :Option Bool:=(Z33 (TRef.mk ([73,110,116]:Bs) (Sl.nil:Sl Int)) ([121]:Bs)).bind fun x4=>(Z33 (TRef.mk ([73,110,116]:Bs) (⟨false,[(1:Int)]⟩:Sl Int)) ([122]:Bs)).bind fun x5=>(Z10 x4 x5).bind fun x6=>bif (!decide (((x6.l.length:Nat):Int)=(3:Int))) then(some false) else((x6.l[0]?).bind fun x13=>guardO ((decide (x13.FKind=(Z2.mk (9:Int) ([65]:Bs) ([120]:Bs) ([110]:Bs) ([73,110,116]:Bs) ([73,110,116,33]:Bs)).FKind)&&((x13.FType==(Z2.mk (9:Int) ([65]:Bs) ([120]:Bs) ([110]:Bs) ([73,110,116]:Bs) ([73,110,116,33]:Bs)).FType)&&((x13.FField==(Z2.mk (9:Int) ([65]:Bs) ([120]:Bs) ([110]:Bs) ([73,110,116]:Bs) ([73,110,116,33]:Bs)).FField)&&((x13.FArg==(Z2.mk (9:Int) ([65]:Bs) ([120]:Bs) ([110]:Bs) ([73,110,116]:Bs) ([73,110,116,33]:Bs)).FArg)&&((x13.FFrom==(Z2.mk (9:Int) ([65]:Bs) ([120]:Bs) ([110]:Bs) ([73,110,116]:Bs) ([73,110,116,33]:Bs)).FFrom)&&((x13.FTo==(Z2.mk (9:Int) ([65]:Bs) ([120]:Bs) ([110]:Bs) ([73,110,116]:Bs) ([73,110,116,33]:Bs)).FTo)&&true))))))) (x6.l[1]?) Z2.zero fun x14=>guardO (((decide (x13.FKind=(Z2.mk (9:Int) ([65]:Bs) ([120]:Bs) ([110]:Bs) ([73,110,116]:Bs) ([73,110,116,33]:Bs)).FKind)&&((x13.FType==(Z2.mk (9:Int) ([65]:Bs) ([120]:Bs) ([110]:Bs) ([73,110,116]:Bs) ([73,110,116,33]:Bs)).FType)&&((x13.FField==(Z2.mk (9:Int) ([65]:Bs) ([120]:Bs) ([110]:Bs) ([73,110,116]:Bs) ([73,110,116,33]:Bs)).FField)&&((x13.FArg==(Z2.mk (9:Int) ([65]:Bs) ([120]:Bs) ([110]:Bs) ([73,110,116]:Bs) ([73,110,116,33]:Bs)).FArg)&&((x13.FFrom==(Z2.mk (9:Int) ([65]:Bs) ([120]:Bs) ([110]:Bs) ([73,110,116]:Bs) ([73,110,116,33]:Bs)).FFrom)&&((x13.FTo==(Z2.mk (9:Int) ([65]:Bs) ([120]:Bs) ([110]:Bs) ([73,110,116]:Bs) ([73,110,116,33]:Bs)).FTo)&&true))))))&&(decide (x14.FKind=(4:Int))))) (x6.l[2]?) Z2.zero fun x15=>guardO ((((decide (x13.FKind=(Z2.mk (9:Int) ([65]:Bs) ([120]:Bs) ([110]:Bs) ([73,110,116]:Bs) ([73,110,116,33]:Bs)).FKind)&&((x13.FType==(Z2.mk (9:Int) ([65]:Bs) ([120]:Bs) ([110]:Bs) ([73,110,116]:Bs) ([73,110,116,33]:Bs)).FType)&&((x13.FField==(Z2.mk (9:Int) ([65]:Bs) ([120]:Bs) ([110]:Bs) ([73,110,116]:Bs) ([73,110,116,33]:Bs)).FField)&&((x13.FArg==(Z2.mk (9:Int) ([65]:Bs) ([120]:Bs) ([110]:Bs) ([73,110,116]:Bs) ([73,110,116,33]:Bs)).FArg)&&((x13.FFrom==(Z2.mk (9:Int) ([65]:Bs) ([120]:Bs) ([110]:Bs) ([73,110,116]:Bs) ([73,110,116,33]:Bs)).FFrom)&&((x13.FTo==(Z2.mk (9:Int) ([65]:Bs) ([120]:Bs) ([110]:Bs) ([73,110,116]:Bs) ([73,110,116,33]:Bs)).FTo)&&true))))))&&(decide (x14.FKind=(4:Int))))&&(decide (x15.FKind=(Z2.mk (5:Int) ([65]:Bs) ([122]:Bs) ([]:Bs) ([]:Bs) ([73,110,116]:Bs)).FKind)&&((x15.FType==(Z2.mk (5:Int) ([65]:Bs) ([122]:Bs) ([]:Bs) ([]:Bs) ([73,110,116]:Bs)).FType)&&((x15.FField==(Z2.mk (5:Int) ([65]:Bs) ([122]:Bs) ([]:Bs) ([]:Bs) ([73,110,116]:Bs)).FField)&&((x15.FArg==(Z2.mk (5:Int) ([65]:Bs) ([122]:Bs) ([]:Bs) ([]:Bs) ([73,110,116]:Bs)).FArg)&&((x15.FFrom==(Z2.mk (5:Int) ([65]:Bs) ([122]:Bs) ([]:Bs) ([]:Bs) ([73,110,116]:Bs)).FFrom)&&((x15.FTo==(Z2.mk (5:Int) ([65]:Bs) ([122]:Bs) ([]:Bs) ([]:Bs) ([73,110,116]:Bs)).FTo)&&true)))))))) (x6.l[0]?) Z2.zero fun x16=>guardO ((((decide (x13.FKind=(Z2.mk (9:Int) ([65]:Bs) ([120]:Bs) ([110]:Bs) ([73,110,116]:Bs) ([73,110,116,33]:Bs)).FKind)&&((x13.FType==(Z2.mk (9:Int) ([65]:Bs) ([120]:Bs) ([110]:Bs) ([73,110,116]:Bs) ([73,110,116,33]:Bs)).FType)&&((x13.FField==(Z2.mk (9:Int) ([65]:Bs) ([120]:Bs) ([110]:Bs) ([73,110,116]:Bs) ([73,110,116,33]:Bs)).FField)&&((x13.FArg==(Z2.mk (9:Int) ([65]:Bs) ([120]:Bs) ([110]:Bs) ([73,110,116]:Bs) ([73,110,116,33]:Bs)).FArg)&&((x13.FFrom==(Z2.mk (9:Int) ([65]:Bs) ([120]:Bs) ([110]:Bs) ([73,110,116]:Bs) ([73,110,116,33]:Bs)).FFrom)&&((x13.FTo==(Z2.mk (9:Int) ([65]:Bs) ([120]:Bs) ([110]:Bs) ([73,110,116]:Bs) ([73,110,116,33]:Bs)).FTo)&&true))))))&&(decide (x14.FKind=(4:Int))))&&(decide (x15.FKind=(Z2.mk (5:Int) ([65]:Bs) ([122]:Bs) ([]:Bs) ([]:Bs) ([73,110,116]:Bs)).FKind)&&((x15.FType==(Z2.mk (5:Int) ([65]:Bs) ([122]:Bs) ([]:Bs) ([]:Bs) ([73,110,116]:Bs)).FType)&&((x15.FField==(Z2.mk (5:Int) ([65]:Bs) ([122]:Bs) ([]:Bs) ([]:Bs) ([73,110,116]:Bs)).FField)&&((x15.FArg==(Z2.mk (5:Int) ([65]:Bs) ([122]:Bs) ([]:Bs) ([]:Bs) ([73,110,116]:Bs)).FArg)&&((x15.FFrom==(Z2.mk (5:Int) ([65]:Bs) ([122]:Bs) ([]:Bs) ([]:Bs) ([73,110,116]:Bs)).FFrom)&&((x15.FTo==(Z2.mk (5:Int) ([65]:Bs) ([122]:Bs) ([]:Bs) ([]:Bs) ([73,110,116]:Bs)).FTo)&&true)))))))) (Z11 x16) ([]:Bs) fun x17=>guardO (((((decide (x13.FKind=(Z2.mk (9:Int) ([65]:Bs) ([120]:Bs) ([110]:Bs) ([73,110,116]:Bs) ([73,110,116,33]:Bs)).FKind)&&((x13.FType==(Z2.mk (9:Int) ([65]:Bs) ([120]:Bs) ([110]:Bs) ([73,110,116]:Bs) ([73,110,116,33]:Bs)).FType)&&((x13.FField==(Z2.mk (9:Int) ([65]:Bs) ([120]:Bs) ([110]:Bs) ([73,110,116]:Bs) ([73,110,116,33]:Bs)).FField)&&((x13.FArg==(Z2.mk (9:Int) ([65]:Bs) ([120]:Bs) ([110]:Bs) ([73,110,116]:Bs) ([73,110,116,33]:Bs)).FArg)&&((x13.FFrom==(Z2.mk (9:Int) ([65]:Bs) ([120]:Bs) ([110]:Bs) ([73,110,116]:Bs) ([73,110,116,33]:Bs)).FFrom)&&((x13.FTo==(Z2.mk (9:Int) ([65]:Bs) ([120]:Bs) ([110]:Bs) ([73,110,116]:Bs) ([73,110,116,33]:Bs)).FTo)&&true))))))&&(decide (x14.FKind=(4:Int))))&&(decide (x15.FKind=(Z2.mk (5:Int) ([65]:Bs) ([122]:Bs) ([]:Bs) ([]:Bs) ([73,110,116]:Bs)).FKind)&&((x15.FType==(Z2.mk (5:Int) ([65]:Bs) ([122]:Bs) ([]:Bs) ([]:Bs) ([73,110,116]:Bs)).FType)&&((x15.FField==(Z2.mk (5:Int) ([65]:Bs) ([122]:Bs) ([]:Bs) ([]:Bs) ([73,110,116]:Bs)).FField)&&((x15.FArg==(Z2.mk (5:Int) ([65]:Bs) ([122]:Bs) ([]:Bs) ([]:Bs) ([73,110,116]:Bs)).FArg)&&((x15.FFrom==(Z2.mk (5:Int) ([65]:Bs) ([122]:Bs) ([]:Bs) ([]:Bs) ([73,110,116]:Bs)).FFrom)&&((x15.FTo==(Z2.mk (5:Int) ([65]:Bs) ([122]:Bs) ([]:Bs) ([]:Bs) ([73,110,116]:Bs)).FTo)&&true)))))))&&((x17==([65,114,103,84,121,112,101,32,65,46,120,40,110,41,58,32,73,110,116,32,45,62,32,73,110,116,33]:Bs))))) (x6.l[0]?) Z2.zero fun x18=>guardO (((((decide (x13.FKind=(Z2.mk (9:Int) ([65]:Bs) ([120]:Bs) ([110]:Bs) ([73,110,116]:Bs) ([73,110,116,33]:Bs)).FKind)&&((x13.FType==(Z2.mk (9:Int) ([65]:Bs) ([120]:Bs) ([110]:Bs) ([73,110,116]:Bs) ([73,110,116,33]:Bs)).FType)&&((x13.FField==(Z2.mk (9:Int) ([65]:Bs) ([120]:Bs) ([110]:Bs) ([73,110,116]:Bs) ([73,110,116,33]:Bs)).FField)&&((x13.FArg==(Z2.mk (9:Int) ([65]:Bs) ([120]:Bs) ([110]:Bs) ([73,110,116]:Bs) ([73,110,116,33]:Bs)).FArg)&&((x13.FFrom==(Z2.mk (9:Int) ([65]:Bs) ([120]:Bs) ([110]:Bs) ([73,110,116]:Bs) ([73,110,116,33]:Bs)).FFrom)&&((x13.FTo==(Z2.mk (9:Int) ([65]:Bs) ([120]:Bs) ([110]:Bs) ([73,110,116]:Bs) ([73,110,116,33]:Bs)).FTo)&&true))))))&&(decide (x14.FKind=(4:Int))))&&(decide (x15.FKind=(Z2.mk (5:Int) ([65]:Bs) ([122]:Bs) ([]:Bs) ([]:Bs) ([73,110,116]:Bs)).FKind)&&((x15.FType==(Z2.mk (5:Int) ([65]:Bs) ([122]:Bs) ([]:Bs) ([]:Bs) ([73,110,116]:Bs)).FType)&&((x15.FField==(Z2.mk (5:Int) ([65]:Bs) ([122]:Bs) ([]:Bs) ([]:Bs) ([73,110,116]:Bs)).FField)&&((x15.FArg==(Z2.mk (5:Int) ([65]:Bs) ([122]:Bs) ([]:Bs) ([]:Bs) ([73,110,116]:Bs)).FArg)&&((x15.FFrom==(Z2.mk (5:Int) ([65]:Bs) ([122]:Bs) ([]:Bs) ([]:Bs) ([73,110,116]:Bs)).FFrom)&&((x15.FTo==(Z2.mk (5:Int) ([65]:Bs) ([122]:Bs) ([]:Bs) ([]:Bs) ([73,110,116]:Bs)).FTo)&&true)))))))&&((x17==([65,114,103,84,121,112,101,32,65,46,120,40,110,41,58,32,73,110,116,32,45,62,32,73,110,116,33]:Bs))))) (Z9 x18) false fun x19=>guardO ((((((decide (x13.FKind=(Z2.mk (9:Int) ([65]:Bs) ([120]:Bs) ([110]:Bs) ([73,110,116]:Bs) ([73,110,116,33]:Bs)).FKind)&&((x13.FType==(Z2.mk (9:Int) ([65]:Bs) ([120]:Bs) ([110]:Bs) ([73,110,116]:Bs) ([73,110,116,33]:Bs)).FType)&&((x13.FField==(Z2.mk (9:Int) ([65]:Bs) ([120]:Bs) ([110]:Bs) ([73,110,116]:Bs) ([73,110,116,33]:Bs)).FField)&&((x13.FArg==(Z2.mk (9:Int) ([65]:Bs) ([120]:Bs) ([110]:Bs) ([73,110,116]:Bs) ([73,110,116,33]:Bs)).FArg)&&((x13.FFrom==(Z2.mk (9:Int) ([65]:Bs) ([120]:Bs) ([110]:Bs) ([73,110,116]:Bs) ([73,110,116,33]:Bs)).FFrom)&&((x13.FTo==(Z2.mk (9:Int) ([65]:Bs) ([120]:Bs) ([110]:Bs) ([73,110,116]:Bs) ([73,110,116,33]:Bs)).FTo)&&true))))))&&(decide (x14.FKind=(4:Int))))&&(decide (x15.FKind=(Z2.mk (5:Int) ([65]:Bs) ([122]:Bs) ([]:Bs) ([]:Bs) ([73,110,116]:Bs)).FKind)&&((x15.FType==(Z2.mk (5:Int) ([65]:Bs) ([122]:Bs) ([]:Bs) ([]:Bs) ([73,110,116]:Bs)).FType)&&((x15.FField==(Z2.mk (5:Int) ([65]:Bs) ([122]:Bs) ([]:Bs) ([]:Bs) ([73,110,116]:Bs)).FField)&&((x15.FArg==(Z2.mk (5:Int) ([65]:Bs) ([122]:Bs) ([]:Bs) ([]:Bs) ([73,110,116]:Bs)).FArg)&&((x15.FFrom==(Z2.mk (5:Int) ([65]:Bs) ([122]:Bs) ([]:Bs) ([]:Bs) ([73,110,116]:Bs)).FFrom)&&((x15.FTo==(Z2.mk (5:Int) ([65]:Bs) ([122]:Bs) ([]:Bs) ([]:Bs) ([73,110,116]:Bs)).FTo)&&true)))))))&&((x17==([65,114,103,84,121,112,101,32,65,46,120,40,110,41,58,32,73,110,116,32,45,62,32,73,110,116,33]:Bs))))&&(!x19))) (x6.l[2]?) Z2.zero fun x20=>guardO ((((((decide (x13.FKind=(Z2.mk (9:Int) ([65]:Bs) ([120]:Bs) ([110]:Bs) ([73,110,116]:Bs) ([73,110,116,33]:Bs)).FKind)&&((x13.FType==(Z2.mk (9:Int) ([65]:Bs) ([120]:Bs) ([110]:Bs) ([73,110,116]:Bs) ([73,110,116,33]:Bs)).FType)&&((x13.FField==(Z2.mk (9:Int) ([65]:Bs) ([120]:Bs) ([110]:Bs) ([73,110,116]:Bs) ([73,110,116,33]:Bs)).FField)&&((x13.FArg==(Z2.mk (9:Int) ([65]:Bs) ([120]:Bs) ([110]:Bs) ([73,110,116]:Bs) ([73,110,116,33]:Bs)).FArg)&&((x13.FFrom==(Z2.mk (9:Int) ([65]:Bs) ([120]:Bs) ([110]:Bs) ([73,110,116]:Bs) ([73,110,116,33]:Bs)).FFrom)&&((x13.FTo==(Z2.mk (9:Int) ([65]:Bs) ([120]:Bs) ([110]:Bs) ([73,110,116]:Bs) ([73,110,116,33]:Bs)).FTo)&&true))))))&&(decide (x14.FKind=(4:Int))))&&(decide (x15.FKind=(Z2.mk (5:Int) ([65]:Bs) ([122]:Bs) ([]:Bs) ([]:Bs) ([73,110,116]:Bs)).FKind)&&((x15.FType==(Z2.mk (5:Int) ([65]:Bs) ([122]:Bs) ([]:Bs) ([]:Bs) ([73,110,116]:Bs)).FType)&&((x15.FField==(Z2.mk (5:Int) ([65]:Bs) ([122]:Bs) ([]:Bs) ([]:Bs) ([73,110,116]:Bs)).FField)&&((x15.FArg==(Z2.mk (5:Int) ([65]:Bs) ([122]:Bs) ([]:Bs) ([]:Bs) ([73,110,116]:Bs)).FArg)&&((x15.FFrom==(Z2.mk (5:Int) ([65]:Bs) ([122]:Bs) ([]:Bs) ([]:Bs) ([73,110,116]:Bs)).FFrom)&&((x15.FTo==(Z2.mk (5:Int) ([65]:Bs) ([122]:Bs) ([]:Bs) ([]:Bs) ([73,110,116]:Bs)).FTo)&&true)))))))&&((x17==([65,114,103,84,121,112,101,32,65,46,120,40,110,41,58,32,73,110,116,32,45,62,32,73,110,116,33]:Bs))))&&(!x19))) (Z9 x20) false fun x21=>some ((((((decide (x13.FKind=(Z2.mk (9:Int) ([65]:Bs) ([120]:Bs) ([110]:Bs) ([73,110,116]:Bs) ([73,110,116,33]:Bs)).FKind)&&((x13.FType==(Z2.mk (9:Int) ([65]:Bs) ([120]:Bs) ([110]:Bs) ([73,110,116]:Bs) ([73,110,116,33]:Bs)).FType)&&((x13.FField==(Z2.mk (9:Int) ([65]:Bs) ([120]:Bs) ([110]:Bs) ([73,110,116]:Bs) ([73,110,116,33]:Bs)).FField)&&((x13.FArg==(Z2.mk (9:Int) ([65]:Bs) ([120]:Bs) ([110]:Bs) ([73,110,116]:Bs) ([73,110,116,33]:Bs)).FArg)&&((x13.FFrom==(Z2.mk (9:Int) ([65]:Bs) ([120]:Bs) ([110]:Bs) ([73,110,116]:Bs) ([73,110,116,33]:Bs)).FFrom)&&((x13.FTo==(Z2.mk (9:Int) ([65]:Bs) ([120]:Bs) ([110]:Bs) ([73,110,116]:Bs) ([73,110,116,33]:Bs)).FTo)&&true))))))&&(decide (x14.FKind=(4:Int))))&&(decide (x15.FKind=(Z2.mk (5:Int) ([65]:Bs) ([122]:Bs) ([]:Bs) ([]:Bs) ([73,110,116]:Bs)).FKind)&&((x15.FType==(Z2.mk (5:Int) ([65]:Bs) ([122]:Bs) ([]:Bs) ([]:Bs) ([73,110,116]:Bs)).FType)&&((x15.FField==(Z2.mk (5:Int) ([65]:Bs) ([122]:Bs) ([]:Bs) ([]:Bs) ([73,110,116]:Bs)).FField)&&((x15.FArg==(Z2.mk (5:Int) ([65]:Bs) ([122]:Bs) ([]:Bs) ([]:Bs) ([73,110,116]:Bs)).FArg)&&((x15.FFrom==(Z2.mk (5:Int) ([65]:Bs) ([122]:Bs) ([]:Bs) ([]:Bs) ([73,110,116]:Bs)).FFrom)&&((x15.FTo==(Z2.mk (5:Int) ([65]:Bs) ([122]:Bs) ([]:Bs) ([]:Bs) ([73,110,116]:Bs)).FTo)&&true)))))))&&((x17==([65,114,103,84,121,112,101,32,65,46,120,40,110,41,58,32,73,110,116,32,45,62,32,73,110,116,33]:Bs))))&&(!x19))&&x21))
theorem Z31_walk  {oT:Ab.Obj}{gT:Nat}{r:Bool}(hE:Z31 =some r) (H:Heap) (hgT:H gT=some oT) (hoT:IsTab Tryz.prog oT):ACalls Tryz.prog 11 [] H fun v h'=>v=.a (.d (.bool r))/\h'=H:=by
 unfold Z31 at hE;refine ACalls.oW 52 [.tmp 0] Tryz.call11 Tryz.func11 ?_;refine seqR (S As (nil ?_));refine seqR (S BV (S BU ?_));refine Sl ?_;refine Sf ?_;refine nil ?_;refine freezeA 1 _ rfl Keeps.nil ?_;refine AWp.seqD (Sd BU ?_);obtain⟨x4,gx4,hE⟩:=bO hE;refine Scd rfl rfl (Z33_walk gx4) ?_;refine Sd Ld ?_;obtain⟨x5,gx5,hE⟩:=bO hE;refine Scd rfl rfl (Z33_walk gx5) ?_;obtain⟨x6,gx6,hE⟩:=bO hE;refine DOps.s0 (callR rfl rfl (Z10_walk (gT:=gT) (oT:=oT) gx6 _ hpG (by assumption))) rfl ?_
 refine Sd As ?_;refine DOps.nil (by decide +kernel) ?_;refine seqK fun K7 hK7=>?_;refine seqR (S Mv ?_);refine sLen (f:=Z2.c) (s:=x6) (TK rfl) rfl rfl rfl rfl fun hL9=>?_;refine S BI (nil ?_);refine cE hE (fun hc10 hE=>?_) (fun hc10 hE=>?_)
 ·refine seqR (S As (nil ?_));exact rt hE
 refine sk hK7 ?_;clear hK7 K7;refine seqR (S Mv ?_);obtain⟨x13,gx13,hE⟩:=bO hE;refine S (ix Z2.c 0 gx13) (S Ld (S BU ?_));refine s0 (eqStruct eqt_36 rfl rfl rfl rfl) rfl ?_;refine S Mv (G0 Mv ?_);obtain⟨x14,gx14,hE⟩:=gO hE;refine gC rfl rfl (fun hC=>ungdA (k:=19) rfl (idxMn (f:=Z2.c) (n:=1) (TK rfl) rfl (TK rfl) rfl rfl rfl (gx14 hC))) rfl ?_;refine G1 20 rfl Fv ?_;refine G1 21 rfl Ld ?_;refine G1 22 rfl BI ?_
 refine S PA (S Mv (G0 Mv ?_));obtain⟨x15,gx15,hE⟩:=gO hE;refine gC rfl rfl (fun hC=>ungdA (k:=26) rfl (idxMn (f:=Z2.c) (n:=2) (TK rfl) rfl (TK rfl) rfl rfl rfl (gx15 hC))) rfl ?_;refine G1 27 rfl Ld ?_;refine G0 BU ?_;refine gC rfl rfl (fun hC=>ungdA (k:=28) rfl (ungdA (k:=29) rfl (eqStruct eqt_36 rfl rfl rfl rfl))) rfl ?_;refine S PA (S Mv (G0 Mv ?_));obtain⟨x16,gx16,hE⟩:=gO hE;refine gC rfl rfl (fun hC=>ungdA (k:=33) rfl (idxMn (f:=Z2.c) (n:=0) (TK rfl) rfl (TK rfl) rfl rfl rfl (gx16 hC))) rfl ?_
 refine G1 34 rfl Ld ?_;obtain⟨x17,gx17,hE⟩:=gO hE;refine gC rfl rfl (fun hC=>ungdA (k:=35) rfl (callR rfl rfl (Z11_walk (gT:=gT) (oT:=oT) (gx17 hC) _ hpG (by assumption)))) rfl ?_;refine G1 36 rfl BS ?_;refine S PA (S Mv (G0 Mv ?_));obtain⟨x18,gx18,hE⟩:=gO hE;refine gC rfl rfl (fun hC=>ungdA (k:=40) rfl (idxMn (f:=Z2.c) (n:=0) (TK rfl) rfl (TK rfl) rfl rfl rfl (gx18 hC))) rfl ?_;refine G1 41 rfl Ld ?_
 obtain⟨x19,gx19,hE⟩:=gO hE;refine Gc1 42 rfl rfl rfl rfl rfl (fun hC=>Z9_walk (gx19 hC)) ?_;refine G1 43 rfl NB ?_;refine S PA (S Mv (G0 Mv ?_));obtain⟨x20,gx20,hE⟩:=gO hE;refine gC rfl rfl (fun hC=>ungdA (k:=47) rfl (idxMn (f:=Z2.c) (n:=2) (TK rfl) rfl (TK rfl) rfl rfl rfl (gx20 hC))) rfl ?_;refine G1 48 rfl Ld ?_;obtain⟨x21,gx21,hE⟩:=gO hE;refine Gc1 49 rfl rfl rfl rfl rfl (fun hC=>Z9_walk (gx21 hC)) ?_
 refine S PA (S As (nil ?_));exact rt hE
end
def Z94_j3  (y4_l0:Z2):Option Z2:=some y4_l0
def Z94_j11 (a0:Z2)  (s22_12:Bool):Option Z2:=bif s22_12 then((subC a0.FKind (1:Int)).bind fun x14=>Z94_j3   (Z2.mk x14 a0.FType a0.FField a0.FArg a0.FTo a0.FFrom)) else(Z94_j3   (Z2.mk a0.FKind a0.FType a0.FField a0.FArg a0.FTo a0.FFrom))
def Z94_j7 (a0:Z2)  (s11_8:Bool):Option Z2:=bif s11_8 then((addC a0.FKind (1:Int)).bind fun x10=>Z94_j3   (Z2.mk x10 a0.FType a0.FField a0.FArg a0.FTo a0.FFrom)) else(bif (decide (a0.FKind=(2:Int))) then(Z94_j11 a0  (decide (a0.FKind=(2:Int)))) else(bif (decide (a0.FKind=(12:Int))) then(Z94_j11 a0  (decide (a0.FKind=(12:Int)))) else(bif (decide (a0.FKind=(14:Int))) then(Z94_j11 a0  (decide (a0.FKind=(14:Int)))) else(bif (decide (a0.FKind=(18:Int))) then(Z94_j11 a0  (decide (a0.FKind=(18:Int)))) else(bif (decide (a0.FKind=(5:Int))) then(Z94_j11 a0  (decide (a0.FKind=(5:Int)))) else(Z94_j11 a0  (decide (a0.FKind=(8:Int)))))))))
def Z94 (a0:Z2):Option Z2:=bif (decide (a0.FKind=(1:Int))) then(Z94_j7 a0  (decide (a0.FKind=(1:Int)))) else(bif (decide (a0.FKind=(11:Int))) then(Z94_j7 a0  (decide (a0.FKind=(11:Int)))) else(bif (decide (a0.FKind=(13:Int))) then(Z94_j7 a0  (decide (a0.FKind=(13:Int)))) else(bif (decide (a0.FKind=(17:Int))) then(Z94_j7 a0  (decide (a0.FKind=(17:Int)))) else(bif (decide (a0.FKind=(4:Int))) then(Z94_j7 a0  (decide (a0.FKind=(4:Int)))) else(Z94_j7 a0  (decide (a0.FKind=(7:Int))))))))
theorem Z94_walk {a0 r:Z2}(hE:Z94 a0=some r) (H:Heap) :ACalls Tryz.prog 15 [.agg (Z2.c a0)] H fun v h'=>v=.a (.agg (Z2.c r))/\h'=H:=by
 unfold Z94 at hE;refine ACalls.oW 34 [.cell 2 36] Tryz.call15 Tryz.func15 ?_;refine seqR ?_;refine sL (boxL rfl (by repeat (first|exact Snoc.nil|apply Snoc.cons))) rfl ?_;refine Sl ?_;refine nil ?_;refine seqR (S FL (S LL (S FL (S LL (S FL ?_)))));refine Sf ?_;refine S FL ?_;refine Sf ?_;refine nil ?_;refine seqJ (TA 1 (TA 2 KeepsT.nil)) (fun(z:Z2)=>[]) (fun z=>[Z2.c z,Z2.c Z2.zero]) (fun z=>H) (fun z=>Z94_j3 z=some r) ?_ ?_
 ·intro K3 hK3;refine seqR (S FL (S LL (nil ?_)));refine block ?_;refine seqJH (TA 1 (TA 2 (TA 10 KeepsT.nil))) (fun(z:Bool)=>[(11,.a (.d (.bool z)))]) (fun z=>H) (fun z=>Z94_j7 a0 z=some r) ?_ ?_
  ·intro K7 hK7;refine seqR (S BI (S As (nil ?_)));refine cE hE (fun hc26 hE=>?_) (fun hc26 hE=>?_)
   ·refine AWp.skip ?_;exact hK7 _ (decide (a0.FKind=(1:Int))) Weak.toA hE
   refine seqR (S BI (S As (nil ?_)));refine cE hE (fun hc28 hE=>?_) (fun hc28 hE=>?_)
   ·refine AWp.skip ?_;exact hK7 _ (decide (a0.FKind=(11:Int))) Weak.toA hE
   refine seqR (S BI (S As (nil ?_)));refine cE hE (fun hc30 hE=>?_) (fun hc30 hE=>?_)
   ·refine AWp.skip ?_;exact hK7 _ (decide (a0.FKind=(13:Int))) Weak.toA hE
   refine seqR (S BI (S As (nil ?_)));refine cE hE (fun hc32 hE=>?_) (fun hc32 hE=>?_)
   ·refine AWp.skip ?_;exact hK7 _ (decide (a0.FKind=(17:Int))) Weak.toA hE
   refine seqR (S BI (S As (nil ?_)));refine cE hE (fun hc34 hE=>?_) (fun hc34 hE=>?_)
   ·refine AWp.skip ?_;exact hK7 _ (decide (a0.FKind=(4:Int))) Weak.toA hE
   refine region ?_;refine S BI (S As (nil ?_));exact hK7 _ (decide (a0.FKind=(7:Int))) Weak.toA hE
  rintro s11_8 hE;try dsimp only at hE
  unfold Z94_j7 at hE;refine cE hE (fun hc9 hE=>?_) (fun hc9 hE=>?_)
  ·refine region ?_;refine S FL (S LL ?_);obtain⟨x10,gx10,hE⟩:=bO hE;refine s0 (addM rfl rfl gx10) rfl ?_;refine S FL ?_;refine Sf ?_;refine nil ?_;exact hK3 _ (Z2.mk x10 a0.FType a0.FField a0.FArg a0.FTo a0.FFrom) Weak.toA hE
  refine seqJH (TA 1 (TA 2 KeepsT.nil)) (fun(z:Bool)=>[(22,.a (.d (.bool z)))]) (fun z=>H) (fun z=>Z94_j11 a0 z=some r) ?_ ?_
  ·intro K11 hK11;refine seqR (S BI (S As (nil ?_)));refine cE hE (fun hc16 hE=>?_) (fun hc16 hE=>?_)
   ·refine AWp.skip ?_;exact hK11 _ (decide (a0.FKind=(2:Int))) Weak.toA hE
   refine seqR (S BI (S As (nil ?_)));refine cE hE (fun hc18 hE=>?_) (fun hc18 hE=>?_)
   ·refine AWp.skip ?_;exact hK11 _ (decide (a0.FKind=(12:Int))) Weak.toA hE
   refine seqR (S BI (S As (nil ?_)));refine cE hE (fun hc20 hE=>?_) (fun hc20 hE=>?_)
   ·refine AWp.skip ?_;exact hK11 _ (decide (a0.FKind=(14:Int))) Weak.toA hE
   refine seqR (S BI (S As (nil ?_)));refine cE hE (fun hc22 hE=>?_) (fun hc22 hE=>?_)
   ·refine AWp.skip ?_;exact hK11 _ (decide (a0.FKind=(18:Int))) Weak.toA hE
   refine seqR (S BI (S As (nil ?_)));refine cE hE (fun hc24 hE=>?_) (fun hc24 hE=>?_)
   ·refine AWp.skip ?_;exact hK11 _ (decide (a0.FKind=(5:Int))) Weak.toA hE
   refine region ?_;refine S BI (S As (nil ?_));exact hK11 _ (decide (a0.FKind=(8:Int))) Weak.toA hE
  rintro s22_12 hE;try dsimp only at hE
  unfold Z94_j11 at hE;refine cE hE (fun hc13 hE=>?_) (fun hc13 hE=>?_)
  ·refine region ?_;refine S FL (S LL ?_);obtain⟨x14,gx14,hE⟩:=bO hE;refine s0 (subM rfl rfl gx14) rfl ?_;refine S FL ?_;refine Sf ?_;refine nil ?_;exact hK3 _ (Z2.mk x14 a0.FType a0.FField a0.FArg a0.FTo a0.FFrom) Weak.toA hE
  refine AWp.skip ?_;exact hK3 _ (Z2.mk a0.FKind a0.FType a0.FField a0.FArg a0.FTo a0.FFrom) Weak.toA hE
 rintro y4_l0 hE;try dsimp only at hE
 unfold Z94_j3 at hE;refine seqR (S LL ?_);refine Sf ?_;refine nil ?_;exact rt hE
end Go.Proofs

namespace Go.Proofs
open Go Go.Ab
open AOps Cert AWp Keeps KeepsT
variable {lou:Lou}
section
variable [IsLoud lou]
def Z30_j18  :Option Bool:=(Z31 ).bind fun x20=>some x20
def Z30_j28 (s7_23:Nat) (k_next_22:Nat->Option Bool) :Option Bool:=k_next_22 (s7_23+1)
def Z30_j33 (s7_23:Nat) (k_next_22:Nat->Option Bool) (s9_34:Bool):Option Bool:=bif (!s9_34) then(some false) else(Z30_j28 s7_23 k_next_22 )
def Z30_l39 (x11:(Sl Z2)) (s7_23:Nat) (x31:Z2) (k_next_22:Nat->Option Bool):Nat->Bool->Nat->Option Bool
 | 0,_,_=>none
 | n39+1,s9_40,s10_41=>bif (decide (((s10_41:Nat):Int)<((x11.l.length:Nat):Int))) then(guardO (!s9_40) (x11.l[s10_41]?) Z2.zero fun x47=>(Z30_l39 x11 s7_23 x31 k_next_22 n39) (s9_40||(decide (x47.FKind=x31.FKind)&&((x47.FType==x31.FType)&&((x47.FField==x31.FField)&&((x47.FArg==x31.FArg)&&((x47.FFrom==x31.FFrom)&&((x47.FTo==x31.FTo)&&true))))))) (s10_41+1)) else(Z30_j33 s7_23 k_next_22 s9_40)
def Z30_l22 (x10:(Sl Z2)) (x11:(Sl Z2)) :Nat->Nat->Option Bool
 | 0,_=>none
 | n22+1,s7_23=>bif (decide (((s7_23:Nat):Int)<((x10.l.length:Nat):Int))) then((x10.l[s7_23]?).bind fun x30=>(Z94 x30).bind fun x31=>Z30_l39 x11 s7_23 x31 ((Z30_l22 x10 x11 n22)) (x11.l.length+1) false 0) else(Z30_j18   )
def Z30 (a0:TDoc) (a1:TDoc):Option Bool:=(Z32 a0).bind fun x4=>guardO (!(!x4)) (Z32 a1) false fun x5=>bif ((!x4)||(!x5)) then((Z31 ).bind fun x8=>some x8) else((Z10 a0 a1).bind fun x10=>(Z10 a1 a0).bind fun x11=>bif ((!decide (((x10.l.length:Nat):Int)=((x11.l.length:Nat):Int)))||(decide ((2000:Int)<((x10.l.length:Nat):Int)))) then(some false) else(Z30_l22 x10 x11 (x10.l.length+1) 0))
theorem Z30_walk {a0 a1:TDoc}{oT:Ab.Obj}{gT:Nat}{r:Bool}(hE:Z30 a0 a1=some r) (H:Heap) (hgT:H gT=some oT) (hoT:IsTab Tryz.prog oT):ACalls Tryz.prog 5 [.agg (TDoc.c a0),.agg (TDoc.c a1)] H fun v h'=>v=.a (.d (.bool r))/\h'=H:=by
 unfold Z30 at hE;refine ACalls.oW 65 [.tmp 4] Tryz.call5 Tryz.func5 ?_;refine seqR (S BX (S BX (S As (nil ?_))));refine seqK fun K2 hK2=>?_;refine seqR (S Ld ?_);obtain⟨x4,gx4,hE⟩:=bO hE;refine Sc rfl rfl (Z32_walk gx4) ?_;refine S NB (S Mv (G0 Ld ?_));obtain⟨x5,gx5,hE⟩:=gO hE;refine Gc1 15 rfl rfl rfl rfl rfl (fun hC=>Z32_walk (gx5 hC)) ?_;refine G1 16 rfl NB ?_;refine S PO (nil ?_);refine cE hE (fun hc6 hE=>?_) (fun hc6 hE=>?_)
 ·refine seqR ?_;obtain⟨x8,gx8,hE⟩:=bO hE;refine s0 (callR rfl rfl (Z31_walk (gT:=gT) (oT:=oT) gx8 _ hpG (by assumption))) rfl ?_;refine S As (nil ?_);exact rt hE
 refine sk hK2 ?_;clear hK2 K2;refine AWp.seqD (Sd Ld (Sd Ld ?_));obtain⟨x10,gx10,hE⟩:=bO hE;refine DOps.s0 (callR rfl rfl (Z10_walk (gT:=gT) (oT:=oT) gx10 _ hpG (by assumption))) rfl ?_;refine Sd Ld (Sd Ld ?_);obtain⟨x11,gx11,hE⟩:=bO hE;refine DOps.s0 (callR rfl rfl (Z10_walk (gT:=gT) (oT:=oT) gx11 _ hpG (by assumption))) rfl ?_;refine Sd As (Sd As ?_);refine DOps.nil (by decide +kernel) ?_;refine seqK fun K12 hK12=>?_
 refine seqR (S Mv ?_);refine sLen (f:=Z2.c) (s:=x10) (TK rfl) rfl rfl rfl rfl fun hL14=>?_;refine S Mv ?_;refine sLen (f:=Z2.c) (s:=x11) (TK rfl) rfl rfl rfl rfl fun hL15=>?_;refine S BI (S Mv (G0 Mv ?_));refine gC rfl rfl (fun hC=>ungdA (k:=32) rfl (lenM' (f:=Z2.c) (s:=x10) (TK rfl) rfl rfl rfl)) rfl ?_;refine G1 33 rfl BI ?_;refine S PO (nil ?_);refine cE hE (fun hc16 hE=>?_) (fun hc16 hE=>?_)
 ·refine seqR (S As (nil ?_));exact rt hE
 refine sk hK12 ?_;clear hK12 K12;refine seqJH KeepsT.nil (fun(z:Unit)=>[]) (fun z=>H) (fun z=>Z30_j18 =some r) ?_ ?_
 ·intro K18 hK18;refine seqR (S As (nil ?_));refine block ?_;refine loopH (TA 5 (TA 6 KeepsT.nil)) (fun(z:Nat×Nat)=>[(7,.a (.d (.int .i64 ((z.2:Nat):Int))))]) (fun z=>H) (fun z=>z.1) (fun z=>Z30_l22 x10 x11 z.1 z.2=some r) ((x10.l.length+1),0) hE Weak.toA ?_;rintro ⟨n22,s7_23⟩ hE K22 hK22;try dsimp only at hE
  cases n22 with
  | zero=>cases hE
  | succ n22 =>
    rw [Z30_l22] at hE;refine seqK fun K24 hK24=>?_;refine seqR (S Mv (S Mv ?_));refine sLen (f:=Z2.c) (s:=x10) (TK rfl) rfl rfl rfl rfl fun hL26=>?_;refine S BI (nil ?_);refine cE hE (fun hc27 hE=>?_) (fun hc27 hE=>?_)
    ·try dsimp only at hc27
     have hf27:=of_decide_eq_true hc27;refine sk hK24 ?_;clear hK24 K24;refine seqJH (TA 5 (TA 6 (TA 7 KeepsT.nil))) (fun(z:Unit)=>[]) (fun z=>H) (fun z=>Z30_j28 s7_23 ((Z30_l22 x10 x11 n22)) =some r) ?_ ?_
     ·intro K28 hK28;refine block ?_;refine seqR (S Mv (S Mv ?_));obtain⟨x30,gx30,hE⟩:=bO hE;refine S (ix Z2.c s7_23 gx30) (S Ld ?_);obtain⟨x31,gx31,hE⟩:=bO hE;refine Sc rfl rfl (Z94_walk gx31) ?_;refine Sl ?_;refine Sf ?_;refine nil ?_;refine freezeA 8 _ rfl (KA 5 (KA 6 (KA 7 Keeps.nil))) ?_;refine seqR (S As (nil ?_));refine seqJH (TA 5 (TA 6 (TA 7 KeepsT.nil))) (fun(z:Bool)=>[(9,.a (.d (.bool z)))]) (fun z=>H) (fun z=>Z30_j33 s7_23 ((Z30_l22 x10 x11 n22)) z=some r) ?_ ?_
      ·intro K33 hK33;refine seqR (S As (nil ?_));refine block ?_;refine loopH (TA 5 (TA 6 (TA 7 (TA 8 KeepsT.nil)))) (fun(z:Nat×Bool×Nat)=>[(9,.a (.d (.bool z.2.1))),(10,.a (.d (.int .i64 ((z.2.2:Nat):Int))))]) (fun z=>H) (fun z=>z.1) (fun z=>Z30_l39 x11 s7_23 x31 ((Z30_l22 x10 x11 n22)) z.1 z.2.1 z.2.2=some r) ((x11.l.length+1),false,0) hE Weak.toA ?_;rintro ⟨n39,s9_40,s10_41⟩ hE K39 hK39;try dsimp only at hE
       cases n39 with
       | zero=>cases hE
       | succ n39 =>
         rw [Z30_l39] at hE;refine seqK fun K42 hK42=>?_;refine seqR (S Mv (S Mv ?_));refine sLen (f:=Z2.c) (s:=x11) (TK rfl) rfl rfl rfl rfl fun hL44=>?_;refine S BI (nil ?_);refine cE hE (fun hc45 hE=>?_) (fun hc45 hE=>?_)
         ·try dsimp only at hc45
          have hf45:=of_decide_eq_true hc45;refine sk hK42 ?_;clear hK42 K42;refine seqK fun K46 hK46=>?_;refine block ?_;refine AWp.draw rfl ?_;refine Sd Mv (Sd Mv (G0d Mv (G0d Mv ?_)));obtain⟨x47,gx47,hE⟩:=gO hE;refine DOps.gC rfl rfl (fun hC=>ungdA (k:=55) rfl (ungdA (k:=56) rfl (idxMn (f:=Z2.c) (n:=s10_41) (TK rfl) rfl (TK rfl) rfl rfl rfl (gx47 hC)))) rfl ?_;refine G1d 57 rfl Ld ?_;refine G0d Ld ?_
          refine DOps.gC rfl rfl (fun hC=>ungdA (k:=58) rfl (ungdA (k:=59) rfl (eqStruct eqt_36 rfl rfl rfl rfl))) rfl ?_;refine Sd PO (Sd As ?_);refine DOps.nil (by decide +kernel) ?_;refine hK46 _ ?_;clear hK46 K46;refine region ?_;refine S Mv ?_;refine SI ?_;refine S As (nil ?_);exact hK39 _ (n39,(s9_40||(decide (x47.FKind=x31.FKind)&&((x47.FType==x31.FType)&&((x47.FField==x31.FField)&&((x47.FArg==x31.FArg)&&((x47.FFrom==x31.FFrom)&&((x47.FTo==x31.FTo)&&true))))))),(s10_41+1)) Weak.toA hE (Nat.lt_succ_self _)
         refine AWp.exit ?_;exact hK33 _ s9_40 Weak.toA hE
      rintro s9_34 hE;try dsimp only at hE
      unfold Z30_j33 at hE;refine seqR (S Mv (S NB (nil ?_)));refine cE hE (fun hc36 hE=>?_) (fun hc36 hE=>?_)
      ·refine seqR (S As (nil ?_));exact rt hE
      refine AWp.skip ?_;exact hK28 _ () Weak.toA hE
     rintro _ hE;try dsimp only at hE
     unfold Z30_j28 at hE;refine region ?_;refine S Mv ?_;refine SI ?_;refine S As (nil ?_);exact hK22 _ (n22,(s7_23+1)) Weak.toA hE (Nat.lt_succ_self _)
    refine AWp.exit ?_;exact hK18 _ () Weak.toA hE
 rintro _ hE;try dsimp only at hE
 unfold Z30_j18 at hE;refine seqR ?_;obtain⟨x20,gx20,hE⟩:=bO hE;refine s0 (callR rfl rfl (Z31_walk (gT:=gT) (oT:=oT) gx20 _ hpG (by assumption))) rfl ?_;refine S As (nil ?_);exact rt hE
end
end Go.Proofs

namespace Go.Proofs
open Go Go.Ab
def Z37_q (a0:Int):Bool:=((((decide ((65:Int)<=a0))&&(decide (a0<=(90:Int))))||((decide ((97:Int)<=a0))&&(decide (a0<=(122:Int)))))||(decide (a0=(95:Int))))
theorem Z37_eq (a0:Int):Z37 a0=some (Z37_q a0):=by
 unfold Z37 Z37_q;all_goals rfl
def Z36_q (a0:Int):Bool:=((decide ((48:Int)<=a0))&&(decide (a0<=(57:Int))))
theorem Z36_eq (a0:Int):Z36 a0=some (Z36_q a0):=by
 unfold Z36 Z36_q;all_goals rfl
def Z34_q10 :List UInt8->Nat->Unit ⊕ Bool
 | [],s3_11=>Sum.inl ()
 | h10::r10,s3_11=>on (h10) fun x18=>on (Z37_q ((x18.toNat:Nat):Int)) fun x19=>on (bif ((!x19)&&!(decide (((s3_11:Nat):Int)=(0:Int)))) then h10 else(0:UInt8)) fun x20=>on (bif ((!x19)&&!(decide (((s3_11:Nat):Int)=(0:Int)))) then Z36_q ((x20.toNat:Nat):Int) else false) fun x21=>bif ((!x19)&&((decide (((s3_11:Nat):Int)=(0:Int)))||(!x21))) then(Sum.inr false) else(Z34_q10  (r10) (s3_11+1) )
theorem Z34_l10_qe {a0:Bs}  (Kb10:(Unit ⊕ Bool)->Option Bool) (hend:∀(n10:Nat) (s3_11:Nat),Z34_j7   =Kb10 (Sum.inl ())) (hret:∀e:Bool,some e=Kb10 (Sum.inr e)):∀(n10:Nat) (s3_11:Nat),(0<n10/\a0.length<s3_11+n10)->Z34_l10 a0 n10 s3_11=Kb10 (Z34_q10  (a0.drop s3_11) s3_11 ):=by
 intro n10;induction n10 with
 | zero=>intro s3_11 hn; exact absurd hn.1 (by omega)
 | succ n10 ih10 =>
  intro s3_11 hn;rw [Z34_l10];by_cases hlt:s3_11<a0.length
  ·obtain⟨h10,hh10⟩:=Qa hlt;rw [Q.drop_of hh10,Z34_q10];refine QT hlt ?_;refine Q.bindP hh10 fun x18 hx_x18=>?_;refine Q.bindP (Z37_eq _) fun x19 hx_x19=>?_;refine Q.guardP hh10 fun x20 hx_x20=>?_;refine Q.guardP (Z36_eq _) fun x21 hx_x21=>?_;refine Q.condP ?_ ?_
   ·all_goals exact hret _
   all_goals exact ih10 _ ⟨by omega,by omega⟩
  rw [dL (by omega),Z34_q10];refine QF hlt ?_;exact hend n10 s3_11
def Z34_q (a0:Bs):Bool:=bif ((decide (((a0.length:Nat):Int)<(1:Int)))||(decide ((64:Int)<((a0.length:Nat):Int)))) then(false) else(on (Z34_q10  a0 0 ) fun o10=>match o10 with|Sum.inl _=>(on (()) fun _=>true)|Sum.inr e10=>(e10))
theorem Z34_eq (a0:Bs):Z34 a0=some (Z34_q a0):=by
 unfold Z34 Z34_q;refine Q.condP ?_ ?_
 ·all_goals rfl
 refine Q.wrapPP fun Kb10 hKb10=>?_;refine Z34_l10_qe  Kb10 ?_ ?_ _ _ ⟨Nat.succ_pos _,by omega⟩
 ·intro n10 s3_11;refine Qe (hKb10 _) ?_;try dsimp only
  refine Q.wrapPP fun Kj7 hKj7=>?_;have hj7:Z34_j7  =Kj7 ():=by
   refine Qe (hKj7 _) ?_;unfold Z34_j7;all_goals rfl
  all_goals exact hj7
 intro e10;refine Qe (hKb10 _) ?_;try dsimp only
 all_goals rfl
def Z40_q7 (k_rec_160:Z7->Option Int):List Z7->Int->Option (Int)
 | [],s3_8=>some s3_8
 | h7::r7,s3_8=>on (h7) fun x15=>(k_rec_160 x15).bind fun x16=>(addC s3_8 x16).bind fun x17=>Z40_q7 k_rec_160 (r7) x17
theorem Z40_l7_qe {a0:Z7}{k_rec_160:Z7->Option Int}  (Kb7:(Int)->Option Int) (hend:∀(n7:Nat) (s3_8:Int) (s4_9:Nat),Z40_j3   s3_8=Kb7 s3_8):∀(n7:Nat) (s3_8:Int) (s4_9:Nat),(0<n7/\a0.FItems.l.length<s4_9+n7)->Z40_l7 a0 k_rec_160 n7 s3_8 s4_9=Option.bind (Z40_q7 k_rec_160 (a0.FItems.l.drop s4_9) s3_8) Kb7:=by
 intro n7;induction n7 with
 | zero=>intro s3_8 s4_9 hn; exact absurd hn.1 (by omega)
 | succ n7 ih7 =>
  intro s3_8 s4_9 hn;rw [Z40_l7];by_cases hlt:s4_9<a0.FItems.l.length
  ·obtain⟨h7,hh7⟩:=Qa hlt;rw [Q.drop_of hh7,Z40_q7];refine QT hlt ?_;refine Q.bindPO hh7 fun x15 hx_x15=>?_;refine Q.bindO rfl fun x16=>?_;refine Q.bindO rfl fun x17=>?_;all_goals exact ih7 _ _ ⟨by omega,by omega⟩
  rw [dL (by omega),Z40_q7];refine QF hlt ?_;exact hend n7 s3_8 s4_9
def Z40_qn:Nat->Z7->Option Int
 | 0,_=>none
 | n+1,a0=>Option.bind (Z40_q7 (Z40_qn n) a0.FItems.l (1:Int)) fun s3_8=>on (s3_8) fun s3_4=>some s3_4
theorem Z40_qall:∀n:Nat,Z40_n n=Z40_qn n:=by
 intro n;induction n with
 | zero=>exact(by funext a0; first|rfl|(rw [Z40_n,Z40_qn]))
 | succ n ih =>
  funext a0
  refine Qs ?_;rw [Z40_n,Z40_qn];try rw [ih]
  refine Q.wrapOO fun Kb7 hKb7=>?_;refine Z40_l7_qe  Kb7 ?_ _ _ _ ⟨Nat.succ_pos _,by omega⟩;intro n7 s3_8 s4_9;refine Qe (hKb7 _) ?_;refine Q.wrapPO fun Kj3 hKj3=>?_;have hj3:∀(s3_4:Int),Z40_j3  s3_4=Kj3 s3_4:=by
   intro s3_4;refine Qe (hKj3 _) ?_;unfold Z40_j3;all_goals rfl
  all_goals exact hj3 _
def Z40_q (a0:Z7):Option Int:=Z40_qn F0 a0
theorem Z40_eq (a0:Z7):Z40 a0=Z40_q a0:=by
 unfold Z40 Z40_q; rw [(Z40_qall F0)]
def Z38_q8 (k_rec_161:Z7->Option Int):List Z7->Int->Option (Int)
 | [],s3_9=>some s3_9
 | h8::r8,s3_9=>on (h8) fun x16=>(k_rec_161 x16).bind fun x17=>Z38_q8 k_rec_161 (r8) (if x17>s3_9 then x17 else s3_9)
theorem Z38_l8_qe {a0:Z7}{k_rec_161:Z7->Option Int}  (Kb8:(Int)->Option Int) (hend:∀(n8:Nat) (s3_9:Int) (s4_10:Nat),Z38_j3   s3_9=Kb8 s3_9):∀(n8:Nat) (s3_9:Int) (s4_10:Nat),(0<n8/\a0.FItems.l.length<s4_10+n8)->Z38_l8 a0 k_rec_161 n8 s3_9 s4_10=Option.bind (Z38_q8 k_rec_161 (a0.FItems.l.drop s4_10) s3_9) Kb8:=by
 intro n8;induction n8 with
 | zero=>intro s3_9 s4_10 hn; exact absurd hn.1 (by omega)
 | succ n8 ih8 =>
  intro s3_9 s4_10 hn;rw [Z38_l8];by_cases hlt:s4_10<a0.FItems.l.length
  ·obtain⟨h8,hh8⟩:=Qa hlt;rw [Q.drop_of hh8,Z38_q8];refine QT hlt ?_;refine Q.bindPO hh8 fun x16 hx_x16=>?_;refine Q.bindO rfl fun x17=>?_;all_goals exact ih8 _ _ ⟨by omega,by omega⟩
  rw [dL (by omega),Z38_q8];refine QF hlt ?_;exact hend n8 s3_9 s4_10
def Z38_qn:Nat->Z7->Option Int
 | 0,_=>none
 | n+1,a0=>Option.bind (Z38_q8 (Z38_qn n) a0.FItems.l (0:Int)) fun s3_9=>on (s3_9) fun s3_4=>(addC s3_4 (1:Int)).bind fun x6=>some x6
theorem Z38_qall:∀n:Nat,Z38_n n=Z38_qn n:=by
 intro n;induction n with
 | zero=>exact(by funext a0; first|rfl|(rw [Z38_n,Z38_qn]))
 | succ n ih =>
  funext a0
  refine Qs ?_;rw [Z38_n,Z38_qn];try rw [ih]
  refine Q.wrapOO fun Kb8 hKb8=>?_;refine Z38_l8_qe  Kb8 ?_ _ _ _ ⟨Nat.succ_pos _,by omega⟩;intro n8 s3_9 s4_10;refine Qe (hKb8 _) ?_;refine Q.wrapPO fun Kj3 hKj3=>?_;have hj3:∀(s3_4:Int),Z38_j3  s3_4=Kj3 s3_4:=by
   intro s3_4;refine Qe (hKj3 _) ?_;unfold Z38_j3;refine Q.bindO rfl fun x6=>?_;all_goals rfl
  all_goals exact hj3 _
def Z38_q (a0:Z7):Option Int:=Z38_qn F0 a0
theorem Z38_eq (a0:Z7):Z38 a0=Z38_q a0:=by
 unfold Z38 Z38_q; rw [(Z38_qall F0)]
def Z42_q13 (a0:(Sl Bs)) (h5:Bs):Nat->Nat->Option (Unit ⊕ Bool)
 | 0,s4_14=>some (Sum.inl ())
 | r13+1,s4_14=>on (h5) fun x20=>(a0.l[s4_14]?).bind fun x21=>bif ((x20==x21)) then(some (Sum.inr true)) else(Z42_q13 a0 h5 (r13) (s4_14+1) )
theorem Z42_l13_qe {a0:(Sl Bs)}{s3_6:Nat}{k_next_5:Nat->Option Bool}{h5:Bs}(hh5:a0.l[s3_6]?=some h5) (Kb13:(Unit ⊕ Bool)->Option Bool) (hend:∀(n13:Nat) (s4_14:Nat),Z42_j11 s3_6 k_next_5 =Kb13 (Sum.inl ())) (hret:∀e:Bool,some e=Kb13 (Sum.inr e)):∀(n13:Nat) (s4_14:Nat),(0<n13/\s3_6<s4_14+n13)->Z42_l13 a0 s3_6 k_next_5 n13 s4_14=Option.bind (Z42_q13 a0 h5 (s3_6-s4_14) s4_14 ) Kb13:=by
 intro n13;induction n13 with
 | zero=>intro s4_14 hn; exact absurd hn.1 (by omega)
 | succ n13 ih13 =>
  intro s4_14 hn;rw [Z42_l13];by_cases hlt:s4_14<s3_6
  ·rw [show s3_6-s4_14=(s3_6-(s4_14+1))+1 by omega,Z42_q13];refine QT hlt ?_;refine Q.bindPO hh5 fun x20 hx_x20=>?_;refine Q.bindO rfl fun x21=>?_;refine Q.condO ?_ ?_
   ·all_goals exact hret _
   all_goals exact ih13 _ ⟨by omega,by omega⟩
  rw [show s3_6-s4_14=0 by omega,Z42_q13];refine QF hlt ?_;exact hend n13 s4_14
def Z42_q5 (a0:(Sl Bs)):List Bs->Nat->Option (Unit ⊕ Bool)
 | [],s3_6=>some (Sum.inl ())
 | h5::r5,s3_6=>Option.bind (Z42_q13 a0 h5 s3_6 0 ) fun o13=>match o13 with|Sum.inl _=>(on (()) fun _=>Z42_q5 a0 (r5) (s3_6+1) )|Sum.inr e13=>(some (Sum.inr e13))
theorem Z42_l5_qe {a0:(Sl Bs)}  (Kb5:(Unit ⊕ Bool)->Option Bool) (hend:∀(n5:Nat) (s3_6:Nat),Z42_j2   =Kb5 (Sum.inl ())) (hret:∀e:Bool,some e=Kb5 (Sum.inr e)):∀(n5:Nat) (s3_6:Nat),(0<n5/\a0.l.length<s3_6+n5)->Z42_l5 a0 n5 s3_6=Option.bind (Z42_q5 a0 (a0.l.drop s3_6) s3_6 ) Kb5:=by
 intro n5;induction n5 with
 | zero=>intro s3_6 hn; exact absurd hn.1 (by omega)
 | succ n5 ih5 =>
  intro s3_6 hn;rw [Z42_l5];by_cases hlt:s3_6<a0.l.length
  ·obtain⟨h5,hh5⟩:=Qa hlt;rw [Q.drop_of hh5,Z42_q5];refine QT hlt ?_;refine Q.wrapOO fun Kb13 hKb13=>?_;refine Z42_l13_qe hh5 Kb13 ?_ ?_ _ _ ⟨Nat.succ_pos _,by omega⟩
   ·intro n13 s4_14;refine Qe (hKb13 _) ?_;try dsimp only
    refine Q.wrapPO fun Kj11 hKj11=>?_;have hj11:Z42_j11 s3_6 (Z42_l5 a0 n5) =Kj11 ():=by
     refine Qe (hKj11 _) ?_;unfold Z42_j11;all_goals exact ih5 _ ⟨by omega,by omega⟩
    all_goals exact hj11
   intro e13;refine Qe (hKb13 _) ?_;try dsimp only
   all_goals exact hret _
  rw [dL (by omega),Z42_q5];refine QF hlt ?_;exact hend n5 s3_6
def Z42_q (a0:(Sl Bs)):Option Bool:=Option.bind (Z42_q5 a0 a0.l 0 ) fun o5=>match o5 with|Sum.inl _=>(on (()) fun _=>some false)|Sum.inr e5=>(some e5)
theorem Z42_eq (a0:(Sl Bs)):Z42 a0=Z42_q a0:=by
 unfold Z42 Z42_q;refine Qs ?_;refine Q.wrapOO fun Kb5 hKb5=>?_;refine Z42_l5_qe  Kb5 ?_ ?_ _ _ ⟨Nat.succ_pos _,by omega⟩
 ·intro n5 s3_6;refine Qe (hKb5 _) ?_;try dsimp only
  refine Q.wrapPO fun Kj2 hKj2=>?_;have hj2:Z42_j2  =Kj2 ():=by
   refine Qe (hKj2 _) ?_;unfold Z42_j2;all_goals rfl
  all_goals exact hj2
 intro e5;refine Qe (hKb5 _) ?_;try dsimp only
 all_goals rfl
def Z41_q (a0:Z7) (a1:Bool):Option Bool:=bif (decide (a0.FKind=(0:Int))) then(some ((((decide (a0.FInt=(0:Int)))&&((a0.FText==([]:Bs))))&&(decide (((a0.FItems.l.length:Nat):Int)=(0:Int))))&&(decide (((a0.FKeys.l.length:Nat):Int)=(0:Int))))) else(bif (decide (a0.FKind=(1:Int))) then(some (((((decide (a0.FInt=(0:Int)))||(decide (a0.FInt=(1:Int))))&&((a0.FText==([]:Bs))))&&(decide (((a0.FItems.l.length:Nat):Int)=(0:Int))))&&(decide (((a0.FKeys.l.length:Nat):Int)=(0:Int))))) else(bif (decide (a0.FKind=(2:Int))) then(some ((((a0.FText==([]:Bs)))&&(decide (((a0.FItems.l.length:Nat):Int)=(0:Int))))&&(decide (((a0.FKeys.l.length:Nat):Int)=(0:Int))))) else(bif (decide (a0.FKind=(3:Int))) then(some (((decide (a0.FInt=(0:Int)))&&(decide (((a0.FItems.l.length:Nat):Int)=(0:Int))))&&(decide (((a0.FKeys.l.length:Nat):Int)=(0:Int))))) else(bif (decide (a0.FKind=(4:Int))) then(on (bif (((decide (a0.FInt=(0:Int)))&&(decide (((a0.FItems.l.length:Nat):Int)=(0:Int))))&&(decide (((a0.FKeys.l.length:Nat):Int)=(0:Int)))) then Z34_q a0.FText else false) fun x19=>some (((((((decide (a0.FInt=(0:Int)))&&(decide (((a0.FItems.l.length:Nat):Int)=(0:Int))))&&(decide (((a0.FKeys.l.length:Nat):Int)=(0:Int))))&&x19)&&(!(a0.FText==([116,114,117,101]:Bs))))&&(!(a0.FText==([102,97,108,115,101]:Bs))))&&(!(a0.FText==([110,117,108,108]:Bs))))) else(bif (decide (a0.FKind=(5:Int))) then(some (((decide (a0.FInt=(0:Int)))&&((a0.FText==([]:Bs))))&&(decide (((a0.FKeys.l.length:Nat):Int)=(0:Int))))) else(bif (decide (a0.FKind=(6:Int))) then(guardO ((((decide (a0.FInt=(0:Int)))&&((a0.FText==([]:Bs))))&&(decide (((a0.FKeys.l.length:Nat):Int)=((a0.FItems.l.length:Nat):Int))))) (Z42_q a0.FKeys) false fun x26=>some ((((decide (a0.FInt=(0:Int)))&&((a0.FText==([]:Bs))))&&(decide (((a0.FKeys.l.length:Nat):Int)=((a0.FItems.l.length:Nat):Int))))&&(!x26))) else(bif (decide (a0.FKind=(7:Int))) then(on (bif (((a1&&(decide (a0.FInt=(0:Int))))&&(decide (((a0.FItems.l.length:Nat):Int)=(0:Int))))&&(decide (((a0.FKeys.l.length:Nat):Int)=(0:Int)))) then Z34_q a0.FText else false) fun x30=>some ((((a1&&(decide (a0.FInt=(0:Int))))&&(decide (((a0.FItems.l.length:Nat):Int)=(0:Int))))&&(decide (((a0.FKeys.l.length:Nat):Int)=(0:Int))))&&x30)) else(some false))))))))
theorem Z41_eq (a0:Z7) (a1:Bool):Z41 a0 a1=Z41_q a0 a1:=by
 unfold Z41 Z41_q;refine Qs ?_;refine Q.condO ?_ ?_
 ·all_goals rfl
 refine Q.condO ?_ ?_
 ·all_goals rfl
 refine Q.condO ?_ ?_
 ·all_goals rfl
 refine Q.condO ?_ ?_
 ·all_goals rfl
 refine Q.condO ?_ ?_
 ·refine Q.guardPO (Z34_eq _) fun x19 hx_x19=>?_;all_goals rfl
 refine Q.condO ?_ ?_
 ·all_goals rfl
 refine Q.condO ?_ ?_
 ·refine Q.guardOO (Z42_eq _) fun x26=>?_;all_goals rfl
 refine Q.condO ?_ ?_
 ·refine Q.guardPO (Z34_eq _) fun x30 hx_x30=>?_;all_goals rfl
 all_goals rfl
def Z43_q24 (a1:Bool):List Bs->Unit ⊕ Bool
 | []=>Sum.inl ()
 | h24::r24=>on (bif a1 then h24 else([]:Bs)) fun x32=>on (bif a1 then Z34_q x32 else false) fun x33=>bif (a1&&(!x33)) then(Sum.inr false) else(Z43_q24 a1 (r24) )
theorem Z43_l24_qe {a0:Z7}{a1:Bool}{k_rec_162:Z7->Bool->Option Bool}  (Kb24:(Unit ⊕ Bool)->Option Bool) (hend:∀(n24:Nat) (s5_25:Nat),Z43_j7 a0 a1 k_rec_162 =Kb24 (Sum.inl ())) (hret:∀e:Bool,some e=Kb24 (Sum.inr e)):∀(n24:Nat) (s5_25:Nat),(0<n24/\a0.FKeys.l.length<s5_25+n24)->Z43_l24 a0 a1 k_rec_162 n24 s5_25=Kb24 (Z43_q24 a1 (a0.FKeys.l.drop s5_25) ):=by
 intro n24;induction n24 with
 | zero=>intro s5_25 hn; exact absurd hn.1 (by omega)
 | succ n24 ih24 =>
  intro s5_25 hn;rw [Z43_l24];by_cases hlt:s5_25<a0.FKeys.l.length
  ·obtain⟨h24,hh24⟩:=Qa hlt;rw [Q.drop_of hh24,Z43_q24];refine QT hlt ?_;refine Q.guardP hh24 fun x32 hx_x32=>?_;refine Q.guardP (Z34_eq _) fun x33 hx_x33=>?_;refine Q.condP ?_ ?_
   ·all_goals exact hret _
   all_goals exact ih24 _ ⟨by omega,by omega⟩
  rw [dL (by omega),Z43_q24];refine QF hlt ?_;exact hend n24 s5_25
def Z43_q11 (a1:Bool) (k_rec_162:Z7->Bool->Option Bool):List Z7->Option (Unit ⊕ Bool)
 | []=>some (Sum.inl ())
 | h11::r11=>on (h11) fun x19=>(k_rec_162 x19 a1).bind fun x20=>bif (!x20) then(some (Sum.inr false)) else(Z43_q11 a1 k_rec_162 (r11) )
theorem Z43_l11_qe {a0:Z7}{a1:Bool}{k_rec_162:Z7->Bool->Option Bool}  (Kb11:(Unit ⊕ Bool)->Option Bool) (hend:∀(n11:Nat) (s6_12:Nat),Z43_j8   =Kb11 (Sum.inl ())) (hret:∀e:Bool,some e=Kb11 (Sum.inr e)):∀(n11:Nat) (s6_12:Nat),(0<n11/\a0.FItems.l.length<s6_12+n11)->Z43_l11 a0 a1 k_rec_162 n11 s6_12=Option.bind (Z43_q11 a1 k_rec_162 (a0.FItems.l.drop s6_12) ) Kb11:=by
 intro n11;induction n11 with
 | zero=>intro s6_12 hn; exact absurd hn.1 (by omega)
 | succ n11 ih11 =>
  intro s6_12 hn;rw [Z43_l11];by_cases hlt:s6_12<a0.FItems.l.length
  ·obtain⟨h11,hh11⟩:=Qa hlt;rw [Q.drop_of hh11,Z43_q11];refine QT hlt ?_;refine Q.bindPO hh11 fun x19 hx_x19=>?_;refine Q.bindO rfl fun x20=>?_;refine Q.condO ?_ ?_
   ·all_goals exact hret _
   all_goals exact ih11 _ ⟨by omega,by omega⟩
  rw [dL (by omega),Z43_q11];refine QF hlt ?_;exact hend n11 s6_12
def Z43_qn:Nat->Z7->Bool->Option Bool
 | 0,_,_=>none
 | n+1,a0,a1=>(Z41_q a0 a1).bind fun x4=>bif (!x4) then(some false) else(on (Z43_q24 a1 a0.FKeys.l ) fun o24=>match o24 with|Sum.inl _=>(on (()) fun _=>Option.bind (Z43_q11 a1 (Z43_qn n) a0.FItems.l ) fun o11=>match o11 with|Sum.inl _=>(on (()) fun _=>some true)|Sum.inr e11=>(some e11))|Sum.inr e24=>(some e24))
theorem Z43_qall:∀n:Nat,Z43_n n=Z43_qn n:=by
 intro n;induction n with
 | zero=>exact(by funext a0 a1; first|rfl|(rw [Z43_n,Z43_qn]))
 | succ n ih =>
  funext a0 a1
  refine Qs ?_;rw [Z43_n,Z43_qn];try rw [ih]
  refine Q.bindO (Z41_eq _ _) fun x4=>?_;refine Q.condO ?_ ?_
  ·all_goals rfl
  refine Q.wrapPO fun Kb24 hKb24=>?_;refine Z43_l24_qe  Kb24 ?_ ?_ _ _ ⟨Nat.succ_pos _,by omega⟩
  ·intro n24 s5_25;refine Qe (hKb24 _) ?_;try dsimp only
   refine Q.wrapPO fun Kj7 hKj7=>?_;have hj7:Z43_j7 a0 a1 (Z43_qn n) =Kj7 ():=by
    refine Qe (hKj7 _) ?_;unfold Z43_j7;refine Q.wrapOO fun Kb11 hKb11=>?_;refine Z43_l11_qe  Kb11 ?_ ?_ _ _ ⟨Nat.succ_pos _,by omega⟩
    ·intro n11 s6_12;refine Qe (hKb11 _) ?_;try dsimp only
     refine Q.wrapPO fun Kj8 hKj8=>?_;have hj8:Z43_j8  =Kj8 ():=by
      refine Qe (hKj8 _) ?_;unfold Z43_j8;all_goals rfl
     all_goals exact hj8
    intro e11;refine Qe (hKb11 _) ?_;try dsimp only
    all_goals rfl
   all_goals exact hj7
  intro e24;refine Qe (hKb24 _) ?_;try dsimp only
  all_goals rfl
def Z43_q (a0:Z7) (a1:Bool):Option Bool:=Z43_qn F0 a0 a1
theorem Z43_eq (a0:Z7) (a1:Bool):Z43 a0 a1=Z43_q a0 a1:=by
 unfold Z43 Z43_q; rw [(Z43_qall F0)]
def Z39_q (a0:Z7):Option Bool:=(Z40_q a0).bind fun x3=>guardO ((decide (x3<=(4096:Int)))) (Z38_q a0) (0:Int) fun x4=>guardO (((decide (x3<=(4096:Int)))&&(decide (x4<=(24:Int))))) (Z43_q a0 true) false fun x5=>some (((decide (x3<=(4096:Int)))&&(decide (x4<=(24:Int))))&&x5)
theorem Z39_eq (a0:Z7):Z39 a0=Z39_q a0:=by
 unfold Z39 Z39_q;refine Qs ?_;refine Q.bindO (Z40_eq _) fun x3=>?_;refine Q.guardOO (Z38_eq _) fun x4=>?_;refine Q.guardOO (Z43_eq _ _) fun x5=>?_;all_goals rfl
def Z55_q5 (k_rec_157:Z7->Option Bool):List Z7->Option (Unit ⊕ Bool)
 | []=>some (Sum.inl ())
 | h5::r5=>on (h5) fun x13=>(k_rec_157 x13).bind fun x14=>bif (!x14) then(some (Sum.inr false)) else(Z55_q5 k_rec_157 (r5) )
theorem Z55_l5_qe {a0:Z7}{k_rec_157:Z7->Option Bool}  (Kb5:(Unit ⊕ Bool)->Option Bool) (hend:∀(n5:Nat) (s3_6:Nat),Z55_j2 a0  =Kb5 (Sum.inl ())) (hret:∀e:Bool,some e=Kb5 (Sum.inr e)):∀(n5:Nat) (s3_6:Nat),(0<n5/\a0.FItems.l.length<s3_6+n5)->Z55_l5 a0 k_rec_157 n5 s3_6=Option.bind (Z55_q5 k_rec_157 (a0.FItems.l.drop s3_6) ) Kb5:=by
 intro n5;induction n5 with
 | zero=>intro s3_6 hn; exact absurd hn.1 (by omega)
 | succ n5 ih5 =>
  intro s3_6 hn;rw [Z55_l5];by_cases hlt:s3_6<a0.FItems.l.length
  ·obtain⟨h5,hh5⟩:=Qa hlt;rw [Q.drop_of hh5,Z55_q5];refine QT hlt ?_;refine Q.bindPO hh5 fun x13 hx_x13=>?_;refine Q.bindO rfl fun x14=>?_;refine Q.condO ?_ ?_
   ·all_goals exact hret _
   all_goals exact ih5 _ ⟨by omega,by omega⟩
  rw [dL (by omega),Z55_q5];refine QF hlt ?_;exact hend n5 s3_6
def Z55_qn:Nat->Z7->Option Bool
 | 0,_=>none
 | n+1,a0=>Option.bind (Z55_q5 (Z55_qn n) a0.FItems.l ) fun o5=>match o5 with|Sum.inl _=>(on (()) fun _=>some (!decide (a0.FKind=(7:Int))))|Sum.inr e5=>(some e5)
theorem Z55_qall:∀n:Nat,Z55_n n=Z55_qn n:=by
 intro n;induction n with
 | zero=>exact(by funext a0; first|rfl|(rw [Z55_n,Z55_qn]))
 | succ n ih =>
  funext a0
  refine Qs ?_;rw [Z55_n,Z55_qn];try rw [ih]
  refine Q.wrapOO fun Kb5 hKb5=>?_;refine Z55_l5_qe  Kb5 ?_ ?_ _ _ ⟨Nat.succ_pos _,by omega⟩
  ·intro n5 s3_6;refine Qe (hKb5 _) ?_;try dsimp only
   refine Q.wrapPO fun Kj2 hKj2=>?_;have hj2:Z55_j2 a0 =Kj2 ():=by
    refine Qe (hKj2 _) ?_;unfold Z55_j2;all_goals rfl
   all_goals exact hj2
  intro e5;refine Qe (hKb5 _) ?_;try dsimp only
  all_goals rfl
def Z55_q (a0:Z7):Option Bool:=Z55_qn F0 a0
theorem Z55_eq (a0:Z7):Z55 a0=Z55_q a0:=by
 unfold Z55 Z55_q; rw [(Z55_qall F0)]
def Z57_q25 (h10:TDir):List TArg->Option (Unit ⊕ Bool)
 | []=>some (Sum.inl ())
 | h25::r25=>on (h10) fun x34=>on (h25) fun x35=>on (Z34_q x35.FName) fun x37=>guardO (!(!x37)) (Z39_q x35.FValue) false fun x38=>guardO (!((!x37)||(!x38))) (Z55_q x35.FValue) false fun x39=>bif (((!x37)||(!x38))||(!x39)) then(some (Sum.inr false)) else(Z57_q25 h10 (r25) )
theorem Z57_l25_qe {a0:(Sl TDir)}{s3_11:Nat}{k_next_10:Nat->Option Bool}{h10:TDir}(hh10:a0.l[s3_11]?=some h10) (Kb25:(Unit ⊕ Bool)->Option Bool) (hend:∀(n25:Nat) (s4_26:Nat),Z57_j16 s3_11 k_next_10 =Kb25 (Sum.inl ())) (hret:∀e:Bool,some e=Kb25 (Sum.inr e)):∀(n25:Nat) (s4_26:Nat),(0<n25/\h10.FArgs.l.length<s4_26+n25)->Z57_l25 a0 s3_11 k_next_10 n25 s4_26=Option.bind (Z57_q25 h10 (h10.FArgs.l.drop s4_26) ) Kb25:=by
 intro n25;induction n25 with
 | zero=>intro s4_26 hn; exact absurd hn.1 (by omega)
 | succ n25 ih25 =>
  intro s4_26 hn;rw [Z57_l25];refine Q.preB hh10 fun x29 hx_x29=>?_;subst hx_x29;by_cases hlt:s4_26<x29.FArgs.l.length
  ·obtain⟨h25,hh25⟩:=Qa hlt;rw [Q.drop_of hh25,Z57_q25];refine QT hlt ?_;refine Q.bindPO hh10 fun x34 hx_x34=>?_;refine Q.bindPO (by first|exact hh25|(simp only [hx_x34]; exact hh25)|(simp only [hx_x34] at hh25 ⊢; exact hh25)) fun x35 hx_x35=>?_;refine Q.bindPO (Z34_eq _) fun x37 hx_x37=>?_;refine Q.guardOO (Z39_eq _) fun x38=>?_;refine Q.guardOO (Z55_eq _) fun x39=>?_;refine Q.condO ?_ ?_
   ·all_goals exact hret _
   all_goals exact ih25 _ ⟨by omega,by omega⟩
  rw [dL (by omega),Z57_q25];refine QF hlt ?_;exact hend n25 s4_26
def Z57_q10 :List TDir->Option (Unit ⊕ Bool)
 | []=>some (Sum.inl ())
 | h10::r10=>on (h10) fun x19=>on (Z34_q x19.FName) fun x20=>on (bif !(!x20) then h10 else TDir.zero) fun x21=>bif ((!x20)||(decide ((16:Int)<((x21.FArgs.l.length:Nat):Int)))) then(some (Sum.inr false)) else(Option.bind (Z57_q25 h10 h10.FArgs.l ) fun o25=>match o25 with|Sum.inl _=>(on (()) fun _=>Z57_q10  (r10) )|Sum.inr e25=>(some (Sum.inr e25)))
theorem Z57_l10_qe {a0:(Sl TDir)}  (Kb10:(Unit ⊕ Bool)->Option Bool) (hend:∀(n10:Nat) (s3_11:Nat),Z57_j7   =Kb10 (Sum.inl ())) (hret:∀e:Bool,some e=Kb10 (Sum.inr e)):∀(n10:Nat) (s3_11:Nat),(0<n10/\a0.l.length<s3_11+n10)->Z57_l10 a0 n10 s3_11=Option.bind (Z57_q10  (a0.l.drop s3_11) ) Kb10:=by
 intro n10;induction n10 with
 | zero=>intro s3_11 hn; exact absurd hn.1 (by omega)
 | succ n10 ih10 =>
  intro s3_11 hn;rw [Z57_l10];by_cases hlt:s3_11<a0.l.length
  ·obtain⟨h10,hh10⟩:=Qa hlt;rw [Q.drop_of hh10,Z57_q10];refine QT hlt ?_;refine Q.bindPO hh10 fun x19 hx_x19=>?_;refine Q.bindPO (Z34_eq _) fun x20 hx_x20=>?_;refine Q.guardPO hh10 fun x21 hx_x21=>?_;refine Q.condO ?_ ?_
   ·all_goals exact hret _
   refine Q.wrapOO fun Kb25 hKb25=>?_;refine Z57_l25_qe hh10 Kb25 ?_ ?_ _ _ ⟨by rw [hh10]; exact Nat.succ_pos _,by rw [hh10]; simp only [Option.elim]; omega⟩
   ·intro n25 s4_26;refine Qe (hKb25 _) ?_;try dsimp only
    refine Q.wrapPO fun Kj16 hKj16=>?_;have hj16:Z57_j16 s3_11 (Z57_l10 a0 n10) =Kj16 ():=by
     refine Qe (hKj16 _) ?_;unfold Z57_j16;all_goals exact ih10 _ ⟨by omega,by omega⟩
    all_goals exact hj16
   intro e25;refine Qe (hKb25 _) ?_;try dsimp only
   all_goals exact hret _
  rw [dL (by omega),Z57_q10];refine QF hlt ?_;exact hend n10 s3_11
def Z57_q (a0:(Sl TDir)):Option Bool:=bif (decide ((16:Int)<((a0.l.length:Nat):Int))) then(some false) else(Option.bind (Z57_q10  a0.l ) fun o10=>match o10 with|Sum.inl _=>(on (()) fun _=>some true)|Sum.inr e10=>(some e10))
theorem Z57_eq (a0:(Sl TDir)):Z57 a0=Z57_q a0:=by
 unfold Z57 Z57_q;refine Qs ?_;refine Q.condO ?_ ?_
 ·all_goals rfl
 refine Q.wrapOO fun Kb10 hKb10=>?_;refine Z57_l10_qe  Kb10 ?_ ?_ _ _ ⟨Nat.succ_pos _,by omega⟩
 ·intro n10 s3_11;refine Qe (hKb10 _) ?_;try dsimp only
  refine Q.wrapPO fun Kj7 hKj7=>?_;have hj7:Z57_j7  =Kj7 ():=by
   refine Qe (hKj7 _) ?_;unfold Z57_j7;all_goals rfl
  all_goals exact hj7
 intro e10;refine Qe (hKb10 _) ?_;try dsimp only
 all_goals rfl
def Z49_q10 (a0:TRef):List Int->Nat->Option (Unit ⊕ Bool)
 | [],s3_11=>some (Sum.inl ())
 | h10::r10,s3_11=>on (h10) fun x19=>on (bif (!decide (x19=(1:Int))) then h10 else(0:Int)) fun x20=>bif ((!decide (x19=(1:Int)))&&(!decide (x20=(2:Int)))) then(some (Sum.inr false)) else(on (bif (decide ((0:Int)<((s3_11:Nat):Int))) then h10 else(0:Int)) fun x24=>guardO (((decide ((0:Int)<((s3_11:Nat):Int)))&&(decide (x24=(1:Int))))) (subC ((s3_11:Nat):Int) (1:Int)) (0:Int) fun x25=>guardO (((decide ((0:Int)<((s3_11:Nat):Int)))&&(decide (x24=(1:Int))))) (idxC a0.FWraps.l x25) (0:Int) fun x26=>bif (((decide ((0:Int)<((s3_11:Nat):Int)))&&(decide (x24=(1:Int))))&&(decide (x26=(1:Int)))) then(some (Sum.inr false)) else(Z49_q10 a0 (r10) (s3_11+1) ))
theorem Z49_l10_qe {a0:TRef}  (Kb10:(Unit ⊕ Bool)->Option Bool) (hend:∀(n10:Nat) (s3_11:Nat),Z49_j7   =Kb10 (Sum.inl ())) (hret:∀e:Bool,some e=Kb10 (Sum.inr e)):∀(n10:Nat) (s3_11:Nat),(0<n10/\a0.FWraps.l.length<s3_11+n10)->Z49_l10 a0 n10 s3_11=Option.bind (Z49_q10 a0 (a0.FWraps.l.drop s3_11) s3_11 ) Kb10:=by
 intro n10;induction n10 with
 | zero=>intro s3_11 hn; exact absurd hn.1 (by omega)
 | succ n10 ih10 =>
  intro s3_11 hn;rw [Z49_l10];by_cases hlt:s3_11<a0.FWraps.l.length
  ·obtain⟨h10,hh10⟩:=Qa hlt;rw [Q.drop_of hh10,Z49_q10];refine QT hlt ?_;refine Q.bindPO hh10 fun x19 hx_x19=>?_;refine Q.guardPO hh10 fun x20 hx_x20=>?_;refine Q.condO ?_ ?_
   ·all_goals exact hret _
   refine Q.guardPO hh10 fun x24 hx_x24=>?_;refine Q.guardOO rfl fun x25=>?_;refine Q.guardOO rfl fun x26=>?_;refine Q.condO ?_ ?_
   ·all_goals exact hret _
   all_goals exact ih10 _ ⟨by omega,by omega⟩
  rw [dL (by omega),Z49_q10];refine QF hlt ?_;exact hend n10 s3_11
def Z49_q (a0:TRef):Option Bool:=on (Z34_q a0.FName) fun x4=>bif ((!x4)||(decide ((24:Int)<((a0.FWraps.l.length:Nat):Int)))) then(some false) else(Option.bind (Z49_q10 a0 a0.FWraps.l 0 ) fun o10=>match o10 with|Sum.inl _=>(on (()) fun _=>some true)|Sum.inr e10=>(some e10))
theorem Z49_eq (a0:TRef):Z49 a0=Z49_q a0:=by
 unfold Z49 Z49_q;refine Qs ?_;refine Q.bindPO (Z34_eq _) fun x4 hx_x4=>?_;refine Q.condO ?_ ?_
 ·all_goals rfl
 refine Q.wrapOO fun Kb10 hKb10=>?_;refine Z49_l10_qe  Kb10 ?_ ?_ _ _ ⟨Nat.succ_pos _,by omega⟩
 ·intro n10 s3_11;refine Qe (hKb10 _) ?_;try dsimp only
  refine Q.wrapPO fun Kj7 hKj7=>?_;have hj7:Z49_j7  =Kj7 ():=by
   refine Qe (hKj7 _) ?_;unfold Z49_j7;all_goals rfl
  all_goals exact hj7
 intro e10;refine Qe (hKb10 _) ?_;try dsimp only
 all_goals rfl
def Z61_q (a0:Z7):Bool:=(((((decide (a0.FKind=(0:Int)))&&(decide (a0.FInt=(0:Int))))&&((a0.FText==([]:Bs))))&&(decide (((a0.FItems.l.length:Nat):Int)=(0:Int))))&&(decide (((a0.FKeys.l.length:Nat):Int)=(0:Int))))
theorem Z61_eq (a0:Z7):Z61 a0=some (Z61_q a0):=by
 unfold Z61 Z61_q;all_goals rfl
def Z59_q10 :List Z5->Option (Unit ⊕ Bool)
 | []=>some (Sum.inl ())
 | h10::r10=>on (h10) fun x18=>on (Z34_q x18.FName) fun x21=>guardO (!(!x21)) (Z49_q x18.FType) false fun x22=>guardO (!((!x21)||(!x22))) (Z57_q x18.FDirs) false fun x23=>bif (((!x21)||(!x22))||(!x23)) then(some (Sum.inr false)) else(guardO (x18.FHas) (Z39_q x18.FDefault) false fun x27=>guardO ((x18.FHas&&!(!x27))) (Z55_q x18.FDefault) false fun x28=>on (bif (!(x18.FHas&&((!x27)||(!x28)))&&(!x18.FHas)) then Z61_q x18.FDefault else false) fun x29=>bif ((x18.FHas&&((!x27)||(!x28)))||((!x18.FHas)&&(!x29))) then(some (Sum.inr false)) else(Z59_q10  (r10) ))
theorem Z59_l10_qe {a0:(Sl Z5)}  (Kb10:(Unit ⊕ Bool)->Option Bool) (hend:∀(n10:Nat) (s3_11:Nat),Z59_j7   =Kb10 (Sum.inl ())) (hret:∀e:Bool,some e=Kb10 (Sum.inr e)):∀(n10:Nat) (s3_11:Nat),(0<n10/\a0.l.length<s3_11+n10)->Z59_l10 a0 n10 s3_11=Option.bind (Z59_q10  (a0.l.drop s3_11) ) Kb10:=by
 intro n10;induction n10 with
 | zero=>intro s3_11 hn; exact absurd hn.1 (by omega)
 | succ n10 ih10 =>
  intro s3_11 hn;rw [Z59_l10];by_cases hlt:s3_11<a0.l.length
  ·obtain⟨h10,hh10⟩:=Qa hlt;rw [Q.drop_of hh10,Z59_q10];refine QT hlt ?_;refine Q.bindPO hh10 fun x18 hx_x18=>?_;refine Q.bindPO (Z34_eq _) fun x21 hx_x21=>?_;refine Q.guardOO (Z49_eq _) fun x22=>?_;refine Q.guardOO (Z57_eq _) fun x23=>?_;refine Q.condO ?_ ?_
   ·all_goals exact hret _
   refine Q.guardOO (Z39_eq _) fun x27=>?_;refine Q.guardOO (Z55_eq _) fun x28=>?_;refine Q.guardPO (Z61_eq _) fun x29 hx_x29=>?_;refine Q.condO ?_ ?_
   ·all_goals exact hret _
   all_goals exact ih10 _ ⟨by omega,by omega⟩
  rw [dL (by omega),Z59_q10];refine QF hlt ?_;exact hend n10 s3_11
def Z59_q (a0:(Sl Z5)):Option Bool:=bif (decide ((16:Int)<((a0.l.length:Nat):Int))) then(some false) else(Option.bind (Z59_q10  a0.l ) fun o10=>match o10 with|Sum.inl _=>(on (()) fun _=>some true)|Sum.inr e10=>(some e10))
theorem Z59_eq (a0:(Sl Z5)):Z59 a0=Z59_q a0:=by
 unfold Z59 Z59_q;refine Qs ?_;refine Q.condO ?_ ?_
 ·all_goals rfl
 refine Q.wrapOO fun Kb10 hKb10=>?_;refine Z59_l10_qe  Kb10 ?_ ?_ _ _ ⟨Nat.succ_pos _,by omega⟩
 ·intro n10 s3_11;refine Qe (hKb10 _) ?_;try dsimp only
  refine Q.wrapPO fun Kj7 hKj7=>?_;have hj7:Z59_j7  =Kj7 ():=by
   refine Qe (hKj7 _) ?_;unfold Z59_j7;all_goals rfl
  all_goals exact hj7
 intro e10;refine Qe (hKb10 _) ?_;try dsimp only
 all_goals rfl
def Z58_q10 :List Z4->Option (Unit ⊕ Bool)
 | []=>some (Sum.inl ())
 | h10::r10=>on (h10) fun x18=>on (Z34_q x18.FName) fun x19=>on (bif !(!x19) then h10 else Z4.zero) fun x20=>guardO (!(!x19)) (Z59_q x20.FArgs) false fun x21=>on (bif !((!x19)||(!x21)) then h10 else Z4.zero) fun x22=>guardO (!((!x19)||(!x21))) (Z49_q x22.FType) false fun x23=>on (bif !(((!x19)||(!x21))||(!x23)) then h10 else Z4.zero) fun x24=>guardO (!(((!x19)||(!x21))||(!x23))) (Z57_q x24.FDirs) false fun x25=>bif ((((!x19)||(!x21))||(!x23))||(!x25)) then(some (Sum.inr false)) else(Z58_q10  (r10) )
theorem Z58_l10_qe {a0:(Sl Z4)}  (Kb10:(Unit ⊕ Bool)->Option Bool) (hend:∀(n10:Nat) (s3_11:Nat),Z58_j7   =Kb10 (Sum.inl ())) (hret:∀e:Bool,some e=Kb10 (Sum.inr e)):∀(n10:Nat) (s3_11:Nat),(0<n10/\a0.l.length<s3_11+n10)->Z58_l10 a0 n10 s3_11=Option.bind (Z58_q10  (a0.l.drop s3_11) ) Kb10:=by
 intro n10;induction n10 with
 | zero=>intro s3_11 hn; exact absurd hn.1 (by omega)
 | succ n10 ih10 =>
  intro s3_11 hn;rw [Z58_l10];by_cases hlt:s3_11<a0.l.length
  ·obtain⟨h10,hh10⟩:=Qa hlt;rw [Q.drop_of hh10,Z58_q10];refine QT hlt ?_;refine Q.bindPO hh10 fun x18 hx_x18=>?_;refine Q.bindPO (Z34_eq _) fun x19 hx_x19=>?_;refine Q.guardPO hh10 fun x20 hx_x20=>?_;refine Q.guardOO (Z59_eq _) fun x21=>?_;refine Q.guardPO hh10 fun x22 hx_x22=>?_;refine Q.guardOO (Z49_eq _) fun x23=>?_;refine Q.guardPO hh10 fun x24 hx_x24=>?_;refine Q.guardOO (Z57_eq _) fun x25=>?_
   refine Q.condO ?_ ?_
   ·all_goals exact hret _
   all_goals exact ih10 _ ⟨by omega,by omega⟩
  rw [dL (by omega),Z58_q10];refine QF hlt ?_;exact hend n10 s3_11
def Z58_q (a0:(Sl Z4)):Option Bool:=bif ((decide (((a0.l.length:Nat):Int)<(1:Int)))||(decide ((64:Int)<((a0.l.length:Nat):Int)))) then(some false) else(Option.bind (Z58_q10  a0.l ) fun o10=>match o10 with|Sum.inl _=>(on (()) fun _=>some true)|Sum.inr e10=>(some e10))
theorem Z58_eq (a0:(Sl Z4)):Z58 a0=Z58_q a0:=by
 unfold Z58 Z58_q;refine Qs ?_;refine Q.condO ?_ ?_
 ·all_goals rfl
 refine Q.wrapOO fun Kb10 hKb10=>?_;refine Z58_l10_qe  Kb10 ?_ ?_ _ _ ⟨Nat.succ_pos _,by omega⟩
 ·intro n10 s3_11;refine Qe (hKb10 _) ?_;try dsimp only
  refine Q.wrapPO fun Kj7 hKj7=>?_;have hj7:Z58_j7  =Kj7 ():=by
   refine Qe (hKj7 _) ?_;unfold Z58_j7;all_goals rfl
  all_goals exact hj7
 intro e10;refine Qe (hKb10 _) ?_;try dsimp only
 all_goals rfl
def Z60_q10 (a1:Bool):List Z6->Option (Unit ⊕ Bool)
 | []=>some (Sum.inl ())
 | h10::r10=>on (h10) fun x18=>on (Z34_q x18.FName) fun x19=>on (bif !(!x19) then h10 else Z6.zero) fun x20=>guardO (!(!x19)) (Z57_q x20.FDirs) false fun x21=>on (bif (!((!x19)||(!x21))&&a1) then h10 else Z6.zero) fun x22=>bif (((!x19)||(!x21))||(a1&&(decide ((0:Int)<((x22.FDirs.l.length:Nat):Int))))) then(some (Sum.inr false)) else(Z60_q10 a1 (r10) )
theorem Z60_l10_qe {a0:(Sl Z6)}{a1:Bool}  (Kb10:(Unit ⊕ Bool)->Option Bool) (hend:∀(n10:Nat) (s5_11:Nat),Z60_j7   =Kb10 (Sum.inl ())) (hret:∀e:Bool,some e=Kb10 (Sum.inr e)):∀(n10:Nat) (s5_11:Nat),(0<n10/\a0.l.length<s5_11+n10)->Z60_l10 a0 a1 n10 s5_11=Option.bind (Z60_q10 a1 (a0.l.drop s5_11) ) Kb10:=by
 intro n10;induction n10 with
 | zero=>intro s5_11 hn; exact absurd hn.1 (by omega)
 | succ n10 ih10 =>
  intro s5_11 hn;rw [Z60_l10];by_cases hlt:s5_11<a0.l.length
  ·obtain⟨h10,hh10⟩:=Qa hlt;rw [Q.drop_of hh10,Z60_q10];refine QT hlt ?_;refine Q.bindPO hh10 fun x18 hx_x18=>?_;refine Q.bindPO (Z34_eq _) fun x19 hx_x19=>?_;refine Q.guardPO hh10 fun x20 hx_x20=>?_;refine Q.guardOO (Z57_eq _) fun x21=>?_;refine Q.guardPO hh10 fun x22 hx_x22=>?_;refine Q.condO ?_ ?_
   ·all_goals exact hret _
   all_goals exact ih10 _ ⟨by omega,by omega⟩
  rw [dL (by omega),Z60_q10];refine QF hlt ?_;exact hend n10 s5_11
def Z60_q (a0:(Sl Z6)) (a1:Bool):Option Bool:=bif ((decide (((a0.l.length:Nat):Int)<(1:Int)))||(decide ((64:Int)<((a0.l.length:Nat):Int)))) then(some false) else(Option.bind (Z60_q10 a1 a0.l ) fun o10=>match o10 with|Sum.inl _=>(on (()) fun _=>some true)|Sum.inr e10=>(some e10))
theorem Z60_eq (a0:(Sl Z6)) (a1:Bool):Z60 a0 a1=Z60_q a0 a1:=by
 unfold Z60 Z60_q;refine Qs ?_;refine Q.condO ?_ ?_
 ·all_goals rfl
 refine Q.wrapOO fun Kb10 hKb10=>?_;refine Z60_l10_qe  Kb10 ?_ ?_ _ _ ⟨Nat.succ_pos _,by omega⟩
 ·intro n10 s5_11;refine Qe (hKb10 _) ?_;try dsimp only
  refine Q.wrapPO fun Kj7 hKj7=>?_;have hj7:Z60_j7  =Kj7 ():=by
   refine Qe (hKj7 _) ?_;unfold Z60_j7;all_goals rfl
  all_goals exact hj7
 intro e10;refine Qe (hKb10 _) ?_;try dsimp only
 all_goals rfl
def Z56_q34 :List Bs->Unit ⊕ Bool
 | []=>Sum.inl ()
 | h34::r34=>on (h34) fun x42=>on (Z34_q x42) fun x43=>bif (!x43) then(Sum.inr false) else(Z56_q34  (r34) )
theorem Z56_l34_qe {a0:TDef}  (Kb34:(Unit ⊕ Bool)->Option Bool) (hend:∀(n34:Nat) (s3_35:Nat),Z56_j8 a0  =Kb34 (Sum.inl ())) (hret:∀e:Bool,some e=Kb34 (Sum.inr e)):∀(n34:Nat) (s3_35:Nat),(0<n34/\a0.FImplements.l.length<s3_35+n34)->Z56_l34 a0 n34 s3_35=Kb34 (Z56_q34  (a0.FImplements.l.drop s3_35) ):=by
 intro n34;induction n34 with
 | zero=>intro s3_35 hn; exact absurd hn.1 (by omega)
 | succ n34 ih34 =>
  intro s3_35 hn;rw [Z56_l34];by_cases hlt:s3_35<a0.FImplements.l.length
  ·obtain⟨h34,hh34⟩:=Qa hlt;rw [Q.drop_of hh34,Z56_q34];refine QT hlt ?_;refine Q.bindP hh34 fun x42 hx_x42=>?_;refine Q.bindP (Z34_eq _) fun x43 hx_x43=>?_;refine Q.condP ?_ ?_
   ·all_goals exact hret _
   all_goals exact ih34 _ ⟨by omega,by omega⟩
  rw [dL (by omega),Z56_q34];refine QF hlt ?_;exact hend n34 s3_35
def Z56_q (a0:TDef):Option Bool:=on (Z34_q a0.FName) fun x4=>guardO (!(!x4)) (Z57_q a0.FDirs) false fun x5=>bif (((!x4)||(!x5))||(decide ((64:Int)<((a0.FImplements.l.length:Nat):Int)))) then(some false) else(on (Z56_q34  a0.FImplements.l ) fun o34=>match o34 with|Sum.inl _=>(on (()) fun _=>bif (decide (a0.FKind=(1:Int))) then((Z58_q a0.FFields).bind fun x15=>some ((x15&&(decide (((a0.FMembers.l.length:Nat):Int)=(0:Int))))&&(decide (((a0.FInputs.l.length:Nat):Int)=(0:Int))))) else(bif (decide (a0.FKind=(2:Int))) then(guardO ((decide (((a0.FImplements.l.length:Nat):Int)=(0:Int)))) (Z58_q a0.FFields) false fun x19=>some ((((decide (((a0.FImplements.l.length:Nat):Int)=(0:Int)))&&x19)&&(decide (((a0.FMembers.l.length:Nat):Int)=(0:Int))))&&(decide (((a0.FInputs.l.length:Nat):Int)=(0:Int))))) else(bif (decide (a0.FKind=(3:Int))) then(guardO (((decide (((a0.FImplements.l.length:Nat):Int)=(0:Int)))&&(decide (((a0.FFields.l.length:Nat):Int)=(0:Int))))) (Z60_q a0.FMembers true) false fun x23=>some ((((decide (((a0.FImplements.l.length:Nat):Int)=(0:Int)))&&(decide (((a0.FFields.l.length:Nat):Int)=(0:Int))))&&x23)&&(decide (((a0.FInputs.l.length:Nat):Int)=(0:Int))))) else(bif (decide (a0.FKind=(4:Int))) then(guardO (((decide (((a0.FImplements.l.length:Nat):Int)=(0:Int)))&&(decide (((a0.FFields.l.length:Nat):Int)=(0:Int))))) (Z60_q a0.FMembers false) false fun x27=>some ((((decide (((a0.FImplements.l.length:Nat):Int)=(0:Int)))&&(decide (((a0.FFields.l.length:Nat):Int)=(0:Int))))&&x27)&&(decide (((a0.FInputs.l.length:Nat):Int)=(0:Int))))) else(bif (decide (a0.FKind=(5:Int))) then(guardO (((((decide (((a0.FImplements.l.length:Nat):Int)=(0:Int)))&&(decide (((a0.FFields.l.length:Nat):Int)=(0:Int))))&&(decide (((a0.FMembers.l.length:Nat):Int)=(0:Int))))&&(decide ((0:Int)<((a0.FInputs.l.length:Nat):Int))))) (Z59_q a0.FInputs) false fun x31=>some (((((decide (((a0.FImplements.l.length:Nat):Int)=(0:Int)))&&(decide (((a0.FFields.l.length:Nat):Int)=(0:Int))))&&(decide (((a0.FMembers.l.length:Nat):Int)=(0:Int))))&&(decide ((0:Int)<((a0.FInputs.l.length:Nat):Int))))&&x31)) else(some false))))))|Sum.inr e34=>(some e34))
theorem Z56_eq (a0:TDef):Z56 a0=Z56_q a0:=by
 unfold Z56 Z56_q;refine Qs ?_;refine Q.bindPO (Z34_eq _) fun x4 hx_x4=>?_;refine Q.guardOO (Z57_eq _) fun x5=>?_;refine Q.condO ?_ ?_
 ·all_goals rfl
 refine Q.wrapPO fun Kb34 hKb34=>?_;refine Z56_l34_qe  Kb34 ?_ ?_ _ _ ⟨Nat.succ_pos _,by omega⟩
 ·intro n34 s3_35;refine Qe (hKb34 _) ?_;try dsimp only
  refine Q.wrapPO fun Kj8 hKj8=>?_;have hj8:Z56_j8 a0 =Kj8 ():=by
   refine Qe (hKj8 _) ?_;unfold Z56_j8;refine Q.condO ?_ ?_
   ·refine Q.bindO (Z58_eq _) fun x15=>?_;all_goals rfl
   refine Q.condO ?_ ?_
   ·refine Q.guardOO (Z58_eq _) fun x19=>?_;all_goals rfl
   refine Q.condO ?_ ?_
   ·refine Q.guardOO (Z60_eq _ _) fun x23=>?_;all_goals rfl
   refine Q.condO ?_ ?_
   ·refine Q.guardOO (Z60_eq _ _) fun x27=>?_;all_goals rfl
   refine Q.condO ?_ ?_
   ·refine Q.guardOO (Z59_eq _) fun x31=>?_;all_goals rfl
   all_goals rfl
  all_goals exact hj8
 intro e34;refine Qe (hKb34 _) ?_;try dsimp only
 all_goals rfl
def Z53_q10 :List TDef->Option (Unit ⊕ Bool)
 | []=>some (Sum.inl ())
 | h10::r10=>on (h10) fun x18=>(Z56_q x18).bind fun x19=>bif (!x19) then(some (Sum.inr false)) else(Z53_q10  (r10) )
theorem Z53_l10_qe {a0:TDoc}  (Kb10:(Unit ⊕ Bool)->Option Bool) (hend:∀(n10:Nat) (s3_11:Nat),Z53_j7   =Kb10 (Sum.inl ())) (hret:∀e:Bool,some e=Kb10 (Sum.inr e)):∀(n10:Nat) (s3_11:Nat),(0<n10/\a0.FDefs.l.length<s3_11+n10)->Z53_l10 a0 n10 s3_11=Option.bind (Z53_q10  (a0.FDefs.l.drop s3_11) ) Kb10:=by
 intro n10;induction n10 with
 | zero=>intro s3_11 hn; exact absurd hn.1 (by omega)
 | succ n10 ih10 =>
  intro s3_11 hn;rw [Z53_l10];by_cases hlt:s3_11<a0.FDefs.l.length
  ·obtain⟨h10,hh10⟩:=Qa hlt;rw [Q.drop_of hh10,Z53_q10];refine QT hlt ?_;refine Q.bindPO hh10 fun x18 hx_x18=>?_;refine Q.bindO (Z56_eq _) fun x19=>?_;refine Q.condO ?_ ?_
   ·all_goals exact hret _
   all_goals exact ih10 _ ⟨by omega,by omega⟩
  rw [dL (by omega),Z53_q10];refine QF hlt ?_;exact hend n10 s3_11
def Z53_q (a0:TDoc):Option Bool:=bif ((decide (((a0.FDefs.l.length:Nat):Int)<(1:Int)))||(decide ((64:Int)<((a0.FDefs.l.length:Nat):Int)))) then(some false) else(Option.bind (Z53_q10  a0.FDefs.l ) fun o10=>match o10 with|Sum.inl _=>(on (()) fun _=>some true)|Sum.inr e10=>(some e10))
theorem Z53_eq (a0:TDoc):Z53 a0=Z53_q a0:=by
 unfold Z53 Z53_q;refine Qs ?_;refine Q.condO ?_ ?_
 ·all_goals rfl
 refine Q.wrapOO fun Kb10 hKb10=>?_;refine Z53_l10_qe  Kb10 ?_ ?_ _ _ ⟨Nat.succ_pos _,by omega⟩
 ·intro n10 s3_11;refine Qe (hKb10 _) ?_;try dsimp only
  refine Q.wrapPO fun Kj7 hKj7=>?_;have hj7:Z53_j7  =Kj7 ():=by
   refine Qe (hKj7 _) ?_;unfold Z53_j7;all_goals rfl
  all_goals exact hj7
 intro e10;refine Qe (hKb10 _) ?_;try dsimp only
 all_goals rfl
def Z44_q23 (a1:Int):List Bs->Int->Option (Int)
 | [],s5_24=>some s5_24
 | h23::r23,s5_24=>bif (decide (s5_24<=a1)) then((addC s5_24 (1:Int)).bind fun x31=>on (h23) fun x32=>(addC x31 ((x32.length:Nat):Int)).bind fun x34=>Z44_q23 a1 (r23) x34) else(some s5_24)
theorem Z44_l23_qe {a0:Z7}{a1:Int}{k_rec_122:Z7->Int->Option Int}  (Kb23:(Int)->Option Int) (hend:∀(n23:Nat) (s5_24:Int) (s6_25:Nat),Z44_j5 a0 a1 k_rec_122 s5_24=Kb23 s5_24):∀(n23:Nat) (s5_24:Int) (s6_25:Nat),(0<n23/\a0.FKeys.l.length<s6_25+n23)->Z44_l23 a0 a1 k_rec_122 n23 s5_24 s6_25=Option.bind (Z44_q23 a1 (a0.FKeys.l.drop s6_25) s5_24) Kb23:=by
 intro n23;induction n23 with
 | zero=>intro s5_24 s6_25 hn; exact absurd hn.1 (by omega)
 | succ n23 ih23 =>
  intro s5_24 s6_25 hn;rw [Z44_l23];by_cases hlt:s6_25<a0.FKeys.l.length
  ·obtain⟨h23,hh23⟩:=Qa hlt;rw [Q.drop_of hh23,Z44_q23];refine Q.condAT (Q.ltT hlt) ?_;refine Q.condO ?_ ?_
   ·refine Q.bindO rfl fun x31=>?_;refine Q.bindPO hh23 fun x32 hx_x32=>?_;refine Q.bindO rfl fun x34=>?_;all_goals exact ih23 _ _ ⟨by omega,by omega⟩
   all_goals exact hend n23 s5_24 s6_25
  rw [dL (by omega),Z44_q23];refine Q.condAF (Q.ltF hlt) ?_;exact hend n23 s5_24 s6_25
def Z44_q11 (a1:Int) (k_rec_122:Z7->Int->Option Int):List Z7->Int->Option (Int)
 | [],s5_12=>some s5_12
 | h11::r11,s5_12=>bif (decide (s5_12<=a1)) then(on (h11) fun x19=>(k_rec_122 x19 a1).bind fun x20=>(addC s5_12 x20).bind fun x21=>Z44_q11 a1 k_rec_122 (r11) x21) else(some s5_12)
theorem Z44_l11_qe {a0:Z7}{a1:Int}{k_rec_122:Z7->Int->Option Int}  (Kb11:(Int)->Option Int) (hend:∀(n11:Nat) (s5_12:Int) (s7_13:Nat),Z44_j7   s5_12=Kb11 s5_12):∀(n11:Nat) (s5_12:Int) (s7_13:Nat),(0<n11/\a0.FItems.l.length<s7_13+n11)->Z44_l11 a0 a1 k_rec_122 n11 s5_12 s7_13=Option.bind (Z44_q11 a1 k_rec_122 (a0.FItems.l.drop s7_13) s5_12) Kb11:=by
 intro n11;induction n11 with
 | zero=>intro s5_12 s7_13 hn; exact absurd hn.1 (by omega)
 | succ n11 ih11 =>
  intro s5_12 s7_13 hn;rw [Z44_l11];by_cases hlt:s7_13<a0.FItems.l.length
  ·obtain⟨h11,hh11⟩:=Qa hlt;rw [Q.drop_of hh11,Z44_q11];refine Q.condAT (Q.ltT hlt) ?_;refine Q.condO ?_ ?_
   ·refine Q.bindPO hh11 fun x19 hx_x19=>?_;refine Q.bindO rfl fun x20=>?_;refine Q.bindO rfl fun x21=>?_;all_goals exact ih11 _ _ ⟨by omega,by omega⟩
   all_goals exact hend n11 s5_12 s7_13
  rw [dL (by omega),Z44_q11];refine Q.condAF (Q.ltF hlt) ?_;exact hend n11 s5_12 s7_13
def Z44_qn:Nat->Z7->Int->Option Int
 | 0,_,_=>none
 | n+1,a0,a1=>(addC (1:Int) ((a0.FText.length:Nat):Int)).bind fun x4=>Option.bind (Z44_q23 a1 a0.FKeys.l x4) fun s5_24=>on (s5_24) fun s5_6=>Option.bind (Z44_q11 a1 (Z44_qn n) a0.FItems.l s5_6) fun s5_12=>on (s5_12) fun s5_8=>some s5_8
theorem Z44_qall:∀n:Nat,Z44_n n=Z44_qn n:=by
 intro n;induction n with
 | zero=>exact(by funext a0 a1; first|rfl|(rw [Z44_n,Z44_qn]))
 | succ n ih =>
  funext a0 a1
  refine Qs ?_;rw [Z44_n,Z44_qn];try rw [ih]
  refine Q.bindO rfl fun x4=>?_;refine Q.wrapOO fun Kb23 hKb23=>?_;refine Z44_l23_qe  Kb23 ?_ _ _ _ ⟨Nat.succ_pos _,by omega⟩;intro n23 s5_24 s6_25;refine Qe (hKb23 _) ?_;refine Q.wrapPO fun Kj5 hKj5=>?_;have hj5:∀(s5_6:Int),Z44_j5 a0 a1 (Z44_qn n) s5_6=Kj5 s5_6:=by
   intro s5_6;refine Qe (hKj5 _) ?_;unfold Z44_j5;refine Q.wrapOO fun Kb11 hKb11=>?_;refine Z44_l11_qe  Kb11 ?_ _ _ _ ⟨Nat.succ_pos _,by omega⟩;intro n11 s5_12 s7_13;refine Qe (hKb11 _) ?_;refine Q.wrapPO fun Kj7 hKj7=>?_;have hj7:∀(s5_8:Int),Z44_j7  s5_8=Kj7 s5_8:=by
    intro s5_8;refine Qe (hKj7 _) ?_;unfold Z44_j7;all_goals rfl
   all_goals exact hj7 _
  all_goals exact hj5 _
def Z44_q (a0:Z7) (a1:Int):Option Int:=Z44_qn F0 a0 a1
theorem Z44_eq (a0:Z7) (a1:Int):Z44 a0 a1=Z44_q a0 a1:=by
 unfold Z44 Z44_q; rw [(Z44_qall F0)]
def Z62_q19 (a1:Int) (h7:TDir):List TArg->Int->Option (Int)
 | [],s5_20=>some s5_20
 | h19::r19,s5_20=>bif (decide (s5_20<=a1)) then((addC s5_20 (1:Int)).bind fun x28=>on (h7) fun x29=>on (h19) fun x30=>(Z44_q x30.FValue a1).bind fun x31=>(addC x28 x31).bind fun x32=>Z62_q19 a1 h7 (r19) x32) else(some s5_20)
theorem Z62_l19_qe {a0:(Sl TDir)}{a1:Int}{s6_9:Nat}{k_next_7:Int->Nat->Option Int}{h7:TDir}(hh7:a0.l[s6_9]?=some h7) (Kb19:(Int)->Option Int) (hend:∀(n19:Nat) (s5_20:Int) (s7_21:Nat),Z62_j14 s6_9 k_next_7 s5_20=Kb19 s5_20):∀(n19:Nat) (s5_20:Int) (s7_21:Nat),(0<n19/\h7.FArgs.l.length<s7_21+n19)->Z62_l19 a0 a1 s6_9 k_next_7 n19 s5_20 s7_21=Option.bind (Z62_q19 a1 h7 (h7.FArgs.l.drop s7_21) s5_20) Kb19:=by
 intro n19;induction n19 with
 | zero=>intro s5_20 s7_21 hn; exact absurd hn.1 (by omega)
 | succ n19 ih19 =>
  intro s5_20 s7_21 hn;rw [Z62_l19];refine Q.preB hh7 fun x24 hx_x24=>?_;subst hx_x24;by_cases hlt:s7_21<x24.FArgs.l.length
  ·obtain⟨h19,hh19⟩:=Qa hlt;rw [Q.drop_of hh19,Z62_q19];refine Q.condAT (Q.ltT hlt) ?_;refine Q.condO ?_ ?_
   ·refine Q.bindO rfl fun x28=>?_;refine Q.bindPO hh7 fun x29 hx_x29=>?_;refine Q.bindPO (by first|exact hh19|(simp only [hx_x29]; exact hh19)|(simp only [hx_x29] at hh19 ⊢; exact hh19)) fun x30 hx_x30=>?_;refine Q.bindO (Z44_eq _ _) fun x31=>?_;refine Q.bindO rfl fun x32=>?_;all_goals exact ih19 _ _ ⟨by omega,by omega⟩
   all_goals exact hend n19 s5_20 s7_21
  rw [dL (by omega),Z62_q19];refine Q.condAF (Q.ltF hlt) ?_;exact hend n19 s5_20 s7_21
def Z62_q7 (a1:Int):List TDir->Int->Option (Int)
 | [],s5_8=>some s5_8
 | h7::r7,s5_8=>bif (decide (s5_8<=a1)) then((addC s5_8 (1:Int)).bind fun x17=>Option.bind (Z62_q19 a1 h7 h7.FArgs.l x17) fun s5_20=>on (s5_20) fun s5_15=>Z62_q7 a1 (r7) s5_15) else(some s5_8)
theorem Z62_l7_qe {a0:(Sl TDir)}{a1:Int}  (Kb7:(Int)->Option Int) (hend:∀(n7:Nat) (s5_8:Int) (s6_9:Nat),Z62_j3   s5_8=Kb7 s5_8):∀(n7:Nat) (s5_8:Int) (s6_9:Nat),(0<n7/\a0.l.length<s6_9+n7)->Z62_l7 a0 a1 n7 s5_8 s6_9=Option.bind (Z62_q7 a1 (a0.l.drop s6_9) s5_8) Kb7:=by
 intro n7;induction n7 with
 | zero=>intro s5_8 s6_9 hn; exact absurd hn.1 (by omega)
 | succ n7 ih7 =>
  intro s5_8 s6_9 hn;rw [Z62_l7];by_cases hlt:s6_9<a0.l.length
  ·obtain⟨h7,hh7⟩:=Qa hlt;rw [Q.drop_of hh7,Z62_q7];refine Q.condAT (Q.ltT hlt) ?_;refine Q.condO ?_ ?_
   ·refine Q.bindO rfl fun x17=>?_;refine Q.wrapOO fun Kb19 hKb19=>?_;refine Z62_l19_qe hh7 Kb19 ?_ _ _ _ ⟨by rw [hh7]; exact Nat.succ_pos _,by rw [hh7]; simp only [Option.elim]; omega⟩;intro n19 s5_20 s7_21;refine Qe (hKb19 _) ?_;refine Q.wrapPO fun Kj14 hKj14=>?_;have hj14:∀(s5_15:Int),Z62_j14 s6_9 (Z62_l7 a0 a1 n7) s5_15=Kj14 s5_15:=by
     intro s5_15;refine Qe (hKj14 _) ?_;unfold Z62_j14;all_goals exact ih7 _ _ ⟨by omega,by omega⟩
    all_goals exact hj14 _
   all_goals exact hend n7 s5_8 s6_9
  rw [dL (by omega),Z62_q7];refine Q.condAF (Q.ltF hlt) ?_;exact hend n7 s5_8 s6_9
def Z62_q (a0:(Sl TDir)) (a1:Int):Option Int:=Option.bind (Z62_q7 a1 a0.l (0:Int)) fun s5_8=>on (s5_8) fun s5_4=>some s5_4
theorem Z62_eq (a0:(Sl TDir)) (a1:Int):Z62 a0 a1=Z62_q a0 a1:=by
 unfold Z62 Z62_q;refine Qs ?_;refine Q.wrapOO fun Kb7 hKb7=>?_;refine Z62_l7_qe  Kb7 ?_ _ _ _ ⟨Nat.succ_pos _,by omega⟩;intro n7 s5_8 s6_9;refine Qe (hKb7 _) ?_;refine Q.wrapPO fun Kj3 hKj3=>?_;have hj3:∀(s5_4:Int),Z62_j3  s5_4=Kj3 s5_4:=by
  intro s5_4;refine Qe (hKj3 _) ?_;unfold Z62_j3;all_goals rfl
 all_goals exact hj3 _
end Go.Proofs
