import Derived.Test.YtbcphmbgonamlaaGreatDoorV4
set_option maxRecDepth 100000
set_option maxHeartbeats 2000000
set_option linter.unusedVariables false
set_option linter.unusedSimpArgs false
namespace Go.Proofs
open Go Go.Ab
open AOps Cert AWp Keeps KeepsT
variable {lou:Lou}
def Z150 (a0:Bs) (a1:Int):Option (Z8×Int×Int):=(idxC a0 a1).bind fun x3=>(Z137 ([33,36,38,40,41,58,61,64,91,93,123,124,125]:Bs) (IntKind.wrap .i32 ((x3.toNat:Nat):Int))).bind fun x6=>bif x6 then((addC a1 (1:Int)).bind fun x9=>(cutC a0 (some a1) (some x9)).bind fun x10=>(addC a1 (1:Int)).bind fun x11=>some ((Z8.mk (1:Int) x10 a1),x11,(0:Int))) else(bif (decide ((IntKind.wrap .i32 ((x3.toNat:Nat):Int))=(46:Int))) then((cutC a0 (some a1) none).bind fun x16=>(Z138 x16 ([46,46,46]:Bs)).bind fun x17=>bif (!x17) then(some ((Z8.mk (0:Int) ([]:Bs) (0:Int)),(0:Int),(3:Int))) else((addC a1 (3:Int)).bind fun x21=>some ((Z8.mk (1:Int) ([46,46,46]:Bs) a1),x21,(0:Int)))) else(bif ((decide ((IntKind.wrap .i32 ((x3.toNat:Nat):Int))=(45:Int)))||((decide ((48:Int)<=(IntKind.wrap .i32 ((x3.toNat:Nat):Int))))&&(decide ((IntKind.wrap .i32 ((x3.toNat:Nat):Int))<=(57:Int))))) then((addC a1 (1:Int)).bind fun x25=>(Z152 a0 x25 Z148).bind fun x26=>(cutC a0 (some a1) (some x26)).bind fun x28=>(Z144 x28).bind fun x29=>(cutC a0 (some a1) (some x26)).bind fun x31=>some ((Z8.mk (3:Int) x31 a1),x26,x29.2)) else((Z148 (IntKind.wrap .i32 ((x3.toNat:Nat):Int))).bind fun x33=>bif x33 then((Z152 a0 a1 Z148).bind fun x36=>(subC x36 a1).bind fun x39=>bif (decide ((64:Int)<x39)) then(some ((Z8.mk (0:Int) ([]:Bs) (0:Int)),(0:Int),(3:Int))) else((cutC a0 (some a1) (some x36)).bind fun x43=>some ((Z8.mk (2:Int) x43 a1),x36,(0:Int)))) else(bif (decide ((IntKind.wrap .i32 ((x3.toNat:Nat):Int))=(34:Int))) then((Z149 a0 a1).bind fun x47=>bif (decide (x47<(0:Int))) then(some ((Z8.mk (0:Int) ([]:Bs) (0:Int)),(0:Int),(3:Int))) else((cutC a0 (some a1) (some x47)).bind fun x53=>(Z146 x53).bind fun x54=>some ((Z8.mk (4:Int) x54.1 a1),x47,x54.2))) else(some ((Z8.mk (0:Int) ([]:Bs) (0:Int)),(0:Int),(3:Int)))))))
theorem Z150_walk {a0:Bs}{a1:Int}{r:Z8×Int×Int}(hE:Z150 a0 a1=some r) (H:Heap) :ACalls Tryz.prog 203 [.d (.str a0),.d (.int .i64 a1)] H fun v h'=>v=.tup [.agg (Z8.c r.1),.d (.int .i64 r.2.1),.d (.int .i64 r.2.2)]/\h'=H:=by
 unfold Z150 at hE;refine ACalls.oW 116 [.cell 4 205,.tmp 5,.tmp 6] Tryz.call203 Tryz.func203 ?_;refine seqR ?_;refine Sl ?_;refine S As (S As (nil ?_));refine seqR (S Mv (S Mv ?_));obtain⟨x3,gx3,hE⟩:=bO hE;refine s0 (idxS (TK rfl) rfl rfl rfl gx3) rfl ?_;refine s0 (convI (TK rfl) (TK rfl) rfl rfl) rfl ?_;refine S As (nil ?_);refine seqK fun K4 hK4=>?_;refine block ?_;refine seqR (S Mv ?_);obtain⟨x6,gx6,hE⟩:=bO hE
 refine Sc rfl rfl (Z137_walk gx6) ?_;refine S As (nil ?_);refine cE hE (fun hc7 hE=>?_) (fun hc7 hE=>?_)
 ·refine seqR (S Mv (S Mv (S Mv ?_)));obtain⟨x9,gx9,hE⟩:=bO hE;refine s0 (addM rfl rfl gx9) rfl ?_;obtain⟨x10,gx10,hE⟩:=bO hE;refine s0 (cutM (l:=(some a1)) (r:=(some x9)) (TK rfl) rfl rfl rfl rfl (by simp) gx10) rfl ?_;refine S Mv (S BU (S Mv ?_));obtain⟨x11,gx11,hE⟩:=bO hE;refine s0 (addM rfl rfl gx11) rfl ?_;refine Sf ?_;refine S As (S As (nil ?_));exact rt hE
 refine seqR (S Mv (S BI (S As (nil ?_))));refine cE hE (fun hc13 hE=>?_) (fun hc13 hE=>?_)
 ·refine seqK fun K14 hK14=>?_;refine seqR (S Mv (S Mv ?_));obtain⟨x16,gx16,hE⟩:=bO hE;refine s0 (cutM (l:=(some a1)) (r:=none) (TK rfl) rfl rfl rfl trivial (by simp) gx16) rfl ?_;obtain⟨x17,gx17,hE⟩:=bO hE;refine Sc rfl rfl (Z138_walk gx17) ?_;refine S NB (nil ?_);refine cE hE (fun hc18 hE=>?_) (fun hc18 hE=>?_)
  ·refine seqR (S BU ?_);refine Sf ?_;refine S As (S As (nil ?_));exact rt hE
  refine sk hK14 ?_;clear hK14 K14;refine seqR (S Mv (S BU (S Mv ?_)));obtain⟨x21,gx21,hE⟩:=bO hE;refine s0 (addM rfl rfl gx21) rfl ?_;refine Sf ?_;refine S As (S As (nil ?_));exact rt hE
 refine seqR (S Mv (S BI (S Mv (G0 Mv ?_))));refine G1 48 rfl BI ?_;refine G1 49 rfl Mv ?_;refine G0 Mv ?_;refine G1 51 rfl BI ?_;refine gC rfl rfl (fun hC=>ungdA (k:=50) rfl (pickAndA rfl rfl rfl)) rfl ?_;refine S PO (S As (nil ?_));refine cE hE (fun hc23 hE=>?_) (fun hc23 hE=>?_)
 ·refine seqR (S Mv (S Mv ?_));obtain⟨x25,gx25,hE⟩:=bO hE;refine s0 (addM rfl rfl gx25) rfl ?_;obtain⟨x26,gx26,hE⟩:=bO hE;refine s0 (callP rfl rfl (fun H=>Z152_walk gx26 H (fun _ _ hx=>Z148_walk hx))) rfl ?_;refine S As (nil ?_);refine seqR (S Mv (S Mv (S Mv ?_)));obtain⟨x28,gx28,hE⟩:=bO hE;refine s0 (cutM (l:=(some a1)) (r:=(some x26)) (TK rfl) rfl rfl rfl rfl (by simp) gx28) rfl ?_;obtain⟨x29,gx29,hE⟩:=bO hE
  refine Sc rfl rfl (Z144_walk gx29) ?_;refine S Mv (S EX (S EX (S As (S As (nil ?_)))));refine seqR (S Mv (S Mv (S Mv ?_)));obtain⟨x31,gx31,hE⟩:=bO hE;refine s0 (cutM (l:=(some a1)) (r:=(some x26)) (TK rfl) rfl rfl rfl rfl (by simp) gx31) rfl ?_;refine S Mv (S BU (S Mv (S Mv ?_)));refine Sf ?_;refine S As (S As (nil ?_));exact rt hE
 refine seqR (S Mv ?_);obtain⟨x33,gx33,hE⟩:=bO hE;refine Sc rfl rfl (Z148_walk gx33) ?_;refine S As (nil ?_);refine cE hE (fun hc34 hE=>?_) (fun hc34 hE=>?_)
 ·refine seqR (S Mv (S Mv ?_));obtain⟨x36,gx36,hE⟩:=bO hE;refine s0 (callP rfl rfl (fun H=>Z152_walk gx36 H (fun _ _ hx=>Z148_walk hx))) rfl ?_;refine S As (nil ?_);refine seqK fun K37 hK37=>?_;refine seqR (S Mv (S Mv ?_));obtain⟨x39,gx39,hE⟩:=bO hE;refine s0 (subM rfl rfl gx39) rfl ?_;refine S BI (nil ?_);refine cE hE (fun hc40 hE=>?_) (fun hc40 hE=>?_)
  ·refine seqR (S BU ?_);refine Sf ?_;refine S As (S As (nil ?_));exact rt hE
  refine sk hK37 ?_;clear hK37 K37;refine seqR (S Mv (S Mv (S Mv ?_)));obtain⟨x43,gx43,hE⟩:=bO hE;refine s0 (cutM (l:=(some a1)) (r:=(some x36)) (TK rfl) rfl rfl rfl rfl (by simp) gx43) rfl ?_;refine S Mv (S BU (S Mv ?_));refine Sf ?_;refine S As (S As (nil ?_));exact rt hE
 refine seqR (S Mv (S BI (S As (nil ?_))));refine cE hE (fun hc45 hE=>?_) (fun hc45 hE=>?_)
 ·refine seqR (S Mv (S Mv ?_));obtain⟨x47,gx47,hE⟩:=bO hE;refine Sc rfl rfl (Z149_walk gx47) ?_;refine S As (nil ?_);refine seqK fun K48 hK48=>?_;refine seqR (S Mv (S BI (nil ?_)));refine cE hE (fun hc50 hE=>?_) (fun hc50 hE=>?_)
  ·refine seqR (S BU ?_);refine Sf ?_;refine S As (S As (nil ?_));exact rt hE
  refine sk hK48 ?_;clear hK48 K48;refine seqR (S Mv (S Mv (S Mv ?_)));obtain⟨x53,gx53,hE⟩:=bO hE;refine s0 (cutM (l:=(some a1)) (r:=(some x47)) (TK rfl) rfl rfl rfl rfl (by simp) gx53) rfl ?_;obtain⟨x54,gx54,hE⟩:=bO hE;refine Sc rfl rfl (Z146_walk gx54) ?_;refine S Mv (S EX (S EX (S As (S As (nil ?_)))));refine seqR (S Mv (S Mv (S BU (S Mv (S Mv ?_)))));refine Sf ?_;refine S As (S As (nil ?_));exact rt hE
 refine sk hK4 ?_;clear hK4 K4;refine seqR (S BU ?_);refine Sf ?_;refine S As (S As (nil ?_));exact rt hE
def Z147_j8 (a0:Bs)  (s5_9:(Sl Z8)):Option ((Sl Z8)×Int×Int):=(appC 32 s5_9 (⟨false,[(Z8.mk (5:Int) ([]:Bs) ((a0.length:Nat):Int))]⟩:Sl Z8)).bind fun x12=>some (x12,(0:Int),(0:Int))
def Z147_l15 (a0:Bs) :Nat->(Sl Z8)->Int->Option ((Sl Z8)×Int×Int)
 | 0,_,_=>none
 | n15+1,s5_16,s6_17=>bif (decide (s6_17<((a0.length:Nat):Int))) then((Z150 a0 s6_17).bind fun x24=>bif (!decide (x24.2.2=(0:Int))) then(some ((Sl.nil:Sl Z8),s6_17,x24.2.2)) else((appC 32 s5_16 (⟨false,[x24.1]⟩:Sl Z8)).bind fun x30=>(Z151 a0 x24.2.1).bind fun x31=>(Z147_l15 a0 n15) x30 x31)) else(Z147_j8 a0  s5_16)
def Z147 (a0:Bs):Option ((Sl Z8)×Int×Int):=bif (decide ((65536:Int)<((a0.length:Nat):Int))) then(some ((Sl.nil:Sl Z8),(65536:Int),(4:Int))) else((Z151 a0 (0:Int)).bind fun x14=>Z147_l15 a0 F0 (Sl.nil:Sl Z8) x14)
theorem Z147_walk {a0:Bs}{r:((Sl Z8)×Int×Int)}(hE:Z147 a0=some r) (H:Heap) :ACalls Tryz.prog 137 [.d (.str a0)] H fun v h'=>v=.tup [.d (Sl.d 3 Z8.c none r.1),.d (.int .i64 r.2.1),.d (.int .i64 r.2.2)]/\h'=H:=by
 unfold Z147 at hE;refine ACalls.oW 44 [.tmp 2,.tmp 3,.tmp 4] Tryz.call137 Tryz.func137 ?_;refine AWp.tok 3 fun tk1 htk1=>?_;refine seqR ?_;refine s0 (assignNil (k':=3) rfl) rfl ?_;refine S As (S As (nil ?_));refine seqK fun K2 hK2=>?_;refine seqR (S Mv ?_);refine sLenS (TK rfl) rfl rfl rfl rfl fun hL4=>?_;refine S BI (nil ?_);refine cE hE (fun hc5 hE=>?_) (fun hc5 hE=>?_)
 ·refine seqR ?_;refine s0 (assignNil (k':=3) rfl) rfl ?_;refine S As (S As (nil ?_));refine AWp.ret ?_;repeat (first|refine xBlock_ret ?_|refine xThen_ret ?_)
  obtain rfl:=Option.some.inj hE;refine retQ.retF H rfl ⟨rfl,rfl⟩ ?_
  first|exact Heap.sub_set htk1|(simp only [Heap.set_set]; exact Heap.sub_set htk1)
 refine sk hK2 ?_;clear hK2 K2;refine seqR (S As (nil ?_));refine AWp.nilTok 5 3 tk1 rfl hpG ?_;refine seqJH (TA 0 KeepsT.nil) (fun(z:(Sl Z8))=>[(5,.a (.d (Sl.d 3 Z8.c (some tk1) z)))]) (fun z=>(H.set tk1 (some (.tok 3 z.l.length)))) (fun z=>Z147_j8 a0 z=some r) ?_ ?_
 ·intro K8 hK8;refine seqR (S Mv ?_);obtain⟨x14,gx14,hE⟩:=bO hE;refine Sc rfl rfl (Z151_walk gx14) ?_;refine S As (nil ?_);refine block ?_;refine loopH (TA 0 KeepsT.nil) (fun(z:Nat×(Sl Z8)×Int)=>[(5,.a (.d (Sl.d 3 Z8.c (some tk1) z.2.1))),(6,.a (.d (.int .i64 z.2.2)))]) (fun z=>(H.set tk1 (some (.tok 3 z.2.1.l.length)))) (fun z=>z.1) (fun z=>Z147_l15 a0 z.1 z.2.1 z.2.2=some r) (F0,(Sl.nil:Sl Z8),x14) hE Weak.toA ?_
  rintro ⟨n15,s5_16,s6_17⟩ hE K15 hK15;try dsimp only at hE
  cases n15 with
  | zero=>cases hE
  | succ n15 =>
    rw [Z147_l15] at hE;refine seqK fun K18 hK18=>?_;refine seqR (S Mv (S Mv ?_));refine sLenS (TK rfl) rfl rfl rfl rfl fun hL20=>?_;refine S BI (nil ?_);refine cE hE (fun hc21 hE=>?_) (fun hc21 hE=>?_)
    ·refine sk hK18 ?_;clear hK18 K18;refine seqK fun K22 hK22=>?_;refine block ?_;refine seqR (S Mv (S Mv ?_));obtain⟨x24,gx24,hE⟩:=bO hE;refine Sc rfl rfl (Z150_walk gx24) ?_;refine S Mv (S EX (S EX (S EX ?_)));refine Sl ?_;refine Sf ?_;refine S As (S As (nil ?_));refine freezeA 7 _ rfl (KA 0 (KA 5 (KA 6 (KA 8 (KA 9 Keeps.nil))))) ?_;refine seqK fun K25 hK25=>?_;refine seqR (S Mv (S BI (nil ?_)))
     refine cE hE (fun hc27 hE=>?_) (fun hc27 hE=>?_)
     ·refine seqR (S Mv (S Mv ?_));refine s0 (assignNil (k':=3) rfl) rfl ?_;refine S As (S As (nil ?_));refine AWp.ret ?_;repeat (first|refine xBlock_ret ?_|refine xThen_ret ?_)
      obtain rfl:=Option.some.inj hE;refine retQ.retF H rfl ⟨rfl,rfl⟩ ?_
      first|exact Heap.sub_set htk1|(simp only [Heap.set_set]; exact Heap.sub_set htk1)
     refine sk hK25 ?_;clear hK25 K25;refine seqR (S Mv (S Ld (S BV ?_)));obtain⟨x30,gx30,hE⟩:=bO hE;refine SH (am Z8.c (TK rfl) rfl (TK rfl) (TK rfl) gx30) ?_;refine hq (H.set tk1 (some (.tok 3 x30.l.length))) ?_;refine S As (nil ?_);refine region ?_;refine S Mv (S As (nil ?_));refine hK22 _ ?_;clear hK22 K22;refine region ?_;refine S Mv (S Mv ?_);obtain⟨x31,gx31,hE⟩:=bO hE;refine Sc rfl rfl (Z151_walk gx31) ?_
     refine S As (nil ?_);exact hK15 _ (n15,x30,x31) Weak.toA hE (Nat.lt_succ_self _)
    refine AWp.exit ?_;exact hK8 _ s5_16 Weak.toA hE
 rintro s5_9 hE;try dsimp only at hE
 unfold Z147_j8 at hE;refine seqR (S Mv (S Mv ?_));refine sLenS (TK rfl) rfl rfl rfl rfl fun hL11=>?_;refine S BU (S BV ?_);obtain⟨x12,gx12,hE⟩:=bO hE;refine SH (am Z8.c (TK rfl) rfl (TK rfl) (TK rfl) gx12) ?_;refine hq (H.set tk1 (some (.tok 3 x12.l.length))) ?_;refine S As (S As (S As (nil ?_)));refine AWp.dropTok 2 rfl ?_;refine AWp.ret ?_;repeat (first|refine xBlock_ret ?_|refine xThen_ret ?_)
 obtain rfl:=Option.some.inj hE;refine retQ.retF H rfl ⟨rfl,rfl⟩ ?_
 first|exact Heap.sub_set htk1|(simp only [Heap.set_set]; exact Heap.sub_set htk1)
def Tryz.lay138_ren:Go.Shelf.Ren:=⟨fun|35=>138|n=>n,fun|22=>47|23=>3|3=>3|4=>4|0=>0|n=>n,fun|n=>n⟩
theorem Tryz.lay138:Go.Proofs.SlLaysE.n35 Tryz.prog Tryz.lay138_ren:={
 mixed:=by kernel_rfl
 f35:=⟨Tryz.f138.name,by decide,Tryz.func138.trans (congrArg some (by kernel_rfl))⟩
 t0:=Tryz.underlying0
 a0:=Tryz.isAgg0
 z0:=Tryz.sizeOf0
 v0:=Tryz.zeroValue0
 t3:=Tryz.underlying3
 a3:=Tryz.isAgg3
 z3:=Tryz.sizeOf3
 v3:=Tryz.zeroValue3
 t4:=Tryz.underlying4
 a4:=Tryz.isAgg4
 z4:=Tryz.sizeOf4
 v4:=Tryz.zeroValue4
 t22:=Tryz.underlying47
 a22:=Tryz.isAgg47
 z22:=Tryz.sizeOf47
 v22:=Tryz.zeroValue47
 a23:=Tryz.isAgg3
 z23:=Tryz.sizeOf3 }
theorem Z129_walk {s:Sl Int}{H:Heap}{id m:Nat}{nl:Bool}(hH:H id=some (.arr 1 (s.l.map (intE .i64)))) (hm:m=s.l.length):ACalls Tryz.prog 138 [.d (.arr 1 id nl m)] H fun r h'=>r=.tup []/\h'=H.set id (some (.arr 1 ((Sl.rev s).l.map (intE .i64)))) :=
 revI_calls Tryz.lay138 hH hm rfl
end Go.Proofs

namespace Go.Proofs
open Go Go.Ab
open AOps Cert AWp Keeps KeepsT
variable {lou:Lou}
def Z158_j22  (s4_23:(Sl Z8)) (y24_l0:TRef) (y25_l1:TRef):Option (TRef×Int):=(s4_23.l[0]?).bind fun x28=>bif (!decide (x28.FKind=(5:Int))) then(some ((TRef.mk ([]:Bs) (Sl.nil:Sl Int)),(3:Int))) else(bif (decide ((24:Int)<((y25_l1.FWraps.l.length:Nat):Int))) then(some ((TRef.mk ([]:Bs) (Sl.nil:Sl Int)),(5:Int))) else((some (Sl.rev y25_l1.FWraps)).bind fun x37=>some ((TRef.mk y25_l1.FName x37),(0:Int))))
def Z158_j44 (s8_41:Int) (y42_l0:TRef) (k_next_39:(Sl Z8)->Int->TRef->TRef->Option (TRef×Int)) (s4_45:(Sl Z8)) (y46_l1:TRef):Option (TRef×Int):=bif (decide (s8_41=(0:Int))) then(Z158_j22   s4_45 y42_l0 y46_l1) else((s4_45.l[0]?).bind fun x52=>guardO (!(!decide (x52.FKind=(1:Int)))) (s4_45.l[0]?) Z8.zero fun x53=>bif ((!decide (x52.FKind=(1:Int)))||(!(x53.FText==([93]:Bs)))) then(some ((TRef.mk ([]:Bs) (Sl.nil:Sl Int)),(3:Int))) else((appC 8 y46_l1.FWraps (⟨false,[(2:Int)]⟩:Sl Int)).bind fun x56=>(partC s4_45 (some (1:Int)) none).bind fun x57=>(subC s8_41 (1:Int)).bind fun x58=>k_next_39 x57 x58 y42_l0 (TRef.mk y46_l1.FName x56)))
def Z158_l39 :Nat->(Sl Z8)->Int->TRef->TRef->Option (TRef×Int)
 | 0,_,_,_,_=>none
 | n39+1,s4_40,s8_41,y42_l0,y43_l1=>(s4_40.l[0]?).bind fun x60=>guardO ((decide (x60.FKind=(1:Int)))) (s4_40.l[0]?) Z8.zero fun x61=>bif ((decide (x60.FKind=(1:Int)))&&((x61.FText==([33]:Bs)))) then((appC 8 y43_l1.FWraps (⟨false,[(1:Int)]⟩:Sl Int)).bind fun x63=>(partC s4_40 (some (1:Int)) none).bind fun x64=>Z158_j44 s8_41 y42_l0 ((Z158_l39  n39)) x64 (TRef.mk y43_l1.FName x63)) else(Z158_j44 s8_41 y42_l0 ((Z158_l39  n39)) s4_40 y43_l1)
def Z158_j11  (s4_12:(Sl Z8)) (s8_13:Int):Option (TRef×Int):=(s4_12.l[0]?).bind fun x16=>bif (!decide (x16.FKind=(2:Int))) then(some ((TRef.mk ([]:Bs) (Sl.nil:Sl Int)),(3:Int))) else((s4_12.l[0]?).bind fun x20=>(partC s4_12 (some (1:Int)) none).bind fun x21=>Z158_l39 F0 x21 s8_13 TRef.zero (TRef.mk x20.FText TRef.zero.FWraps))
def Z158_l65 :Nat->(Sl Z8)->Int->Option (TRef×Int)
 | 0,_,_=>none
 | n65+1,s4_66,s8_67=>(s4_66.l[0]?).bind fun x70=>guardO ((decide (x70.FKind=(1:Int)))) (s4_66.l[0]?) Z8.zero fun x71=>bif ((decide (x70.FKind=(1:Int)))&&((x71.FText==([91]:Bs)))) then((addC s8_67 (1:Int)).bind fun x73=>(partC s4_66 (some (1:Int)) none).bind fun x74=>(Z158_l65  n65) x74 x73) else(Z158_j11   s4_66 s8_67)
def Z158 (a0:Bs):Option (TRef×Int):=(Z147 a0).bind fun x3=>bif (!decide (x3.2.2=(0:Int))) then(some ((TRef.mk ([]:Bs) (Sl.nil:Sl Int)),x3.2.2)) else(Z158_l65 F0 x3.1 (0:Int))
theorem Z158_walk {a0:Bs}{r:TRef×Int}(hE:Z158 a0=some r) (H:Heap) :ACalls Tryz.prog 69 [.d (.str a0)] H fun v h'=>v=.tup [.agg (TRef.c r.1),.d (.int .i64 r.2)]/\h'=H:=by
 unfold Z158 at hE;refine ACalls.oW 106 [.cell 2 49,.tmp 3] Tryz.call69 Tryz.func69 ?_;refine seqR ?_;refine Sl ?_;refine S As (nil ?_);refine seqR (S Mv ?_);obtain⟨x3,gx3,hE⟩:=bO hE;refine Sc rfl rfl (Z147_walk gx3) ?_;refine S Mv (S EX (S EX (S EX (S As (S As (S As (nil ?_)))))));refine seqK fun K4 hK4=>?_;refine seqR (S Mv (S BI (nil ?_)));refine cE hE (fun hc6 hE=>?_) (fun hc6 hE=>?_)
 ·refine seqR (S BU (S Mv ?_));refine Sf ?_;refine S As (nil ?_);exact rt hE
 refine sk hK4 ?_;clear hK4 K4;refine seqR ?_;refine Sl ?_;refine AOps.arrO 1 fun tk7_9 htk7_9=>?_;refine AOps.relocal 1 _ rfl (fun j w cs hh hx=>arr_cell 1 1 1 hh (t:=tk7_9) hpG hx rfl) ?_;refine nil ?_;refine seqR (S As (nil ?_));refine seqJH (TA 2 (TA 7 KeepsT.nil)) (fun(z:(Sl Z8)×Int)=>[(4,.a (.d (Sl.d 3 Z8.c none z.1))),(8,.a (.d (.int .i64 z.2)))]) (fun z=>(H.set tk7_9 (some (.arr 1 [])))) (fun z=>Z158_j11 z.1 z.2=some r) ?_ ?_
 ·intro K11 hK11;refine block ?_;refine loopH (TA 2 (TA 7 KeepsT.nil)) (fun(z:Nat×(Sl Z8)×Int)=>[(4,.a (.d (Sl.d 3 Z8.c none z.2.1))),(8,.a (.d (.int .i64 z.2.2)))]) (fun z=>(H.set tk7_9 (some (.arr 1 [])))) (fun z=>z.1) (fun z=>Z158_l65 z.1 z.2.1 z.2.2=some r) (F0,x3.1,(0:Int)) hE Weak.toA ?_;rintro ⟨n65,s4_66,s8_67⟩ hE K65 hK65;try dsimp only at hE
  cases n65 with
  | zero=>cases hE
  | succ n65 =>
    rw [Z158_l65] at hE;refine seqK fun K68 hK68=>?_;refine seqR (S Mv ?_);obtain⟨x70,gx70,hE⟩:=bO hE;refine S (ix Z8.c 0 gx70) (S Fv (S Ld (S BI (S Mv (G0 Mv ?_)))));obtain⟨x71,gx71,hE⟩:=gO hE;refine gC rfl rfl (fun hC=>ungdA (k:=25) rfl (idxMn (f:=Z8.c) (n:=0) (TK rfl) rfl (TK rfl) rfl rfl rfl (gx71 hC))) rfl ?_;refine G1 26 rfl Fv ?_;refine G1 27 rfl Ld ?_;refine G1 28 rfl BS ?_;refine S PA (nil ?_)
    refine cE hE (fun hc72 hE=>?_) (fun hc72 hE=>?_)
    ·refine sk hK68 ?_;clear hK68 K68;refine block ?_;refine AWp.draw rfl ?_;refine Sd Mv ?_;obtain⟨x73,gx73,hE⟩:=bO hE;refine DOps.s0 (addM rfl rfl gx73) rfl ?_;refine Sd Mv ?_;obtain⟨x74,gx74,hE⟩:=bO hE;refine DOps.s0 (partM (f:=Z8.c) (l:=(some (1:Int))) (r:=none) (TK rfl) rfl (TK rfl) rfl rfl rfl trivial gx74) rfl ?_;refine Sd As (Sd As ?_);refine DOps.nil (by decide +kernel) ?_;exact hK65 _ (n65,x74,x73) Weak.toA hE (Nat.lt_succ_self _)
    refine AWp.exit ?_;exact hK11 _ (s4_66,s8_67) Weak.toA hE
 rintro ⟨s4_12,s8_13⟩ hE;try dsimp only at hE
 unfold Z158_j11 at hE;refine seqK fun K14 hK14=>?_;refine seqR (S Mv ?_);obtain⟨x16,gx16,hE⟩:=bO hE;refine S (ix Z8.c 0 gx16) (S Fv (S Ld (S BI (nil ?_))));refine cE hE (fun hc17 hE=>?_) (fun hc17 hE=>?_)
 ·refine seqR (S BU ?_);refine Sf ?_;refine S As (nil ?_);refine AWp.ret ?_;repeat (first|refine xBlock_ret ?_|refine xThen_ret ?_)
  obtain rfl:=Option.some.inj hE;refine retQ.retF H rfl ⟨rfl,rfl⟩ ?_
  first|exact Heap.sub_set htk7_9|(simp only [Heap.set_set]; exact Heap.sub_set htk7_9)
 refine sk hK14 ?_;clear hK14 K14;refine AWp.seqD (Sd Mv ?_);obtain⟨x20,gx20,hE⟩:=bO hE;refine Sd (ix Z8.c 0 gx20) (Sd Fv (Sd Ld (Sd Mv ?_)));obtain⟨x21,gx21,hE⟩:=bO hE;refine DOps.s0 (partM (f:=Z8.c) (l:=(some (1:Int))) (r:=none) (TK rfl) rfl (TK rfl) rfl rfl rfl trivial gx21) rfl ?_;refine Sd FL ?_;refine DOps.sLn (storeL1 (TK rfl) rfl rfl rfl rfl (by repeat (first|exact SetAt.zero|apply SetAt.succ)) (by repeat (first|exact SetAt.zero|apply SetAt.succ))) ?_
 refine Sd As ?_;refine DOps.nil (by decide +kernel) ?_;refine seqJ (TA 2 (TA 7 KeepsT.nil)) (fun(z:(Sl Z8)×TRef×TRef)=>[(4,.a (.d (Sl.d 3 Z8.c none z.1)))]) (fun z=>[TRef.c z.2.1,(strE z.2.2.FName++[.arr 1 tk7_9 z.2.2.FWraps.nl z.2.2.FWraps.l.length])]) (fun z=>(H.set tk7_9 (some (.arr 1 (z.2.2.FWraps.l.map (intE .i64)))))) (fun z=>Z158_j22 z.1 z.2.1 z.2.2=some r) ?_ ?_
 ·intro K22 hK22;refine block ?_;refine loopO (TA 2 (TA 7 KeepsT.nil)) (fun(z:Nat×(Sl Z8)×Int×TRef×TRef)=>[(4,.a (.d (Sl.d 3 Z8.c none z.2.1))),(8,.a (.d (.int .i64 z.2.2.1)))]) (fun z=>[TRef.c z.2.2.2.1,(strE z.2.2.2.2.FName++[.arr 1 tk7_9 z.2.2.2.2.FWraps.nl z.2.2.2.2.FWraps.l.length])]) (fun z=>(H.set tk7_9 (some (.arr 1 (z.2.2.2.2.FWraps.l.map (intE .i64)))))) (fun z=>z.1) (fun z=>Z158_l39 z.1 z.2.1 z.2.2.1 z.2.2.2.1 z.2.2.2.2=some r) (F0,x21,s8_13,TRef.zero,(TRef.mk x20.FText TRef.zero.FWraps)) hE Weak.toA ?_
  rintro ⟨n39,s4_40,s8_41,y42_l0,y43_l1⟩ hE K39 hK39;try dsimp only at hE
  cases n39 with
  | zero=>cases hE
  | succ n39 =>
    rw [Z158_l39] at hE;refine block ?_;refine seqJ (TA 2 (TA 7 (TA 8 KeepsT.nil))) (fun(z:(Sl Z8)×TRef)=>[(4,.a (.d (Sl.d 3 Z8.c none z.1)))]) (fun z=>[TRef.c y42_l0,(strE z.2.FName++[.arr 1 tk7_9 z.2.FWraps.nl z.2.FWraps.l.length])]) (fun z=>(H.set tk7_9 (some (.arr 1 (z.2.FWraps.l.map (intE .i64)))))) (fun z=>Z158_j44 s8_41 y42_l0 ((Z158_l39 n39)) z.1 z.2=some r) ?_ ?_
    ·intro K44 hK44;refine seqR (S Mv ?_);obtain⟨x60,gx60,hE⟩:=bO hE;refine S (ix Z8.c 0 gx60) (S Fv (S Ld (S BI (S Mv (G0 Mv ?_)))));obtain⟨x61,gx61,hE⟩:=gO hE;refine gC rfl rfl (fun hC=>ungdA (k:=54) rfl (idxMn (f:=Z8.c) (n:=0) (TK rfl) rfl (TK rfl) rfl rfl rfl (gx61 hC))) rfl ?_;refine G1 55 rfl Fv ?_;refine G1 56 rfl Ld ?_;refine G1 57 rfl BS ?_;refine S PA (nil ?_);refine cE hE (fun hc62 hE=>?_) (fun hc62 hE=>?_)
     ·refine AWp.draw rfl ?_;refine Sd FL (Sd LL (Sd BV ?_));obtain⟨x63,gx63,hE⟩:=bO hE;refine DOps.sH (appR (f:=(intE .i64)) (s:=y43_l1.FWraps) (TK rfl) rfl (TK rfl) (TK rfl) ⟨_,rfl⟩ rfl rfl rfl rfl rfl rfl hpG (by first|rfl|simp [Sl.setL,Sl.nil,sortL_len]) rfl gx63) rfl ?_;refine DOps.Dh (H.set tk7_9 (some (.arr 1 (x63.l.map (intE .i64))))) ?_;refine Sd Mv ?_;obtain⟨x64,gx64,hE⟩:=bO hE;refine DOps.s0 (partM (f:=Z8.c) (l:=(some (1:Int))) (r:=none) (TK rfl) rfl (TK rfl) rfl rfl rfl trivial gx64) rfl ?_
      refine Sd FL ?_;refine DOps.sLn (storeL1 (TK rfl) rfl rfl rfl rfl (by repeat (first|exact SetAt.zero|apply SetAt.succ)) (by repeat (first|exact SetAt.zero|apply SetAt.succ))) ?_;refine Sd As ?_;refine DOps.nil (by decide +kernel) ?_;exact hK44 _ (x64,(TRef.mk y43_l1.FName x63)) Weak.toA hE
     refine AWp.skip ?_;exact hK44 _ (s4_40,y43_l1) Weak.toA hE
    rintro ⟨s4_45,y46_l1⟩ hE;try dsimp only at hE
    unfold Z158_j44 at hE;refine seqK fun K47 hK47=>?_;refine seqR (S Mv (S BI (nil ?_)));refine cE hE (fun hc49 hE=>?_) (fun hc49 hE=>?_)
    ·refine AWp.exit ?_;exact hK22 _ (s4_45,y42_l0,y46_l1) Weak.toA hE
    refine sk hK47 ?_;clear hK47 K47;refine seqK fun K50 hK50=>?_;refine seqR (S Mv ?_);obtain⟨x52,gx52,hE⟩:=bO hE;refine S (ix Z8.c 0 gx52) (S Fv (S Ld (S BI (S Mv (G0 Mv ?_)))));obtain⟨x53,gx53,hE⟩:=gO hE;refine gC rfl rfl (fun hC=>ungdA (k:=75) rfl (idxMn (f:=Z8.c) (n:=0) (TK rfl) rfl (TK rfl) rfl rfl rfl (gx53 hC))) rfl ?_;refine G1 76 rfl Fv ?_;refine G1 77 rfl Ld ?_;refine G1 78 rfl BS ?_;refine S PO (nil ?_)
    refine cE hE (fun hc54 hE=>?_) (fun hc54 hE=>?_)
    ·refine seqR (S BU ?_);refine Sf ?_;refine S As (nil ?_);refine AWp.ret ?_;repeat (first|refine xBlock_ret ?_|refine xThen_ret ?_)
     obtain rfl:=Option.some.inj hE;refine retQ.retF H rfl ⟨rfl,rfl⟩ ?_
     first|exact Heap.sub_set htk7_9|(simp only [Heap.set_set]; exact Heap.sub_set htk7_9)
    refine sk hK50 ?_;clear hK50 K50;refine AWp.draw rfl ?_;refine Sd FL (Sd LL (Sd BV ?_));obtain⟨x56,gx56,hE⟩:=bO hE;refine DOps.sH (appR (f:=(intE .i64)) (s:=y46_l1.FWraps) (TK rfl) rfl (TK rfl) (TK rfl) ⟨_,rfl⟩ rfl rfl rfl rfl rfl rfl hpG (by first|rfl|simp [Sl.setL,Sl.nil,sortL_len]) rfl gx56) rfl ?_;refine DOps.Dh (H.set tk7_9 (some (.arr 1 (x56.l.map (intE .i64))))) ?_;refine Sd Mv ?_;obtain⟨x57,gx57,hE⟩:=bO hE
    refine DOps.s0 (partM (f:=Z8.c) (l:=(some (1:Int))) (r:=none) (TK rfl) rfl (TK rfl) rfl rfl rfl trivial gx57) rfl ?_;refine Sd Mv ?_;obtain⟨x58,gx58,hE⟩:=bO hE;refine DOps.s0 (subM rfl rfl gx58) rfl ?_;refine Sd FL ?_;refine DOps.sLn (storeL1 (TK rfl) rfl rfl rfl rfl (by repeat (first|exact SetAt.zero|apply SetAt.succ)) (by repeat (first|exact SetAt.zero|apply SetAt.succ))) ?_;refine Sd As (Sd As ?_)
    refine DOps.nil (by decide +kernel) ?_;exact hK39 _ (n39,x57,x58,y42_l0,(TRef.mk y46_l1.FName x56)) Weak.toA hE (Nat.lt_succ_self _)
 rintro ⟨s4_23,y24_l0,y25_l1⟩ hE;try dsimp only at hE
 unfold Z158_j22 at hE;refine seqK fun K26 hK26=>?_;refine seqR (S Mv ?_);obtain⟨x28,gx28,hE⟩:=bO hE;refine S (ix Z8.c 0 gx28) (S Fv (S Ld (S BI (nil ?_))));refine cE hE (fun hc29 hE=>?_) (fun hc29 hE=>?_)
 ·refine seqR (S BU ?_);refine Sf ?_;refine S As (nil ?_);refine AWp.ret ?_;repeat (first|refine xBlock_ret ?_|refine xThen_ret ?_)
  obtain rfl:=Option.some.inj hE;refine retQ.retF H rfl ⟨rfl,rfl⟩ ?_
  first|exact Heap.sub_set htk7_9|(simp only [Heap.set_set]; exact Heap.sub_set htk7_9)
 refine sk hK26 ?_;clear hK26 K26;refine seqK fun K31 hK31=>?_;refine seqR (S FL (S LL ?_));refine AOps.sLenR (f:=(intE .i64)) (l:=y25_l1.FWraps.l) (TK rfl) rfl rfl rfl hpG (by first|rfl|simp [Sl.setL,Sl.nil,sortL_len]) rfl fun hL33=>?_;refine S BI (nil ?_);refine cE hE (fun hc34 hE=>?_) (fun hc34 hE=>?_)
 ·refine seqR (S BU ?_);refine Sf ?_;refine S As (nil ?_);refine AWp.ret ?_;repeat (first|refine xBlock_ret ?_|refine xThen_ret ?_)
  obtain rfl:=Option.some.inj hE;refine retQ.retF H rfl ⟨rfl,rfl⟩ ?_
  first|exact Heap.sub_set htk7_9|(simp only [Heap.set_set]; exact Heap.sub_set htk7_9)
 refine sk hK31 ?_;clear hK31 K31;refine seqR (S FL (S LL ?_));obtain⟨x37,gx37,hE⟩:=bO hE;have ex37:=Option.some.inj gx37;refine sH (callH rfl rfl (Z129_walk (s:=y25_l1.FWraps) hpG (by first|rfl|simp [Sl.setL,Sl.nil,sortL_len]))) rfl ?_;refine AOps.heq (h':=(H.set tk7_9 (some (.arr 1 (x37.l.map (intE .i64)))))) (by subst ex37; exact(by first|rfl|(rw [Heap.set_set]; rfl)|(funext n_; simp only [Heap.set]; (repeat' split)<;>first|rfl|(exfalso; simp_all; done)|(simp_all; done)))) ?_
 refine AOps.relocal 1 (strE (TRef.mk y25_l1.FName x37).FName++[.arr 1 tk7_9 (TRef.mk y25_l1.FName x37).FWraps.nl (TRef.mk y25_l1.FName x37).FWraps.l.length]) rfl (fun j w cs hh hx=>by subst ex37; first|exact hx|simpa [Sl.rev] using hx) ?_;refine nil ?_;refine seqK fun K38 hK38=>?_;refine AWp.frzL 1 1 tk7_9 rfl rfl hpG (by first|rfl|(simp [Sl.setL,Sl.nil,sortL_len]; done)|(subst_vars; first|rfl|(simp [Sl.setL,Sl.nil,sortL_len]; done))) ?_
 refine AWp.heqA (h':=H) (by first|rfl|(rw [Heap.set_set]; rfl)|(funext n_; simp only [Heap.set]; (repeat' split)<;>first|rfl|(exfalso; simp_all; done)|(simp_all; done))) ?_;refine region ?_;refine S LL ?_;refine Sf ?_;refine S As (nil ?_);refine hK38 _ ?_;clear hK38 K38;exact rt hE
def Z156 (a0:TRef):Option Bool:=guardO ((decide ((0:Int)<((a0.FWraps.l.length:Nat):Int)))) (a0.FWraps.l[0]?) (0:Int) fun x4=>some ((decide ((0:Int)<((a0.FWraps.l.length:Nat):Int)))&&(decide (x4=(1:Int))))
theorem Z156_walk {a0:TRef}{r:Bool}(hE:Z156 a0=some r) (H:Heap) :ACalls Tryz.prog 53 [.agg (TRef.c a0)] H fun v h'=>v=.a (.d (.bool r))/\h'=H:=by
 unfold Z156 at hE;refine ACalls.oW 14 [.tmp 2] Tryz.call53 Tryz.func53 ?_;refine seqR (S BX (S As (nil ?_)));refine seqR (S Fv (S Ld ?_));refine sLen (f:=(intE .i64)) (s:=a0.FWraps) (TK rfl) rfl rfl rfl rfl fun hL3=>?_;refine S BI (S Mv (G0 Fv ?_));refine G1 8 rfl Ld ?_;obtain⟨x4,gx4,hE⟩:=gO hE;refine gC rfl rfl (fun hC=>ungdA (k:=9) rfl (idxMn (f:=(intE .i64)) (n:=0) (TK rfl) rfl (TK rfl) rfl rfl rfl (gx4 hC))) rfl ?_
 refine G1 10 rfl Ld ?_;refine G1 11 rfl BI ?_;refine S PA (S As (nil ?_));exact rt hE
def Z122 (a0:(Sl Int)):Option (Sl Int):=bif a0.nl then(some (Sl.nil:Sl Int)) else((appC 8 (⟨false,[]⟩:Sl Int) a0).bind fun x7=>some x7)
theorem Z122_walk {a0:Sl Int}{w0:Option Nat}{r:Sl Int}(hE:Z122 a0=some r) (H:Heap) :ACalls Tryz.prog 283 [.d (Sl.d 1 (intE .i64) w0 a0)] H fun v h'=>v=.a (.d (Sl.d 1 (intE .i64) none r))/\h'=H:=by
 unfold Z122 at hE;refine ACalls.oW 8 [.tmp 2] Tryz.call283 Tryz.func283 ?_;refine seqR ?_;refine s0 (assignNil (k':=1) rfl) rfl ?_;refine nil ?_;refine seqK fun K2 hK2=>?_;refine seqR (S Mv ?_);refine s0 (eqNil (TK rfl) rfl rfl) rfl ?_;refine nil ?_;refine cE hE (fun hc4 hE=>?_) (fun hc4 hE=>?_)
 ·refine seqR ?_;refine s0 (assignNil (k':=1) rfl) rfl ?_;refine nil ?_;exact rt hE
 refine sk hK2 ?_;clear hK2 K2;refine seqR ?_;refine s0 (buildSliceF (TK rfl) rfl (TK rfl) rfl rfl rfl rfl rfl rfl) rfl ?_;refine S Mv ?_;obtain⟨x7,gx7,hE⟩:=bO hE;refine s0 (appFM (f:=(intE .i64)) (TK rfl) rfl (TK rfl) (TK rfl) ⟨_,rfl⟩ rfl rfl (by decide) rfl rfl rfl (by intro q h; cases h<;>decide) rfl rfl gx7) rfl ?_;refine S As (nil ?_);exact rt hE
theorem Z122_arr {a0:Sl Int}{w0:Option Nat}{ar0:Nat}{r:Sl Int}(hE:Z122 a0=some r) (H:Heap) (har0:H ar0=some (.arr 1 [])) :ACalls Tryz.prog 283 [.d (Sl.d 1 (intE .i64) w0 a0)] H fun v h'=>v=.a (.d (.arr 1 ar0 r.nl r.l.length))/\h'=H.set ar0 (some (.arr 1 (r.l.map (intE .i64)))):=by
 unfold Z122 at hE;refine ACalls.oW 8 [.tmp 2] Tryz.call283 Tryz.func283 ?_;refine AWp.heqA (h':=(H.set ar0 (some (.arr 1 [])))) (by funext n_; simp only [Heap.set]; (repeat' split)<;>simp_all) ?_;refine seqR ?_;refine s0 (assignNil (k':=1) rfl) rfl ?_;refine AOps.nilR 2 1 ar0 rfl hpG ?_;refine nil ?_;refine seqK fun K2 hK2=>?_;refine seqR (S Mv ?_);refine s0 (eqNil (TK rfl) rfl rfl) rfl ?_;refine nil ?_
 refine cE hE (fun hc4 hE=>?_) (fun hc4 hE=>?_)
 ·refine seqR ?_;refine s0 (assignNil (k':=1) rfl) rfl ?_;refine AOps.nilR 2 1 ar0 rfl hpG ?_;refine nil ?_;exact rt hE
 refine sk hK2 ?_;clear hK2 K2;refine seqR ?_;refine s0 (buildSliceF (TK rfl) rfl (TK rfl) rfl rfl rfl rfl rfl rfl) rfl ?_;refine AOps.fullR 5 1 ar0 rfl hpG ?_;refine S Mv ?_;obtain⟨x7,gx7,hE⟩:=bO hE;refine sH (appR (f:=(intE .i64)) (s:=(⟨false,[]⟩:Sl Int)) (TK rfl) rfl (TK rfl) (TK rfl) ⟨_,rfl⟩ rfl rfl rfl rfl rfl rfl hpG (by first|rfl|simp [Sl.setL,Sl.nil,sortL_len]) rfl gx7) rfl ?_;refine hq (H.set ar0 (some (.arr 1 (x7.l.map (intE .i64))))) ?_
 refine S As (nil ?_);exact rt hE
def Z157_j3 (a0:TRef)  (s3_4:(Sl Int)):Option TRef:=(Z122 s3_4).bind fun x6=>some (TRef.mk a0.FName x6)
def Z157 (a0:TRef):Option TRef:=(Z156 a0).bind fun x8=>bif x8 then((partC a0.FWraps (some (1:Int)) none).bind fun x10=>Z157_j3 a0  x10) else(Z157_j3 a0  a0.FWraps)
theorem Z157_walk {a0 r:TRef}(hE:Z157 a0=some r) (H:Heap) :ACalls Tryz.prog 233 [.agg (TRef.c a0)] H fun v h'=>v=.a (.agg (TRef.c r))/\h'=H:=by
 unfold Z157 at hE;refine ACalls.oW 15 [.cell 2 49] Tryz.call233 Tryz.func233 ?_;refine seqR (S BX ?_);refine Sl ?_;refine nil ?_;refine seqR (S Fv (S Ld (S As (nil ?_))));refine seqJH (TA 1 (TA 2 KeepsT.nil)) (fun(z:(Sl Int))=>[(3,.a (.d (Sl.d 1 (intE .i64) none z)))]) (fun z=>H) (fun z=>Z157_j3 a0 z=some r) ?_ ?_
 ·intro K3 hK3;refine seqR (S Ld ?_);obtain⟨x8,gx8,hE⟩:=bO hE;refine Sc rfl rfl (Z156_walk gx8) ?_;refine nil ?_;refine cE hE (fun hc9 hE=>?_) (fun hc9 hE=>?_)
  ·refine region ?_;refine S Mv ?_;obtain⟨x10,gx10,hE⟩:=bO hE;refine s0 (partM (f:=(intE .i64)) (l:=(some (1:Int))) (r:=none) (TK rfl) rfl (TK rfl) rfl rfl rfl trivial gx10) rfl ?_;refine S As (nil ?_);exact hK3 _ x10 Weak.toA hE
  refine AWp.skip ?_;exact hK3 _ a0.FWraps Weak.toA hE
 rintro s3_4 hE;try dsimp only at hE
 unfold Z157_j3 at hE;refine AWp.seqD (Sd Fv (Sd Ld (Sd Mv ?_)));obtain⟨x6,gx6,hE⟩:=bO hE;refine Scd rfl rfl (Z122_walk gx6) ?_;refine Sd BU ?_;refine DOps.sLn (storeLFA (TK rfl) rfl rfl rfl rfl rfl) ?_;refine DOps.nil (by decide +kernel) ?_;exact rt hE
def Z155 (a0:TRef):Option Bool:=(Z157 a0).bind fun x3=>guardO ((decide ((0:Int)<((x3.FWraps.l.length:Nat):Int)))) (x3.FWraps.l[0]?) (0:Int) fun x6=>some ((decide ((0:Int)<((x3.FWraps.l.length:Nat):Int)))&&(decide (x6=(2:Int))))
theorem Z155_walk {a0:TRef}{r:Bool}(hE:Z155 a0=some r) (H:Heap) :ACalls Tryz.prog 232 [.agg (TRef.c a0)] H fun v h'=>v=.a (.d (.bool r))/\h'=H:=by
 unfold Z155 at hE;refine ACalls.oW 16 [.tmp 2] Tryz.call232 Tryz.func232 ?_;refine seqR ?_;refine sL (boxL rfl (by repeat (first|exact Snoc.nil|apply Snoc.cons))) rfl ?_;refine S As (nil ?_);refine seqR (S LL ?_);obtain⟨x3,gx3,hE⟩:=bO hE;refine Sc rfl rfl (Z157_walk gx3) ?_;refine Sf ?_;refine nil ?_;refine seqR (S FL (S LL ?_));refine sLen (f:=(intE .i64)) (s:=x3.FWraps) (TK rfl) rfl rfl rfl rfl fun hL5=>?_
 refine S BI (S Mv (G0 FL ?_));refine gC rfl rfl (fun hC=>ungdLA (k:=10) rfl (loadL (TK rfl) rfl rfl rfl rfl)) rfl ?_;obtain⟨x6,gx6,hE⟩:=gO hE;refine gC rfl rfl (fun hC=>ungdA (k:=11) rfl (idxMn (f:=(intE .i64)) (n:=0) (TK rfl) rfl (TK rfl) rfl rfl rfl (gx6 hC))) rfl ?_;refine G1 12 rfl Ld ?_;refine G1 13 rfl BI ?_;refine S PA (S As (nil ?_));exact rt hE
def Z154 (a0:TRef):Option (TRef×Bool):=(Z155 a0).bind fun x4=>bif (!x4) then(some ((TRef.mk ([]:Bs) (Sl.nil:Sl Int)),false)) else((Z157 a0).bind fun x8=>(partC x8.FWraps (some (1:Int)) none).bind fun x10=>some ((TRef.mk x8.FName x10),true))
theorem Z154_walk {a0:TRef}{r:TRef×Bool}(hE:Z154 a0=some r) (H:Heap) :ACalls Tryz.prog 186 [.agg (TRef.c a0)] H fun v h'=>v=.tup [.agg (TRef.c r.1),.d (.bool r.2)]/\h'=H:=by
 unfold Z154 at hE;refine ACalls.oW 15 [.cell 2 49,.tmp 3] Tryz.call186 Tryz.func186 ?_;refine seqR ?_;refine sL (boxL rfl (by repeat (first|exact Snoc.nil|apply Snoc.cons))) rfl ?_;refine Sl ?_;refine S As (nil ?_);refine seqK fun K2 hK2=>?_;refine seqR (S LL ?_);obtain⟨x4,gx4,hE⟩:=bO hE;refine Sc rfl rfl (Z155_walk gx4) ?_;refine S NB (nil ?_);refine cE hE (fun hc5 hE=>?_) (fun hc5 hE=>?_)
 ·refine seqR (S BU ?_);refine Sf ?_;refine S As (nil ?_);exact rt hE
 refine sk hK2 ?_;clear hK2 K2;refine seqR (S LL ?_);obtain⟨x8,gx8,hE⟩:=bO hE;refine Sc rfl rfl (Z157_walk gx8) ?_;refine Sf ?_;refine nil ?_;refine seqR (S FL (S LL ?_));obtain⟨x10,gx10,hE⟩:=bO hE;refine s0 (partM (f:=(intE .i64)) (l:=(some (1:Int))) (r:=none) (TK rfl) rfl (TK rfl) rfl rfl rfl trivial gx10) rfl ?_;refine S FL ?_;refine Sf ?_;refine nil ?_;refine seqR (S LL ?_);refine Sf ?_;refine S As (nil ?_)
 exact rt hE
def Tryz.lay307_ren:Go.Shelf.Ren:=⟨fun|10=>307|6=>342|n=>n,fun|22=>47|23=>3|25=>328|3=>3|4=>4|0=>0|n=>n,fun|n=>n⟩
theorem Tryz.lay307:Go.Proofs.SlLaysH.n10 Tryz.prog Tryz.lay307_ren:={
 mixed:=by kernel_rfl
 f6:=⟨Tryz.f342.name,by decide,Tryz.func342.trans (congrArg some (by kernel_rfl))⟩
 f10:=⟨Tryz.f307.name,by decide,Tryz.func307.trans (congrArg some (by kernel_rfl))⟩
 t0:=Tryz.underlying0
 a0:=Tryz.isAgg0
 z0:=Tryz.sizeOf0
 v0:=Tryz.zeroValue0
 t3:=Tryz.underlying3
 a3:=Tryz.isAgg3
 z3:=Tryz.sizeOf3
 v3:=Tryz.zeroValue3
 t4:=Tryz.underlying4
 a4:=Tryz.isAgg4
 z4:=Tryz.sizeOf4
 v4:=Tryz.zeroValue4
 t22:=Tryz.underlying47
 a22:=Tryz.isAgg47
 z22:=Tryz.sizeOf47
 v22:=Tryz.zeroValue47
 a23:=Tryz.isAgg3
 z23:=Tryz.sizeOf3
 t25:=Tryz.underlying328
 a25:=Tryz.isAgg328
 z25:=Tryz.sizeOf328
 v25:=Tryz.zeroValue328 }
theorem Z125_walk {s:Sl Int}{f:Int->Option Bool}{g:Nat}(ht:∀x,∃z,f x=some z) (eg:∀args w,(callFunc g args).run Tryz.prog w=.ok (.enter g args) w) (hg:∀x z w,f x=some z->Calls Tryz.prog g #[.int .i64 x] w fun e w'=>e=.returned (.bool z)/\w'=w)
  {H:Heap}{id m:Nat}{nl:Bool}(hH:H id=some (.arr 1 (s.l.map (intE .i64)))) (hm:m=s.l.length) (hn:nl=s.nl):ACalls Tryz.prog 307 [.d (.arr 1 id nl m),.d (.func g [])] H fun r h'=>r=.a (.d (Sl.d 1 (intE .i64) none (delL f s)))/\h'=H.set id none :=
 delI_calls Tryz.lay307 Tryz.zeroValue3 ht eg hg hH hm hn rfl
def Z164 (a0:Int):Option Bool:=some (decide (a0=(1:Int)))
theorem Z164_tot (x:Int):∃z,Z164 x=some z:=⟨_,rfl⟩
theorem Z164_enter (args:Array Value) (w:World):(callFunc 308 args).run Tryz.prog w=.ok (.enter 308 args) w:=Tryz.call308 args w
theorem Z164_calls (x:Int) (z:Bool) (w:World) (h:Z164 x=some z):Calls Tryz.prog 308 #[.int .i64 x] w fun e w'=>e=.returned (.bool z)/\w'=w:=by
 obtain rfl:=Option.some.inj h
 go_enter Tryz.func308,Tryz.ntmps308
 go_wp2
 go_ret
 exact⟨rfl,rfl⟩
def Z163 (a0:(Sl Int)):Option (Sl Int):=(Z122 a0).bind fun x3=>(some (delL Z164 x3)).bind fun x4=>some x4
theorem Z163_walk {a0:Sl Int}{w0:Option Nat}{r:Sl Int}(hE:Z163 a0=some r) (H:Heap) :ACalls Tryz.prog 252 [.d (Sl.d 1 (intE .i64) w0 a0)] H fun v h'=>v=.a (.d (Sl.d 1 (intE .i64) none r))/\h'=H:=by
 unfold Z163 at hE;refine ACalls.oW 6 [.tmp 2] Tryz.call252 Tryz.func252 ?_;refine AWp.arrO 1 fun ar1 har1=>?_;refine seqR ?_;refine s0 (assignNil (k':=1) rfl) rfl ?_;refine nil ?_;refine seqR (S Mv ?_);obtain⟨x3,gx3,hE⟩:=bO hE;refine sH (callH rfl rfl (Z122_arr gx3 _ hpG)) rfl ?_;refine hq (H.set ar1 (some (.arr 1 (x3.l.map (intE .i64))))) ?_;obtain⟨x4,gx4,hE⟩:=bO hE;have ex4:=Option.some.inj gx4
 refine sH (callH rfl rfl (Z125_walk (s:=x3) (f:=Z164) Z164_tot Z164_enter Z164_calls hpG (by first|rfl|simp [Sl.setL,Sl.nil,sortL_len]) rfl)) rfl ?_;refine hq H ?_;rw [ex4];refine S As (nil ?_);exact rt hE
def Z161 (a0:TRef) (a1:TRef):Option Bool:=guardO (((a0.FName==a1.FName))) (Z163 a0.FWraps) (Sl.nil:Sl Int) fun x3=>guardO (((a0.FName==a1.FName))) (Z163 a1.FWraps) (Sl.nil:Sl Int) fun x4=>guardO (((a0.FName==a1.FName))) (Z127 x3 x4) false fun x5=>some (((a0.FName==a1.FName))&&x5)
theorem Z161_walk {a0 a1:TRef}{r:Bool}(hE:Z161 a0 a1=some r) (H:Heap) :ACalls Tryz.prog 204 [.agg (TRef.c a0),.agg (TRef.c a1)] H fun v h'=>v=.a (.d (.bool r))/\h'=H:=by
 unfold Z161 at hE;refine ACalls.oW 19 [.tmp 4] Tryz.call204 Tryz.func204 ?_;refine seqR (S BX (S BX (S As (nil ?_))));refine AWp.seqD (Sd Fv (Sd Ld (Sd Fv (Sd Ld (Sd BS (Sd Mv (G0d Fv ?_)))))));refine G1d 11 rfl Ld ?_;obtain⟨x3,gx3,hE⟩:=gO hE;refine Gc1d 12 rfl rfl rfl rfl rfl (fun hC=>Z163_walk (gx3 hC)) ?_;refine G0d Fv ?_;refine G1d 14 rfl Ld ?_;obtain⟨x4,gx4,hE⟩:=gO hE;refine Gc1d 15 rfl rfl rfl rfl rfl (fun hC=>Z163_walk (gx4 hC)) ?_
 obtain⟨x5,gx5,hE⟩:=gO hE;refine Gc2d 13 16 rfl rfl rfl rfl rfl rfl (fun hC=>Z127_walk (gx5 hC)) ?_;refine Sd PA (Sd As ?_);refine DOps.nil (by decide +kernel) ?_;exact rt hE
end Go.Proofs

namespace Go.Proofs
open Go Go.Ab
open AOps Cert AWp Keeps KeepsT
variable {lou:Lou}
def Z162_j14 (y10_l0:TRef) (y11_l1:TRef) (y12_l2:TRef) (k_next_9:TRef->TRef->TRef->TRef->Option (TRef×Bool)) (y15_l3:TRef):Option (TRef×Bool):=(Z154 y10_l0).bind fun x17=>(Z154 y11_l1).bind fun x19=>bif ((!x17.2)||(!x19.2)) then(some (y15_l3,true)) else((appC 8 y15_l3.FWraps (⟨false,[(2:Int)]⟩:Sl Int)).bind fun x25=>k_next_9 x17.1 x19.1 y12_l2 (TRef.mk y15_l3.FName x25))
def Z162_l9 :Nat->TRef->TRef->TRef->TRef->Option (TRef×Bool)
 | 0,_,_,_,_=>none
 | n9+1,y10_l0,y11_l1,y12_l2,y13_l3=>(Z156 y10_l0).bind fun x27=>guardO (x27) (Z156 y11_l1) false fun x28=>bif (x27&&x28) then((appC 8 y13_l3.FWraps (⟨false,[(1:Int)]⟩:Sl Int)).bind fun x30=>Z162_j14 y10_l0 y11_l1 y12_l2 ((Z162_l9  n9)) (TRef.mk y13_l3.FName x30)) else(Z162_j14 y10_l0 y11_l1 y12_l2 ((Z162_l9  n9)) y13_l3)
def Z162 (a0:TRef) (a1:TRef):Option (TRef×Bool):=(Z161 a0 a1).bind fun x4=>bif (!x4) then(some ((TRef.mk ([]:Bs) (Sl.nil:Sl Int)),false)) else(Z162_l9 F0 a0 a1 TRef.zero (TRef.mk a0.FName (Sl.nil:Sl Int)))
theorem Z162_walk {a0 a1:TRef}{r:TRef×Bool}(hE:Z162 a0 a1=some r) (H:Heap) :ACalls Tryz.prog 139 [.agg (TRef.c a0),.agg (TRef.c a1)] H fun v h'=>v=.tup [.agg (TRef.c r.1),.d (.bool r.2)]/\h'=H:=by
 unfold Z162 at hE;refine ACalls.oW 54 [.cell 4 49,.tmp 5] Tryz.call139 Tryz.func139 ?_;refine seqR ?_;refine sL (boxL rfl (by repeat (first|exact Snoc.nil|apply Snoc.cons))) rfl ?_;refine sL (boxL rfl (by repeat (first|exact Snoc.nil|apply Snoc.cons))) rfl ?_;refine Sl ?_;refine S As (nil ?_);refine seqK fun K2 hK2=>?_;refine seqR (S LL (S LL ?_));obtain⟨x4,gx4,hE⟩:=bO hE;refine Sc rfl rfl (Z161_walk gx4) ?_
 refine S NB (nil ?_);refine cE hE (fun hc5 hE=>?_) (fun hc5 hE=>?_)
 ·refine seqR (S BU ?_);refine Sf ?_;refine S As (nil ?_);exact rt hE
 refine sk hK2 ?_;clear hK2 K2;refine seqR (S FL (S LL (S BU ?_)));refine Sl ?_;refine AOps.tok 1 fun tk6_8 htk6_8=>?_;refine AOps.relocal 3 _ rfl (fun j w cs hh hx=>tok_cell 1 1 1 hh (t:=tk6_8) hpG hx rfl) ?_;refine Sf ?_;refine AOps.relocal 3 _ rfl (fun j w cs hh hx=>tok_cell 1 1 1 hh (t:=tk6_8) hpG hx rfl) ?_;refine nil ?_;refine block ?_;refine loopO (TA 2 (TA 3 (TA 4 (TA 6 KeepsT.nil)))) (fun(z:Nat×TRef×TRef×TRef×TRef)=>[]) (fun z=>[TRef.c z.2.1,TRef.c z.2.2.1,TRef.c z.2.2.2.1,(strE z.2.2.2.2.FName++[Sl.d 1 (intE .i64) (some tk6_8) z.2.2.2.2.FWraps])]) (fun z=>(H.set tk6_8 (some (.tok 1 z.2.2.2.2.FWraps.l.length)))) (fun z=>z.1) (fun z=>Z162_l9 z.1 z.2.1 z.2.2.1 z.2.2.2.1 z.2.2.2.2=some r) (F0,a0,a1,TRef.zero,(TRef.mk a0.FName (Sl.nil:Sl Int))) hE Weak.toA ?_
 rintro ⟨n9,y10_l0,y11_l1,y12_l2,y13_l3⟩ hE K9 hK9;try dsimp only at hE
 cases n9 with
 | zero=>cases hE
 | succ n9 =>
   rw [Z162_l9] at hE;refine block ?_;refine seqJ (TA 2 (TA 3 (TA 4 (TA 6 KeepsT.nil)))) (fun(z:TRef)=>[]) (fun z=>[TRef.c y10_l0,TRef.c y11_l1,TRef.c y12_l2,(strE z.FName++[Sl.d 1 (intE .i64) (some tk6_8) z.FWraps])]) (fun z=>(H.set tk6_8 (some (.tok 1 z.FWraps.l.length)))) (fun z=>Z162_j14 y10_l0 y11_l1 y12_l2 ((Z162_l9 n9)) z=some r) ?_ ?_
   ·intro K14 hK14;refine seqR (S LL ?_);obtain⟨x27,gx27,hE⟩:=bO hE;refine Sc rfl rfl (Z156_walk gx27) ?_;refine S Mv (G0 LL ?_);obtain⟨x28,gx28,hE⟩:=gO hE;refine Gc1 22 rfl rfl rfl rfl rfl (fun hC=>Z156_walk (gx28 hC)) ?_;refine S PA (nil ?_);refine cE hE (fun hc29 hE=>?_) (fun hc29 hE=>?_)
    ·refine region ?_;refine S FL (S LL (S BV ?_));obtain⟨x30,gx30,hE⟩:=bO hE;refine SH (am (intE .i64) (TK rfl) rfl (TK rfl) (TK rfl) gx30) ?_;refine hq (H.set tk6_8 (some (.tok 1 x30.l.length))) ?_;refine S FL ?_;refine Sf ?_;refine nil ?_;exact hK14 _ (TRef.mk y13_l3.FName x30) Weak.toA hE
    refine AWp.skip ?_;exact hK14 _ y13_l3 Weak.toA hE
   rintro y15_l3 hE;try dsimp only at hE
   unfold Z162_j14 at hE;refine seqR (S LL ?_);obtain⟨x17,gx17,hE⟩:=bO hE;refine Sc rfl rfl (Z154_walk gx17) ?_;refine S Mv (S EX (S EX ?_));refine Sl ?_;refine Sf ?_;refine S As (nil ?_);refine freezeA 7 _ rfl (KA 2 (KA 3 (KA 4 (KA 6 (KA 8 Keeps.nil))))) ?_;refine seqR (S LL ?_);obtain⟨x19,gx19,hE⟩:=bO hE;refine Sc rfl rfl (Z154_walk gx19) ?_;refine S Mv (S EX (S EX ?_));refine Sl ?_;refine Sf ?_
   refine S As (nil ?_);refine freezeA 9 _ rfl (KA 2 (KA 3 (KA 4 (KA 6 (KA 7 (KA 8 (KA 10 Keeps.nil))))))) ?_;refine seqK fun K20 hK20=>?_;refine seqR (S Mv (S NB (S Mv (G0 Mv ?_))));refine G1 43 rfl NB ?_;refine S PO (nil ?_);refine cE hE (fun hc22 hE=>?_) (fun hc22 hE=>?_)
   ·refine seqK fun K23 hK23=>?_;refine AWp.relocal 3 _ rfl (fun j w cs hh hx=>untok_cell 1 hx rfl) ?_;refine region ?_;refine S LL ?_;refine Sf ?_;refine S As (nil ?_);refine hK23 _ ?_;clear hK23 K23;refine AWp.ret ?_;repeat (first|refine xBlock_ret ?_|refine xThen_ret ?_)
    obtain rfl:=Option.some.inj hE;refine retQ.retF H rfl ⟨rfl,rfl⟩ ?_
    first|exact Heap.sub_set htk6_8|(simp only [Heap.set_set]; exact Heap.sub_set htk6_8)
   refine sk hK20 ?_;clear hK20 K20;refine seqR (S FL (S LL (S BV ?_)));obtain⟨x25,gx25,hE⟩:=bO hE;refine SH (am (intE .i64) (TK rfl) rfl (TK rfl) (TK rfl) gx25) ?_;refine hq (H.set tk6_8 (some (.tok 1 x25.l.length))) ?_;refine S FL ?_;refine Sf ?_;refine nil ?_;refine AWp.draw rfl ?_;refine Sd Ld (Sd Ld ?_);refine DOps.sLn (storeLFA (TK rfl) rfl rfl rfl rfl rfl) ?_;refine DOps.sLn (storeLFA (TK rfl) rfl rfl rfl rfl rfl) ?_
   refine DOps.nil (by decide +kernel) ?_;exact hK9 _ (n9,x17.1,x19.1,y12_l2,(TRef.mk y15_l3.FName x25)) Weak.toA hE (Nat.lt_succ_self _)
def Z153 (a0:TRef) (a1:TRef):Option Bool:=(Z162 a0 a1).bind fun x3=>guardO (x3.2) (Z160 x3.1 a1) false fun x5=>some (x3.2&&x5)
theorem Z153_walk {a0 a1:TRef}{r:Bool}(hE:Z153 a0 a1=some r) (H:Heap) :ACalls Tryz.prog 70 [.agg (TRef.c a0),.agg (TRef.c a1)] H fun v h'=>v=.a (.d (.bool r))/\h'=H:=by
 unfold Z153 at hE;refine ACalls.oW 19 [.tmp 4] Tryz.call70 Tryz.func70 ?_;refine seqR (S BX (S BX (S As (nil ?_))));refine seqR (S Ld (S Ld ?_));obtain⟨x3,gx3,hE⟩:=bO hE;refine Sc rfl rfl (Z162_walk gx3) ?_;refine S Mv (S EX (S EX ?_));refine Sl ?_;refine Sf ?_;refine S As (nil ?_);refine freezeA 5 _ rfl (KA 3 (KA 6 Keeps.nil)) ?_;refine seqR (S Mv (S Mv (G0 Ld (G0 Ld ?_))));obtain⟨x5,gx5,hE⟩:=gO hE
 refine Gc2 15 16 rfl rfl rfl rfl rfl rfl (fun hC=>Z160_walk (gx5 hC)) ?_;refine S PA (S As (nil ?_));exact rt hE
def Z9_j2  :Option Bool:=some false
def Z9_j15 (a0:Z2)  (s27_16:Bool):Option Bool:=bif s27_16 then((Z158 a0.FFrom).bind fun x19=>(Z158 a0.FTo).bind fun x21=>guardO (((decide (x19.2=(0:Int)))&&(decide (x21.2=(0:Int))))) (Z153 x19.1 x21.1) false fun x23=>some (((decide (x19.2=(0:Int)))&&(decide (x21.2=(0:Int))))&&x23)) else(Z9_j2   )
def Z9_j9 (a0:Z2)  (s14_10:Bool):Option Bool:=bif s14_10 then((Z139 a0.FTo ([33]:Bs)).bind fun x13=>guardO ((!x13)) (Z136 a0.FTo ([32,61,32]:Bs)) false fun x14=>some ((!x13)&&(!x14))) else(bif (decide (a0.FKind=(9:Int))) then(Z9_j15 a0  (decide (a0.FKind=(9:Int)))) else(Z9_j15 a0  (decide (a0.FKind=(15:Int)))))
def Z9_j5 (a0:Z2)  (s9_6:Bool):Option Bool:=bif s9_6 then(some true) else(bif (decide (a0.FKind=(8:Int))) then(Z9_j9 a0  (decide (a0.FKind=(8:Int)))) else(Z9_j9 a0  (decide (a0.FKind=(14:Int)))))
def Z9 (a0:Z2):Option Bool:=bif (decide (a0.FKind=(2:Int))) then(Z9_j5 a0  (decide (a0.FKind=(2:Int)))) else(bif (decide (a0.FKind=(5:Int))) then(Z9_j5 a0  (decide (a0.FKind=(5:Int)))) else(bif (decide (a0.FKind=(12:Int))) then(Z9_j5 a0  (decide (a0.FKind=(12:Int)))) else(Z9_j5 a0  (decide (a0.FKind=(18:Int))))))
theorem Z9_walk {a0:Z2}{r:Bool}(hE:Z9 a0=some r) (H:Heap) :ACalls Tryz.prog 27 [.agg (Z2.c a0)] H fun v h'=>v=.a (.d (.bool r))/\h'=H:=by
 unfold Z9 at hE;refine ACalls.oW 53 [.tmp 2] Tryz.call27 Tryz.func27 ?_;refine seqR (S BX (S As (nil ?_)));refine seqJH KeepsT.nil (fun(z:Unit)=>[]) (fun z=>H) (fun z=>Z9_j2 =some r) ?_ ?_
 ·intro K2 hK2;refine seqR (S Fv (S Ld (nil ?_)));refine block ?_;refine seqJH (TA 1 (TA 8 KeepsT.nil)) (fun(z:Bool)=>[(9,.a (.d (.bool z)))]) (fun z=>H) (fun z=>Z9_j5 a0 z=some r) ?_ ?_
  ·intro K5 hK5;refine seqR (S BI (S As (nil ?_)));refine cE hE (fun hc29 hE=>?_) (fun hc29 hE=>?_)
   ·refine AWp.skip ?_;exact hK5 _ (decide (a0.FKind=(2:Int))) Weak.toA hE
   refine seqR (S BI (S As (nil ?_)));refine cE hE (fun hc31 hE=>?_) (fun hc31 hE=>?_)
   ·refine AWp.skip ?_;exact hK5 _ (decide (a0.FKind=(5:Int))) Weak.toA hE
   refine seqR (S BI (S As (nil ?_)));refine cE hE (fun hc33 hE=>?_) (fun hc33 hE=>?_)
   ·refine AWp.skip ?_;exact hK5 _ (decide (a0.FKind=(12:Int))) Weak.toA hE
   refine region ?_;refine S BI (S As (nil ?_));exact hK5 _ (decide (a0.FKind=(18:Int))) Weak.toA hE
  rintro s9_6 hE;try dsimp only at hE
  unfold Z9_j5 at hE;refine cE hE (fun hc7 hE=>?_) (fun hc7 hE=>?_)
  ·refine seqR (S As (nil ?_));exact rt hE
  refine seqJH (TA 1 (TA 8 KeepsT.nil)) (fun(z:Bool)=>[(14,.a (.d (.bool z)))]) (fun z=>H) (fun z=>Z9_j9 a0 z=some r) ?_ ?_
  ·intro K9 hK9;refine seqR (S BI (S As (nil ?_)));refine cE hE (fun hc27 hE=>?_) (fun hc27 hE=>?_)
   ·refine AWp.skip ?_;exact hK9 _ (decide (a0.FKind=(8:Int))) Weak.toA hE
   refine region ?_;refine S BI (S As (nil ?_));exact hK9 _ (decide (a0.FKind=(14:Int))) Weak.toA hE
  rintro s14_10 hE;try dsimp only at hE
  unfold Z9_j9 at hE;refine cE hE (fun hc11 hE=>?_) (fun hc11 hE=>?_)
  ·refine seqR (S Fv (S Ld ?_));obtain⟨x13,gx13,hE⟩:=bO hE;refine Sc rfl rfl (Z139_walk gx13) ?_;refine S NB (S Mv (G0 Fv ?_));refine G1 22 rfl Ld ?_;obtain⟨x14,gx14,hE⟩:=gO hE;refine Gc1 23 rfl rfl rfl rfl rfl (fun hC=>Z136_walk (gx14 hC)) ?_;refine G1 24 rfl NB ?_;refine S PA (S As (nil ?_));exact rt hE
  refine seqJH (TA 1 KeepsT.nil) (fun(z:Bool)=>[(27,.a (.d (.bool z)))]) (fun z=>H) (fun z=>Z9_j15 a0 z=some r) ?_ ?_
  ·intro K15 hK15;refine seqR (S BI (S As (nil ?_)));refine cE hE (fun hc25 hE=>?_) (fun hc25 hE=>?_)
   ·refine AWp.skip ?_;exact hK15 _ (decide (a0.FKind=(9:Int))) Weak.toA hE
   refine region ?_;refine S BI (S As (nil ?_));exact hK15 _ (decide (a0.FKind=(15:Int))) Weak.toA hE
  rintro s27_16 hE;try dsimp only at hE
  unfold Z9_j15 at hE;refine cE hE (fun hc17 hE=>?_) (fun hc17 hE=>?_)
  ·refine seqR (S Fv (S Ld ?_));obtain⟨x19,gx19,hE⟩:=bO hE;refine Sc rfl rfl (Z158_walk gx19) ?_;refine S Mv (S EX (S EX ?_));refine Sl ?_;refine Sf ?_;refine S As (nil ?_);refine freezeA 3 _ rfl (KA 1 (KA 4 Keeps.nil)) ?_;refine seqR (S Fv (S Ld ?_));obtain⟨x21,gx21,hE⟩:=bO hE;refine Sc rfl rfl (Z158_walk gx21) ?_;refine S Mv (S EX (S EX ?_));refine Sl ?_;refine Sf ?_;refine S As (nil ?_);refine freezeA 5 _ rfl (KA 3 (KA 4 (KA 6 Keeps.nil))) ?_
   refine seqR (S Mv (S BI (S Mv (G0 Mv ?_))));refine G1 45 rfl BI ?_;refine S PA (S Mv (G0 Ld (G0 Ld ?_)));obtain⟨x23,gx23,hE⟩:=gO hE;refine Gc2 49 50 rfl rfl rfl rfl rfl rfl (fun hC=>Z153_walk (gx23 hC)) ?_;refine S PA (S As (nil ?_));exact rt hE
  refine AWp.skip ?_;exact hK2 _ () Weak.toA hE
 rintro _ hE;try dsimp only at hE
 unfold Z9_j2 at hE;refine seqR (S As (nil ?_));exact rt hE
section
variable [IsLoud lou]
theorem eqt_36:eqTab Tryz.prog 36=some [.int .i64,.str,.str,.str,.str,.str]:=by kernel_rfl
def Z31 :Option Bool:=(Z33 (TRef.mk ([73,110,116]:Bs) (Sl.nil:Sl Int)) ([121]:Bs)).bind fun x4=>(Z33 (TRef.mk ([73,110,116]:Bs) (⟨false,[(1:Int)]⟩:Sl Int)) ([122]:Bs)).bind fun x5=>(Z10 x4 x5).bind fun x6=>bif (!decide (((x6.l.length:Nat):Int)=(3:Int))) then(some false) else((x6.l[0]?).bind fun x13=>guardO ((decide (x13.FKind=(Z2.mk (9:Int) ([65]:Bs) ([120]:Bs) ([110]:Bs) ([73,110,116]:Bs) ([73,110,116,33]:Bs)).FKind)&&((x13.FType==(Z2.mk (9:Int) ([65]:Bs) ([120]:Bs) ([110]:Bs) ([73,110,116]:Bs) ([73,110,116,33]:Bs)).FType)&&((x13.FField==(Z2.mk (9:Int) ([65]:Bs) ([120]:Bs) ([110]:Bs) ([73,110,116]:Bs) ([73,110,116,33]:Bs)).FField)&&((x13.FArg==(Z2.mk (9:Int) ([65]:Bs) ([120]:Bs) ([110]:Bs) ([73,110,116]:Bs) ([73,110,116,33]:Bs)).FArg)&&((x13.FFrom==(Z2.mk (9:Int) ([65]:Bs) ([120]:Bs) ([110]:Bs) ([73,110,116]:Bs) ([73,110,116,33]:Bs)).FFrom)&&((x13.FTo==(Z2.mk (9:Int) ([65]:Bs) ([120]:Bs) ([110]:Bs) ([73,110,116]:Bs) ([73,110,116,33]:Bs)).FTo)&&true))))))) (x6.l[1]?) Z2.zero fun x14=>guardO (((decide (x13.FKind=(Z2.mk (9:Int) ([65]:Bs) ([120]:Bs) ([110]:Bs) ([73,110,116]:Bs) ([73,110,116,33]:Bs)).FKind)&&((x13.FType==(Z2.mk (9:Int) ([65]:Bs) ([120]:Bs) ([110]:Bs) ([73,110,116]:Bs) ([73,110,116,33]:Bs)).FType)&&((x13.FField==(Z2.mk (9:Int) ([65]:Bs) ([120]:Bs) ([110]:Bs) ([73,110,116]:Bs) ([73,110,116,33]:Bs)).FField)&&((x13.FArg==(Z2.mk (9:Int) ([65]:Bs) ([120]:Bs) ([110]:Bs) ([73,110,116]:Bs) ([73,110,116,33]:Bs)).FArg)&&((x13.FFrom==(Z2.mk (9:Int) ([65]:Bs) ([120]:Bs) ([110]:Bs) ([73,110,116]:Bs) ([73,110,116,33]:Bs)).FFrom)&&((x13.FTo==(Z2.mk (9:Int) ([65]:Bs) ([120]:Bs) ([110]:Bs) ([73,110,116]:Bs) ([73,110,116,33]:Bs)).FTo)&&true))))))&&(decide (x14.FKind=(4:Int))))) (x6.l[2]?) Z2.zero fun x15=>guardO ((((decide (x13.FKind=(Z2.mk (9:Int) ([65]:Bs) ([120]:Bs) ([110]:Bs) ([73,110,116]:Bs) ([73,110,116,33]:Bs)).FKind)&&((x13.FType==(Z2.mk (9:Int) ([65]:Bs) ([120]:Bs) ([110]:Bs) ([73,110,116]:Bs) ([73,110,116,33]:Bs)).FType)&&((x13.FField==(Z2.mk (9:Int) ([65]:Bs) ([120]:Bs) ([110]:Bs) ([73,110,116]:Bs) ([73,110,116,33]:Bs)).FField)&&((x13.FArg==(Z2.mk (9:Int) ([65]:Bs) ([120]:Bs) ([110]:Bs) ([73,110,116]:Bs) ([73,110,116,33]:Bs)).FArg)&&((x13.FFrom==(Z2.mk (9:Int) ([65]:Bs) ([120]:Bs) ([110]:Bs) ([73,110,116]:Bs) ([73,110,116,33]:Bs)).FFrom)&&((x13.FTo==(Z2.mk (9:Int) ([65]:Bs) ([120]:Bs) ([110]:Bs) ([73,110,116]:Bs) ([73,110,116,33]:Bs)).FTo)&&true))))))&&(decide (x14.FKind=(4:Int))))&&(decide (x15.FKind=(Z2.mk (5:Int) ([65]:Bs) ([122]:Bs) ([]:Bs) ([]:Bs) ([73,110,116]:Bs)).FKind)&&((x15.FType==(Z2.mk (5:Int) ([65]:Bs) ([122]:Bs) ([]:Bs) ([]:Bs) ([73,110,116]:Bs)).FType)&&((x15.FField==(Z2.mk (5:Int) ([65]:Bs) ([122]:Bs) ([]:Bs) ([]:Bs) ([73,110,116]:Bs)).FField)&&((x15.FArg==(Z2.mk (5:Int) ([65]:Bs) ([122]:Bs) ([]:Bs) ([]:Bs) ([73,110,116]:Bs)).FArg)&&((x15.FFrom==(Z2.mk (5:Int) ([65]:Bs) ([122]:Bs) ([]:Bs) ([]:Bs) ([73,110,116]:Bs)).FFrom)&&((x15.FTo==(Z2.mk (5:Int) ([65]:Bs) ([122]:Bs) ([]:Bs) ([]:Bs) ([73,110,116]:Bs)).FTo)&&true)))))))) (x6.l[0]?) Z2.zero fun x16=>guardO ((((decide (x13.FKind=(Z2.mk (9:Int) ([65]:Bs) ([120]:Bs) ([110]:Bs) ([73,110,116]:Bs) ([73,110,116,33]:Bs)).FKind)&&((x13.FType==(Z2.mk (9:Int) ([65]:Bs) ([120]:Bs) ([110]:Bs) ([73,110,116]:Bs) ([73,110,116,33]:Bs)).FType)&&((x13.FField==(Z2.mk (9:Int) ([65]:Bs) ([120]:Bs) ([110]:Bs) ([73,110,116]:Bs) ([73,110,116,33]:Bs)).FField)&&((x13.FArg==(Z2.mk (9:Int) ([65]:Bs) ([120]:Bs) ([110]:Bs) ([73,110,116]:Bs) ([73,110,116,33]:Bs)).FArg)&&((x13.FFrom==(Z2.mk (9:Int) ([65]:Bs) ([120]:Bs) ([110]:Bs) ([73,110,116]:Bs) ([73,110,116,33]:Bs)).FFrom)&&((x13.FTo==(Z2.mk (9:Int) ([65]:Bs) ([120]:Bs) ([110]:Bs) ([73,110,116]:Bs) ([73,110,116,33]:Bs)).FTo)&&true))))))&&(decide (x14.FKind=(4:Int))))&&(decide (x15.FKind=(Z2.mk (5:Int) ([65]:Bs) ([122]:Bs) ([]:Bs) ([]:Bs) ([73,110,116]:Bs)).FKind)&&((x15.FType==(Z2.mk (5:Int) ([65]:Bs) ([122]:Bs) ([]:Bs) ([]:Bs) ([73,110,116]:Bs)).FType)&&((x15.FField==(Z2.mk (5:Int) ([65]:Bs) ([122]:Bs) ([]:Bs) ([]:Bs) ([73,110,116]:Bs)).FField)&&((x15.FArg==(Z2.mk (5:Int) ([65]:Bs) ([122]:Bs) ([]:Bs) ([]:Bs) ([73,110,116]:Bs)).FArg)&&((x15.FFrom==(Z2.mk (5:Int) ([65]:Bs) ([122]:Bs) ([]:Bs) ([]:Bs) ([73,110,116]:Bs)).FFrom)&&((x15.FTo==(Z2.mk (5:Int) ([65]:Bs) ([122]:Bs) ([]:Bs) ([]:Bs) ([73,110,116]:Bs)).FTo)&&true)))))))) (Z11 x16) ([]:Bs) fun x17=>guardO (((((decide (x13.FKind=(Z2.mk (9:Int) ([65]:Bs) ([120]:Bs) ([110]:Bs) ([73,110,116]:Bs) ([73,110,116,33]:Bs)).FKind)&&((x13.FType==(Z2.mk (9:Int) ([65]:Bs) ([120]:Bs) ([110]:Bs) ([73,110,116]:Bs) ([73,110,116,33]:Bs)).FType)&&((x13.FField==(Z2.mk (9:Int) ([65]:Bs) ([120]:Bs) ([110]:Bs) ([73,110,116]:Bs) ([73,110,116,33]:Bs)).FField)&&((x13.FArg==(Z2.mk (9:Int) ([65]:Bs) ([120]:Bs) ([110]:Bs) ([73,110,116]:Bs) ([73,110,116,33]:Bs)).FArg)&&((x13.FFrom==(Z2.mk (9:Int) ([65]:Bs) ([120]:Bs) ([110]:Bs) ([73,110,116]:Bs) ([73,110,116,33]:Bs)).FFrom)&&((x13.FTo==(Z2.mk (9:Int) ([65]:Bs) ([120]:Bs) ([110]:Bs) ([73,110,116]:Bs) ([73,110,116,33]:Bs)).FTo)&&true))))))&&(decide (x14.FKind=(4:Int))))&&(decide (x15.FKind=(Z2.mk (5:Int) ([65]:Bs) ([122]:Bs) ([]:Bs) ([]:Bs) ([73,110,116]:Bs)).FKind)&&((x15.FType==(Z2.mk (5:Int) ([65]:Bs) ([122]:Bs) ([]:Bs) ([]:Bs) ([73,110,116]:Bs)).FType)&&((x15.FField==(Z2.mk (5:Int) ([65]:Bs) ([122]:Bs) ([]:Bs) ([]:Bs) ([73,110,116]:Bs)).FField)&&((x15.FArg==(Z2.mk (5:Int) ([65]:Bs) ([122]:Bs) ([]:Bs) ([]:Bs) ([73,110,116]:Bs)).FArg)&&((x15.FFrom==(Z2.mk (5:Int) ([65]:Bs) ([122]:Bs) ([]:Bs) ([]:Bs) ([73,110,116]:Bs)).FFrom)&&((x15.FTo==(Z2.mk (5:Int) ([65]:Bs) ([122]:Bs) ([]:Bs) ([]:Bs) ([73,110,116]:Bs)).FTo)&&true)))))))&&((x17==([65,114,103,84,121,112,101,32,65,46,120,40,110,41,58,32,73,110,116,32,45,62,32,73,110,116,33]:Bs))))) (x6.l[0]?) Z2.zero fun x18=>guardO (((((decide (x13.FKind=(Z2.mk (9:Int) ([65]:Bs) ([120]:Bs) ([110]:Bs) ([73,110,116]:Bs) ([73,110,116,33]:Bs)).FKind)&&((x13.FType==(Z2.mk (9:Int) ([65]:Bs) ([120]:Bs) ([110]:Bs) ([73,110,116]:Bs) ([73,110,116,33]:Bs)).FType)&&((x13.FField==(Z2.mk (9:Int) ([65]:Bs) ([120]:Bs) ([110]:Bs) ([73,110,116]:Bs) ([73,110,116,33]:Bs)).FField)&&((x13.FArg==(Z2.mk (9:Int) ([65]:Bs) ([120]:Bs) ([110]:Bs) ([73,110,116]:Bs) ([73,110,116,33]:Bs)).FArg)&&((x13.FFrom==(Z2.mk (9:Int) ([65]:Bs) ([120]:Bs) ([110]:Bs) ([73,110,116]:Bs) ([73,110,116,33]:Bs)).FFrom)&&((x13.FTo==(Z2.mk (9:Int) ([65]:Bs) ([120]:Bs) ([110]:Bs) ([73,110,116]:Bs) ([73,110,116,33]:Bs)).FTo)&&true))))))&&(decide (x14.FKind=(4:Int))))&&(decide (x15.FKind=(Z2.mk (5:Int) ([65]:Bs) ([122]:Bs) ([]:Bs) ([]:Bs) ([73,110,116]:Bs)).FKind)&&((x15.FType==(Z2.mk (5:Int) ([65]:Bs) ([122]:Bs) ([]:Bs) ([]:Bs) ([73,110,116]:Bs)).FType)&&((x15.FField==(Z2.mk (5:Int) ([65]:Bs) ([122]:Bs) ([]:Bs) ([]:Bs) ([73,110,116]:Bs)).FField)&&((x15.FArg==(Z2.mk (5:Int) ([65]:Bs) ([122]:Bs) ([]:Bs) ([]:Bs) ([73,110,116]:Bs)).FArg)&&((x15.FFrom==(Z2.mk (5:Int) ([65]:Bs) ([122]:Bs) ([]:Bs) ([]:Bs) ([73,110,116]:Bs)).FFrom)&&((x15.FTo==(Z2.mk (5:Int) ([65]:Bs) ([122]:Bs) ([]:Bs) ([]:Bs) ([73,110,116]:Bs)).FTo)&&true)))))))&&((x17==([65,114,103,84,121,112,101,32,65,46,120,40,110,41,58,32,73,110,116,32,45,62,32,73,110,116,33]:Bs))))) (Z9 x18) false fun x19=>guardO ((((((decide (x13.FKind=(Z2.mk (9:Int) ([65]:Bs) ([120]:Bs) ([110]:Bs) ([73,110,116]:Bs) ([73,110,116,33]:Bs)).FKind)&&((x13.FType==(Z2.mk (9:Int) ([65]:Bs) ([120]:Bs) ([110]:Bs) ([73,110,116]:Bs) ([73,110,116,33]:Bs)).FType)&&((x13.FField==(Z2.mk (9:Int) ([65]:Bs) ([120]:Bs) ([110]:Bs) ([73,110,116]:Bs) ([73,110,116,33]:Bs)).FField)&&((x13.FArg==(Z2.mk (9:Int) ([65]:Bs) ([120]:Bs) ([110]:Bs) ([73,110,116]:Bs) ([73,110,116,33]:Bs)).FArg)&&((x13.FFrom==(Z2.mk (9:Int) ([65]:Bs) ([120]:Bs) ([110]:Bs) ([73,110,116]:Bs) ([73,110,116,33]:Bs)).FFrom)&&((x13.FTo==(Z2.mk (9:Int) ([65]:Bs) ([120]:Bs) ([110]:Bs) ([73,110,116]:Bs) ([73,110,116,33]:Bs)).FTo)&&true))))))&&(decide (x14.FKind=(4:Int))))&&(decide (x15.FKind=(Z2.mk (5:Int) ([65]:Bs) ([122]:Bs) ([]:Bs) ([]:Bs) ([73,110,116]:Bs)).FKind)&&((x15.FType==(Z2.mk (5:Int) ([65]:Bs) ([122]:Bs) ([]:Bs) ([]:Bs) ([73,110,116]:Bs)).FType)&&((x15.FField==(Z2.mk (5:Int) ([65]:Bs) ([122]:Bs) ([]:Bs) ([]:Bs) ([73,110,116]:Bs)).FField)&&((x15.FArg==(Z2.mk (5:Int) ([65]:Bs) ([122]:Bs) ([]:Bs) ([]:Bs) ([73,110,116]:Bs)).FArg)&&((x15.FFrom==(Z2.mk (5:Int) ([65]:Bs) ([122]:Bs) ([]:Bs) ([]:Bs) ([73,110,116]:Bs)).FFrom)&&((x15.FTo==(Z2.mk (5:Int) ([65]:Bs) ([122]:Bs) ([]:Bs) ([]:Bs) ([73,110,116]:Bs)).FTo)&&true)))))))&&((x17==([65,114,103,84,121,112,101,32,65,46,120,40,110,41,58,32,73,110,116,32,45,62,32,73,110,116,33]:Bs))))&&(!x19))) (x6.l[2]?) Z2.zero fun x20=>guardO ((((((decide (x13.FKind=(Z2.mk (9:Int) ([65]:Bs) ([120]:Bs) ([110]:Bs) ([73,110,116]:Bs) ([73,110,116,33]:Bs)).FKind)&&((x13.FType==(Z2.mk (9:Int) ([65]:Bs) ([120]:Bs) ([110]:Bs) ([73,110,116]:Bs) ([73,110,116,33]:Bs)).FType)&&((x13.FField==(Z2.mk (9:Int) ([65]:Bs) ([120]:Bs) ([110]:Bs) ([73,110,116]:Bs) ([73,110,116,33]:Bs)).FField)&&((x13.FArg==(Z2.mk (9:Int) ([65]:Bs) ([120]:Bs) ([110]:Bs) ([73,110,116]:Bs) ([73,110,116,33]:Bs)).FArg)&&((x13.FFrom==(Z2.mk (9:Int) ([65]:Bs) ([120]:Bs) ([110]:Bs) ([73,110,116]:Bs) ([73,110,116,33]:Bs)).FFrom)&&((x13.FTo==(Z2.mk (9:Int) ([65]:Bs) ([120]:Bs) ([110]:Bs) ([73,110,116]:Bs) ([73,110,116,33]:Bs)).FTo)&&true))))))&&(decide (x14.FKind=(4:Int))))&&(decide (x15.FKind=(Z2.mk (5:Int) ([65]:Bs) ([122]:Bs) ([]:Bs) ([]:Bs) ([73,110,116]:Bs)).FKind)&&((x15.FType==(Z2.mk (5:Int) ([65]:Bs) ([122]:Bs) ([]:Bs) ([]:Bs) ([73,110,116]:Bs)).FType)&&((x15.FField==(Z2.mk (5:Int) ([65]:Bs) ([122]:Bs) ([]:Bs) ([]:Bs) ([73,110,116]:Bs)).FField)&&((x15.FArg==(Z2.mk (5:Int) ([65]:Bs) ([122]:Bs) ([]:Bs) ([]:Bs) ([73,110,116]:Bs)).FArg)&&((x15.FFrom==(Z2.mk (5:Int) ([65]:Bs) ([122]:Bs) ([]:Bs) ([]:Bs) ([73,110,116]:Bs)).FFrom)&&((x15.FTo==(Z2.mk (5:Int) ([65]:Bs) ([122]:Bs) ([]:Bs) ([]:Bs) ([73,110,116]:Bs)).FTo)&&true)))))))&&((x17==([65,114,103,84,121,112,101,32,65,46,120,40,110,41,58,32,73,110,116,32,45,62,32,73,110,116,33]:Bs))))&&(!x19))) (Z9 x20) false fun x21=>some ((((((decide (x13.FKind=(Z2.mk (9:Int) ([65]:Bs) ([120]:Bs) ([110]:Bs) ([73,110,116]:Bs) ([73,110,116,33]:Bs)).FKind)&&((x13.FType==(Z2.mk (9:Int) ([65]:Bs) ([120]:Bs) ([110]:Bs) ([73,110,116]:Bs) ([73,110,116,33]:Bs)).FType)&&((x13.FField==(Z2.mk (9:Int) ([65]:Bs) ([120]:Bs) ([110]:Bs) ([73,110,116]:Bs) ([73,110,116,33]:Bs)).FField)&&((x13.FArg==(Z2.mk (9:Int) ([65]:Bs) ([120]:Bs) ([110]:Bs) ([73,110,116]:Bs) ([73,110,116,33]:Bs)).FArg)&&((x13.FFrom==(Z2.mk (9:Int) ([65]:Bs) ([120]:Bs) ([110]:Bs) ([73,110,116]:Bs) ([73,110,116,33]:Bs)).FFrom)&&((x13.FTo==(Z2.mk (9:Int) ([65]:Bs) ([120]:Bs) ([110]:Bs) ([73,110,116]:Bs) ([73,110,116,33]:Bs)).FTo)&&true))))))&&(decide (x14.FKind=(4:Int))))&&(decide (x15.FKind=(Z2.mk (5:Int) ([65]:Bs) ([122]:Bs) ([]:Bs) ([]:Bs) ([73,110,116]:Bs)).FKind)&&((x15.FType==(Z2.mk (5:Int) ([65]:Bs) ([122]:Bs) ([]:Bs) ([]:Bs) ([73,110,116]:Bs)).FType)&&((x15.FField==(Z2.mk (5:Int) ([65]:Bs) ([122]:Bs) ([]:Bs) ([]:Bs) ([73,110,116]:Bs)).FField)&&((x15.FArg==(Z2.mk (5:Int) ([65]:Bs) ([122]:Bs) ([]:Bs) ([]:Bs) ([73,110,116]:Bs)).FArg)&&((x15.FFrom==(Z2.mk (5:Int) ([65]:Bs) ([122]:Bs) ([]:Bs) ([]:Bs) ([73,110,116]:Bs)).FFrom)&&((x15.FTo==(Z2.mk (5:Int) ([65]:Bs) ([122]:Bs) ([]:Bs) ([]:Bs) ([73,110,116]:Bs)).FTo)&&true)))))))&&((x17==([65,114,103,84,121,112,101,32,65,46,120,40,110,41,58,32,73,110,116,32,45,62,32,73,110,116,33]:Bs))))&&(!x19))&&x21))
theorem Z31_walk  {oT:Ab.Obj}{gT:Nat}{r:Bool}(hE:Z31 =some r) (H:Heap) (hgT:H gT=some oT) (hoT:IsTab Tryz.prog oT):ACalls Tryz.prog 11 [] H fun v h'=>v=.a (.d (.bool r))/\h'=H:=by
 unfold Z31 at hE;refine ACalls.oW 52 [.tmp 0] Tryz.call11 Tryz.func11 ?_;refine seqR (S As (nil ?_));refine seqR (S BV (S BU ?_));refine Sl ?_;refine Sf ?_;refine nil ?_;refine freezeA 1 _ rfl Keeps.nil ?_;refine AWp.seqD (Sd BU ?_);obtain⟨x4,gx4,hE⟩:=bO hE;refine Scd rfl rfl (Z33_walk gx4) ?_;refine Sd Ld ?_;obtain⟨x5,gx5,hE⟩:=bO hE;refine Scd rfl rfl (Z33_walk gx5) ?_;obtain⟨x6,gx6,hE⟩:=bO hE;refine DOps.s0 (callR rfl rfl (Z10_walk (gT:=gT) (oT:=oT) gx6 _ hpG (by assumption))) rfl ?_
 refine Sd As ?_;refine DOps.nil (by decide +kernel) ?_;refine seqK fun K7 hK7=>?_;refine seqR (S Mv ?_);refine sLen (f:=Z2.c) (s:=x6) (TK rfl) rfl rfl rfl rfl fun hL9=>?_;refine S BI (nil ?_);refine cE hE (fun hc10 hE=>?_) (fun hc10 hE=>?_)
 ·refine seqR (S As (nil ?_));exact rt hE
 refine sk hK7 ?_;clear hK7 K7;refine seqR (S Mv ?_);obtain⟨x13,gx13,hE⟩:=bO hE;refine S (ix Z2.c 0 gx13) (S Ld (S BU ?_));refine s0 (eqStruct eqt_36 rfl rfl rfl rfl) rfl ?_;refine S Mv (G0 Mv ?_);obtain⟨x14,gx14,hE⟩:=gO hE;refine gC rfl rfl (fun hC=>ungdA (k:=19) rfl (idxMn (f:=Z2.c) (n:=1) (TK rfl) rfl (TK rfl) rfl rfl rfl (gx14 hC))) rfl ?_;refine G1 20 rfl Fv ?_;refine G1 21 rfl Ld ?_;refine G1 22 rfl BI ?_
 refine S PA (S Mv (G0 Mv ?_));obtain⟨x15,gx15,hE⟩:=gO hE;refine gC rfl rfl (fun hC=>ungdA (k:=26) rfl (idxMn (f:=Z2.c) (n:=2) (TK rfl) rfl (TK rfl) rfl rfl rfl (gx15 hC))) rfl ?_;refine G1 27 rfl Ld ?_;refine G0 BU ?_;refine gC rfl rfl (fun hC=>ungdA (k:=28) rfl (ungdA (k:=29) rfl (eqStruct eqt_36 rfl rfl rfl rfl))) rfl ?_;refine S PA (S Mv (G0 Mv ?_));obtain⟨x16,gx16,hE⟩:=gO hE;refine gC rfl rfl (fun hC=>ungdA (k:=33) rfl (idxMn (f:=Z2.c) (n:=0) (TK rfl) rfl (TK rfl) rfl rfl rfl (gx16 hC))) rfl ?_
 refine G1 34 rfl Ld ?_;obtain⟨x17,gx17,hE⟩:=gO hE;refine gC rfl rfl (fun hC=>ungdA (k:=35) rfl (callR rfl rfl (Z11_walk (gT:=gT) (oT:=oT) (gx17 hC) _ hpG (by assumption)))) rfl ?_;refine G1 36 rfl BS ?_;refine S PA (S Mv (G0 Mv ?_));obtain⟨x18,gx18,hE⟩:=gO hE;refine gC rfl rfl (fun hC=>ungdA (k:=40) rfl (idxMn (f:=Z2.c) (n:=0) (TK rfl) rfl (TK rfl) rfl rfl rfl (gx18 hC))) rfl ?_;refine G1 41 rfl Ld ?_
 obtain⟨x19,gx19,hE⟩:=gO hE;refine Gc1 42 rfl rfl rfl rfl rfl (fun hC=>Z9_walk (gx19 hC)) ?_;refine G1 43 rfl NB ?_;refine S PA (S Mv (G0 Mv ?_));obtain⟨x20,gx20,hE⟩:=gO hE;refine gC rfl rfl (fun hC=>ungdA (k:=47) rfl (idxMn (f:=Z2.c) (n:=2) (TK rfl) rfl (TK rfl) rfl rfl rfl (gx20 hC))) rfl ?_;refine G1 48 rfl Ld ?_;obtain⟨x21,gx21,hE⟩:=gO hE;refine Gc1 49 rfl rfl rfl rfl rfl (fun hC=>Z9_walk (gx21 hC)) ?_
 refine S PA (S As (nil ?_));exact rt hE
end
def Z108_j8  :Option Bool:=some true
def Z108_l11 (a0:(Sl Z2)) (a1:(Sl Z2)) :Nat->Nat->Option Bool
 | 0,_=>none
 | n11+1,s5_12=>bif (decide (((s5_12:Nat):Int)<((a0.l.length:Nat):Int))) then((a0.l[s5_12]?).bind fun x19=>(a1.l[s5_12]?).bind fun x20=>bif (!(decide (x19.FKind=x20.FKind)&&((x19.FType==x20.FType)&&((x19.FField==x20.FField)&&((x19.FArg==x20.FArg)&&((x19.FFrom==x20.FFrom)&&((x19.FTo==x20.FTo)&&true))))))) then(some false) else((Z108_l11 a0 a1 n11) (s5_12+1))) else(Z108_j8   )
def Z108 (a0:(Sl Z2)) (a1:(Sl Z2)):Option Bool:=bif (!decide (((a0.l.length:Nat):Int)=((a1.l.length:Nat):Int))) then(some false) else(Z108_l11 a0 a1 (a0.l.length+1) 0)
theorem Z108_walk {a0 a1:Sl Z2}{w0 w1:Option Nat}{r:Bool}(hE:Z108 a0 a1=some r) (H:Heap) :ACalls Tryz.prog 12 [.d (Sl.d 6 Z2.c w0 a0),.d (Sl.d 6 Z2.c w1 a1)] H fun v h'=>v=.a (.d (.bool r))/\h'=H:=by
 unfold Z108 at hE;refine ACalls.oW 26 [.tmp 4] Tryz.call12 Tryz.func12 ?_;refine seqR (S As (nil ?_));refine seqK fun K2 hK2=>?_;refine seqR (S Mv ?_);refine sLen (f:=Z2.c) (s:=a0) (TK rfl) rfl rfl rfl rfl fun hL4=>?_;refine S Mv ?_;refine sLen (f:=Z2.c) (s:=a1) (TK rfl) rfl rfl rfl rfl fun hL5=>?_;refine S BI (nil ?_);refine cE hE (fun hc6 hE=>?_) (fun hc6 hE=>?_)
 ·refine seqR (S As (nil ?_));exact rt hE
 refine sk hK2 ?_;clear hK2 K2;refine seqJH KeepsT.nil (fun(z:Unit)=>[]) (fun z=>H) (fun z=>Z108_j8 =some r) ?_ ?_
 ·intro K8 hK8;refine seqR (S As (nil ?_));refine block ?_;refine loopH (TA 0 (TA 1 KeepsT.nil)) (fun(z:Nat×Nat)=>[(5,.a (.d (.int .i64 ((z.2:Nat):Int))))]) (fun z=>H) (fun z=>z.1) (fun z=>Z108_l11 a0 a1 z.1 z.2=some r) ((a0.l.length+1),0) hE Weak.toA ?_;rintro ⟨n11,s5_12⟩ hE K11 hK11;try dsimp only at hE
  cases n11 with
  | zero=>cases hE
  | succ n11 =>
    rw [Z108_l11] at hE;refine seqK fun K13 hK13=>?_;refine seqR (S Mv (S Mv ?_));refine sLen (f:=Z2.c) (s:=a0) (TK rfl) rfl rfl rfl rfl fun hL15=>?_;refine S BI (nil ?_);refine cE hE (fun hc16 hE=>?_) (fun hc16 hE=>?_)
    ·try dsimp only at hc16
     have hf16:=of_decide_eq_true hc16;refine sk hK13 ?_;clear hK13 K13;refine seqK fun K17 hK17=>?_;refine block ?_;refine AWp.seqD (Sd Mv (Sd Mv ?_));obtain⟨x19,gx19,hE⟩:=bO hE;refine Sd (ix Z2.c s5_12 gx19) (Sd Ld (Sd Mv (Sd Mv ?_)));obtain⟨x20,gx20,hE⟩:=bO hE;refine Sd (ix Z2.c s5_12 gx20) (Sd Ld ?_);refine DOps.s0 (neStruct eqt_36 rfl rfl rfl rfl) rfl ?_;refine DOps.nil (by decide +kernel) ?_
     refine cE hE (fun hc21 hE=>?_) (fun hc21 hE=>?_)
     ·refine seqR (S As (nil ?_));exact rt hE
     refine sk hK17 ?_;clear hK17 K17;refine region ?_;refine S Mv ?_;refine SI ?_;refine S As (nil ?_);exact hK11 _ (n11,(s5_12+1)) Weak.toA hE (Nat.lt_succ_self _)
    refine AWp.exit ?_;exact hK8 _ () Weak.toA hE
 rintro _ hE;try dsimp only at hE
 unfold Z108_j8 at hE;refine seqR (S As (nil ?_));exact rt hE
def Z116 (a0:Int):Option Bs:=bif (decide (a0=(1:Int))) then(some ([116,121,112,101]:Bs)) else(bif (decide (a0=(2:Int))) then(some ([105,110,116,101,114,102,97,99,101]:Bs)) else(bif (decide (a0=(3:Int))) then(some ([117,110,105,111,110]:Bs)) else(bif (decide (a0=(4:Int))) then(some ([101,110,117,109]:Bs)) else(some ([105,110,112,117,116]:Bs)))))
theorem Z116_walk {a0:Int}{r:Bs}(hE:Z116 a0=some r) (H:Heap) :ACalls Tryz.prog 33 [.d (.int .i64 a0)] H fun v h'=>v=.a (.d (.str r))/\h'=H:=by
 unfold Z116 at hE;refine ACalls.oW 12 [.tmp 2] Tryz.call33 Tryz.func33 ?_;refine seqR (S As (nil ?_));refine seqK fun K2 hK2=>?_;refine seqR (S Mv (nil ?_));refine block ?_;refine seqR (S BI (S As (nil ?_)));refine cE hE (fun hc5 hE=>?_) (fun hc5 hE=>?_)
 ·refine seqR (S As (nil ?_));exact rt hE
 refine seqR (S BI (S As (nil ?_)));refine cE hE (fun hc8 hE=>?_) (fun hc8 hE=>?_)
 ·refine seqR (S As (nil ?_));exact rt hE
 refine seqR (S BI (S As (nil ?_)));refine cE hE (fun hc11 hE=>?_) (fun hc11 hE=>?_)
 ·refine seqR (S As (nil ?_));exact rt hE
 refine seqR (S BI (S As (nil ?_)));refine cE hE (fun hc14 hE=>?_) (fun hc14 hE=>?_)
 ·refine seqR (S As (nil ?_));exact rt hE
 refine sk hK2 ?_;clear hK2 K2;refine seqR (S As (nil ?_));exact rt hE
def Z59_n:Nat->TRef->Option Bs
 | 0,_=>none
 | n+1,a0=>(Z57 a0).bind fun x4=>bif x4 then((Z62 a0).bind fun x7=>((Z59_n n) x7).bind fun x8=>(catC x8 ([33]:Bs)).bind fun x9=>some x9) else(bif (decide ((0:Int)<((a0.FWraps.l.length:Nat):Int))) then((Z62 a0).bind fun x15=>((Z59_n n) x15).bind fun x16=>(catC ([91]:Bs) x16).bind fun x17=>(catC x17 ([93]:Bs)).bind fun x18=>some x18) else(some a0.FName))
theorem Z59_step (n:Nat) (ih_77:∀{a0:TRef}{r:Bs},Z59_n n a0=some r->∀(H:Heap),ACalls Tryz.prog 77 [.agg (TRef.c a0)] H fun v h'=>v=.a (.d (.str r))/\h'=H):∀{a0:TRef}{r:Bs},Z59_n (n+1) a0=some r->∀(H:Heap),ACalls Tryz.prog 77 [.agg (TRef.c a0)] H fun v h'=>v=.a (.d (.str r))/\h'=H:=by
 intro a0   r hE H ;rw [Z59_n] at hE;refine ACalls.oW 20 [.tmp 2] Tryz.call77 Tryz.func77 ?_;refine seqR (S BX (S As (nil ?_)));refine seqK fun K2 hK2=>?_;refine seqR (S Ld ?_);obtain⟨x4,gx4,hE⟩:=bO hE;refine Sc rfl rfl (Z57_walk gx4) ?_;refine nil ?_;refine cE hE (fun hc5 hE=>?_) (fun hc5 hE=>?_)
 ·refine seqR (S Ld ?_);obtain⟨x7,gx7,hE⟩:=bO hE;refine Sc rfl rfl (Z62_walk gx7) ?_;obtain⟨x8,gx8,hE⟩:=bO hE;refine Sc rfl rfl (ih_77 gx8) ?_;obtain⟨x9,gx9,hE⟩:=bO hE;refine s0 (catM rfl rfl gx9) rfl ?_;refine S As (nil ?_);exact rt hE
 refine sk hK2 ?_;clear hK2 K2;refine seqK fun K10 hK10=>?_;refine seqR (S Fv (S Ld ?_));refine sLen (f:=(intE .i64)) (s:=a0.FWraps) (TK rfl) rfl rfl rfl rfl fun hL12=>?_;refine S BI (nil ?_);refine cE hE (fun hc13 hE=>?_) (fun hc13 hE=>?_)
 ·refine seqR (S Ld ?_);obtain⟨x15,gx15,hE⟩:=bO hE;refine Sc rfl rfl (Z62_walk gx15) ?_;obtain⟨x16,gx16,hE⟩:=bO hE;refine Sc rfl rfl (ih_77 gx16) ?_;obtain⟨x17,gx17,hE⟩:=bO hE;refine s0 (catM rfl rfl gx17) rfl ?_;obtain⟨x18,gx18,hE⟩:=bO hE;refine s0 (catM rfl rfl gx18) rfl ?_;refine S As (nil ?_);exact rt hE
 refine sk hK10 ?_;clear hK10 K10;refine seqR (S Fv (S Ld (S As (nil ?_))));exact rt hE
theorem Z59_all:∀(n:Nat),(∀{a0:TRef}{r:Bs},Z59_n n a0=some r->∀(H:Heap),ACalls Tryz.prog 77 [.agg (TRef.c a0)] H fun v h'=>v=.a (.d (.str r))/\h'=H)
 | 0=>fun hE=>by first|cases hE|(rw [Z59_n] at hE; cases hE)
 | n+1=>Z59_step n (Z59_all n)
def Z59 (a0:TRef):Option Bs:=Z59_n F0 a0
theorem Z59_walk {a0:TRef}{r:Bs}(hE:Z59 a0=some r) (H:Heap) :ACalls Tryz.prog 77 [.agg (TRef.c a0)] H fun v h'=>v=.a (.d (.str r))/\h'=H:=(Z59_all F0) hE H 
end Go.Proofs

namespace Go.Proofs
open Go Go.Ab
open AOps Cert AWp Keeps KeepsT
variable {lou:Lou}
def Z109_j5  (y6_l0:Z2):Option Z2:=some y6_l0
def Z109 (a0:Z2) (a1:Int) (a2:Bs) (a3:Bs) (a4:Bs):Option Z2:=bif ((decide ((7:Int)<=a1))&&(decide (a1<=(10:Int)))) then(Z109_j5   (Z2.mk a1 a0.FType a0.FField a2 a3 a4)) else(Z109_j5   (Z2.mk a1 a0.FType a2 a0.FArg a3 a4))
theorem Z109_walk {a0:Z2}{a1:Int}{a2 a3 a4:Bs}{r:Z2}(hE:Z109 a0 a1 a2 a3 a4=some r) (H:Heap) :ACalls Tryz.prog 153 [.agg (Z2.c a0),.d (.int .i64 a1),.d (.str a2),.d (.str a3),.d (.str a4)] H fun v h'=>v=.a (.agg (Z2.c r))/\h'=H:=by
 unfold Z109 at hE;refine ACalls.oW 28 [.cell 10 36] Tryz.call153 Tryz.func153 ?_;refine seqR ?_;refine sL (boxL rfl (by repeat (first|exact Snoc.nil|apply Snoc.cons))) rfl ?_;refine Sl ?_;refine nil ?_;refine seqR (S Mv (S FL ?_));refine Sf ?_;refine nil ?_;refine seqR (S Mv (S FL ?_));refine Sf ?_;refine nil ?_;refine seqR (S Mv (S FL ?_));refine Sf ?_;refine nil ?_;refine seqJ (TA 5 (TA 10 KeepsT.nil)) (fun(z:Z2)=>[]) (fun z=>[Z2.c z,Z2.c Z2.zero]) (fun z=>H) (fun z=>Z109_j5 z=some r) ?_ ?_
 ·intro K5 hK5;refine seqR (S Mv (S BI (S Mv (G0 Mv ?_))));refine G1 20 rfl BI ?_;refine S PA (nil ?_);refine cE hE (fun hc9 hE=>?_) (fun hc9 hE=>?_)
  ·refine region ?_;refine S Mv (S FL ?_);refine Sf ?_;refine nil ?_;exact hK5 _ (Z2.mk a1 a0.FType a0.FField a2 a3 a4) Weak.toA hE
  refine region ?_;refine S Mv (S FL ?_);refine Sf ?_;refine nil ?_;exact hK5 _ (Z2.mk a1 a0.FType a2 a0.FArg a3 a4) Weak.toA hE
 rintro y6_l0 hE;try dsimp only at hE
 unfold Z109_j5 at hE;refine seqR (S LL ?_);refine Sf ?_;refine nil ?_;exact rt hE
def Z39_n:Nat->Int->Option Bs
 | 0,_=>none
 | n+1,a0=>(subC (48:Int) (Int.tmod a0 (10:Int))).bind fun x3=>bif (decide ((-10:Int)<a0)) then(some (bytesC (⟨false,[(IntKind.wrap .u8 x3)]⟩:Sl Int))) else(((Z39_n n) (IntKind.wrap .i64 (Int.tdiv a0 (10:Int)))).bind fun x9=>(catC x9 (bytesC (⟨false,[(IntKind.wrap .u8 x3)]⟩:Sl Int))).bind fun x10=>some x10)
theorem Z39_step (n:Nat) (ih_314:∀{a0:Int}{r:Bs},Z39_n n a0=some r->∀(H:Heap),ACalls Tryz.prog 314 [.d (.int .i64 a0)] H fun v h'=>v=.a (.d (.str r))/\h'=H):∀{a0:Int}{r:Bs},Z39_n (n+1) a0=some r->∀(H:Heap),ACalls Tryz.prog 314 [.d (.int .i64 a0)] H fun v h'=>v=.a (.d (.str r))/\h'=H:=by
 intro a0   r hE H ;rw [Z39_n] at hE;refine ACalls.oW 18 [.tmp 2] Tryz.call314 Tryz.func314 ?_;refine seqR (S As (nil ?_));refine seqR (S Mv ?_);refine s0 (remI rfl rfl (by decide)) rfl ?_;obtain⟨x3,gx3,hE⟩:=bO hE;refine s0 (subM rfl rfl gx3) rfl ?_;refine s0 (convI (TK rfl) (TK rfl) rfl rfl) rfl ?_;refine S BV ?_;refine s0 (convB (y:=(⟨false,[(IntKind.wrap .u8 x3)]⟩:Sl Int)) (TK rfl) rfl (TK rfl) rfl (TK rfl) rfl rfl) rfl ?_
 refine S As (nil ?_);refine seqK fun K4 hK4=>?_;refine seqR (S Mv (S BI (nil ?_)));refine cE hE (fun hc6 hE=>?_) (fun hc6 hE=>?_)
 ·refine seqR (S Mv (S As (nil ?_)));exact rt hE
 refine sk hK4 ?_;clear hK4 K4;refine seqR (S Mv ?_);refine s0 (quoI rfl rfl (by decide)) rfl ?_;obtain⟨x9,gx9,hE⟩:=bO hE;refine Sc rfl rfl (ih_314 gx9) ?_;refine S Mv ?_;obtain⟨x10,gx10,hE⟩:=bO hE;refine s0 (catM rfl rfl gx10) rfl ?_;refine S As (nil ?_);exact rt hE
theorem Z39_all:∀(n:Nat),(∀{a0:Int}{r:Bs},Z39_n n a0=some r->∀(H:Heap),ACalls Tryz.prog 314 [.d (.int .i64 a0)] H fun v h'=>v=.a (.d (.str r))/\h'=H)
 | 0=>fun hE=>by first|cases hE|(rw [Z39_n] at hE; cases hE)
 | n+1=>Z39_step n (Z39_all n)
def Z39 (a0:Int):Option Bs:=Z39_n F0 a0
theorem Z39_walk {a0:Int}{r:Bs}(hE:Z39 a0=some r) (H:Heap) :ACalls Tryz.prog 314 [.d (.int .i64 a0)] H fun v h'=>v=.a (.d (.str r))/\h'=H:=(Z39_all F0) hE H 
def Z34 (a0:Int):Option Bs:=bif (decide (a0<(0:Int))) then((Z39 a0).bind fun x6=>(catC ([45]:Bs) x6).bind fun x7=>some x7) else((Z39 (IntKind.wrap .i64 (0-a0))).bind fun x9=>some x9)
theorem Z34_walk {a0:Int}{r:Bs}(hE:Z34 a0=some r) (H:Heap) :ACalls Tryz.prog 259 [.d (.int .i64 a0)] H fun v h'=>v=.a (.d (.str r))/\h'=H:=by
 unfold Z34 at hE;refine ACalls.oW 11 [.tmp 2] Tryz.call259 Tryz.func259 ?_;refine seqR (S As (nil ?_));refine seqK fun K2 hK2=>?_;refine seqR (S Mv (S BI (nil ?_)));refine cE hE (fun hc4 hE=>?_) (fun hc4 hE=>?_)
 ·refine seqR (S Mv ?_);obtain⟨x6,gx6,hE⟩:=bO hE;refine Sc rfl rfl (Z39_walk gx6) ?_;obtain⟨x7,gx7,hE⟩:=bO hE;refine s0 (catM rfl rfl gx7) rfl ?_;refine S As (nil ?_);exact rt hE
 refine sk hK2 ?_;clear hK2 K2;refine seqR (S Mv ?_);refine s0 (negI rfl) rfl ?_;obtain⟨x9,gx9,hE⟩:=bO hE;refine Sc rfl rfl (Z39_walk gx9) ?_;refine S As (nil ?_);exact rt hE
def Z41 (a0:Int):Option Int:=bif (decide (a0<(10:Int))) then(some (IntKind.wrap .u8 ((48:Int)+a0))) else(some (IntKind.wrap .u8 ((87:Int)+a0)))
theorem Z41_walk {a0 r:Int}(hE:Z41 a0=some r) (H:Heap) :ACalls Tryz.prog 345 [.d (.int .u8 a0)] H fun v h'=>v=.a (.d (.int .u8 r))/\h'=H:=by
 unfold Z41 at hE;refine ACalls.oW 9 [.tmp 2] Tryz.call345 Tryz.func345 ?_;refine seqR (S As (nil ?_));refine seqK fun K2 hK2=>?_;refine seqR (S Mv (S BI (nil ?_)));refine cE hE (fun hc4 hE=>?_) (fun hc4 hE=>?_)
 ·refine seqR (S Mv (S BI (S As (nil ?_))));exact rt hE
 refine sk hK2 ?_;clear hK2 K2;refine seqR (S Mv (S BI (S As (nil ?_))));exact rt hE
def Z40 (a0:Int):Option Bs:=bif (decide (a0=(34:Int))) then(some ([92,34]:Bs)) else(bif (decide (a0=(92:Int))) then(some ([92,92]:Bs)) else(bif (decide (a0=(10:Int))) then(some ([92,110]:Bs)) else(bif (decide (a0=(13:Int))) then(some ([92,114]:Bs)) else(bif (decide (a0=(9:Int))) then(some ([92,116]:Bs)) else(bif ((decide (a0<(32:Int)))||(decide ((126:Int)<a0))) then((Z41 (IntKind.wrap .u8 (Int.tdiv a0 (16:Int)))).bind fun x23=>(Z41 (Int.tmod a0 (16:Int))).bind fun x24=>(catC ([92,117,48,48]:Bs) (bytesC (⟨false,[x23,x24]⟩:Sl Int))).bind fun x25=>some x25) else(some (bytesC (⟨false,[a0]⟩:Sl Int))))))))
theorem Z40_walk {a0:Int}{r:Bs}(hE:Z40 a0=some r) (H:Heap) :ACalls Tryz.prog 315 [.d (.int .u8 a0)] H fun v h'=>v=.a (.d (.str r))/\h'=H:=by
 unfold Z40 at hE;refine ACalls.oW 32 [.tmp 2] Tryz.call315 Tryz.func315 ?_;refine seqR (S As (nil ?_));refine seqK fun K2 hK2=>?_;refine seqR (S Mv (nil ?_));refine block ?_;refine seqR (S BI (S As (nil ?_)));refine cE hE (fun hc5 hE=>?_) (fun hc5 hE=>?_)
 ·refine seqR (S As (nil ?_));exact rt hE
 refine seqR (S BI (S As (nil ?_)));refine cE hE (fun hc8 hE=>?_) (fun hc8 hE=>?_)
 ·refine seqR (S As (nil ?_));exact rt hE
 refine seqR (S BI (S As (nil ?_)));refine cE hE (fun hc11 hE=>?_) (fun hc11 hE=>?_)
 ·refine seqR (S As (nil ?_));exact rt hE
 refine seqR (S BI (S As (nil ?_)));refine cE hE (fun hc14 hE=>?_) (fun hc14 hE=>?_)
 ·refine seqR (S As (nil ?_));exact rt hE
 refine seqR (S BI (S As (nil ?_)));refine cE hE (fun hc17 hE=>?_) (fun hc17 hE=>?_)
 ·refine seqR (S As (nil ?_));exact rt hE
 refine sk hK2 ?_;clear hK2 K2;refine seqK fun K19 hK19=>?_;refine seqR (S Mv (S BI (S Mv (G0 Mv ?_))));refine G1 17 rfl BI ?_;refine S PO (nil ?_);refine cE hE (fun hc21 hE=>?_) (fun hc21 hE=>?_)
 ·refine seqR (S Mv ?_);refine s0 (quoI rfl rfl (by decide)) rfl ?_;obtain⟨x23,gx23,hE⟩:=bO hE;refine Sc rfl rfl (Z41_walk gx23) ?_;refine S Mv ?_;refine s0 (remI rfl rfl (by decide)) rfl ?_;obtain⟨x24,gx24,hE⟩:=bO hE;refine Sc rfl rfl (Z41_walk gx24) ?_;refine S BV ?_;refine s0 (convB (y:=(⟨false,[x23,x24]⟩:Sl Int)) (TK rfl) rfl (TK rfl) rfl (TK rfl) rfl rfl) rfl ?_;obtain⟨x25,gx25,hE⟩:=bO hE;refine s0 (catM rfl rfl gx25) rfl ?_
  refine S As (nil ?_);exact rt hE
 refine sk hK19 ?_;clear hK19 K19;refine seqR (S Mv (S BV ?_));refine s0 (convB (y:=(⟨false,[a0]⟩:Sl Int)) (TK rfl) rfl (TK rfl) rfl (TK rfl) rfl rfl) rfl ?_;refine S As (nil ?_);exact rt hE
def Z36_j3  (s3_4:Bs):Option Bs:=(catC s3_4 ([34]:Bs)).bind fun x6=>some x6
def Z36_l8 (a0:Bs) :Nat->Bs->Nat->Option Bs
 | 0,_,_=>none
 | n8+1,s3_9,s4_10=>bif (decide (((s4_10:Nat):Int)<((a0.length:Nat):Int))) then((a0[s4_10]?).bind fun x16=>(Z40 ((x16.toNat:Nat):Int)).bind fun x17=>(catC s3_9 x17).bind fun x18=>(Z36_l8 a0 n8) x18 (s4_10+1)) else(Z36_j3   s3_9)
def Z36 (a0:Bs):Option Bs:=Z36_l8 a0 (a0.length+1) ([34]:Bs) 0
theorem Z36_walk {a0 r:Bs}(hE:Z36 a0=some r) (H:Heap) :ACalls Tryz.prog 260 [.d (.str a0)] H fun v h'=>v=.a (.d (.str r))/\h'=H:=by
 unfold Z36 at hE;refine ACalls.oW 19 [.tmp 2] Tryz.call260 Tryz.func260 ?_;refine seqR (S As (nil ?_));refine seqR (S As (nil ?_));refine seqJH KeepsT.nil (fun(z:Bs)=>[(3,.a (.d (.str z)))]) (fun z=>H) (fun z=>Z36_j3 z=some r) ?_ ?_
 ·intro K3 hK3;refine seqR (S As (nil ?_));refine block ?_;refine loopH (TA 0 KeepsT.nil) (fun(z:Nat×Bs×Nat)=>[(3,.a (.d (.str z.2.1))),(4,.a (.d (.int .i64 ((z.2.2:Nat):Int))))]) (fun z=>H) (fun z=>z.1) (fun z=>Z36_l8 a0 z.1 z.2.1 z.2.2=some r) ((a0.length+1),([34]:Bs),0) hE Weak.toA ?_;rintro ⟨n8,s3_9,s4_10⟩ hE K8 hK8;try dsimp only at hE
  cases n8 with
  | zero=>cases hE
  | succ n8 =>
    rw [Z36_l8] at hE;refine seqK fun K11 hK11=>?_;refine seqR (S Mv (S Mv ?_));refine sLenS (TK rfl) rfl rfl rfl rfl fun hL13=>?_;refine S BI (nil ?_);refine cE hE (fun hc14 hE=>?_) (fun hc14 hE=>?_)
    ·try dsimp only at hc14
     have hf14:=of_decide_eq_true hc14;refine sk hK11 ?_;clear hK11 K11;refine seqK fun K15 hK15=>?_;refine block ?_;refine region ?_;refine S Mv (S Mv (S Mv ?_));obtain⟨x16,gx16,hE⟩:=bO hE;refine s0 (idxSn (n:=s4_10) (TK rfl) rfl rfl rfl gx16) rfl ?_;obtain⟨x17,gx17,hE⟩:=bO hE;refine Sc rfl rfl (Z40_walk gx17) ?_;obtain⟨x18,gx18,hE⟩:=bO hE;refine s0 (catM rfl rfl gx18) rfl ?_;refine S As (nil ?_)
     refine hK15 _ ?_;clear hK15 K15;refine region ?_;refine S Mv ?_;refine SI ?_;refine S As (nil ?_);exact hK8 _ (n8,x18,(s4_10+1)) Weak.toA hE (Nat.lt_succ_self _)
    refine AWp.exit ?_;exact hK3 _ s3_9 Weak.toA hE
 rintro s3_4 hE;try dsimp only at hE
 unfold Z36_j3 at hE;refine seqR (S Mv ?_);obtain⟨x6,gx6,hE⟩:=bO hE;refine s0 (catM rfl rfl gx6) rfl ?_;refine S As (nil ?_);exact rt hE
def Z76_j3  (s5_4:Bs):Option Bs:=some s5_4
def Z76_j14 (s6_9:Nat) (k_next_7:Bs->Nat->Option Bs) (s5_15:Bs):Option Bs:=k_next_7 s5_15 (s6_9+1)
def Z76_j16 (a0:(Sl Bs)) (s6_9:Nat) (k_next_7:Bs->Nat->Option Bs) (s5_17:Bs):Option Bs:=(a0.l[s6_9]?).bind fun x18=>(catC s5_17 x18).bind fun x19=>Z76_j14 s6_9 k_next_7 x19
def Z76_l7 (a0:(Sl Bs)) (a1:Bs) :Nat->Bs->Nat->Option Bs
 | 0,_,_=>none
 | n7+1,s5_8,s6_9=>bif (decide (((s6_9:Nat):Int)<((a0.l.length:Nat):Int))) then(bif (decide ((0:Int)<((s6_9:Nat):Int))) then((catC s5_8 a1).bind fun x22=>Z76_j16 a0 s6_9 ((Z76_l7 a0 a1 n7)) x22) else(Z76_j16 a0 s6_9 ((Z76_l7 a0 a1 n7)) s5_8)) else(Z76_j3   s5_8)
def Z76 (a0:(Sl Bs)) (a1:Bs):Option Bs:=Z76_l7 a0 a1 (a0.l.length+1) ([]:Bs) 0
theorem Z76_walk {a0:Sl Bs}{a1:Bs}{w0:Option Nat}{r:Bs}(hE:Z76 a0 a1=some r) (H:Heap) :ACalls Tryz.prog 261 [.d (Sl.d 1 strE w0 a0),.d (.str a1)] H fun v h'=>v=.a (.d (.str r))/\h'=H:=by
 unfold Z76 at hE;refine ACalls.oW 25 [.tmp 4] Tryz.call261 Tryz.func261 ?_;refine seqR (S As (nil ?_));refine seqR (S As (nil ?_));refine seqJH KeepsT.nil (fun(z:Bs)=>[(5,.a (.d (.str z)))]) (fun z=>H) (fun z=>Z76_j3 z=some r) ?_ ?_
 ·intro K3 hK3;refine seqR (S As (nil ?_));refine block ?_;refine loopH (TA 0 (TA 1 KeepsT.nil)) (fun(z:Nat×Bs×Nat)=>[(5,.a (.d (.str z.2.1))),(6,.a (.d (.int .i64 ((z.2.2:Nat):Int))))]) (fun z=>H) (fun z=>z.1) (fun z=>Z76_l7 a0 a1 z.1 z.2.1 z.2.2=some r) ((a0.l.length+1),([]:Bs),0) hE Weak.toA ?_;rintro ⟨n7,s5_8,s6_9⟩ hE K7 hK7;try dsimp only at hE
  cases n7 with
  | zero=>cases hE
  | succ n7 =>
    rw [Z76_l7] at hE;refine seqK fun K10 hK10=>?_;refine seqR (S Mv (S Mv ?_));refine sLen (f:=strE) (s:=a0) (TK rfl) rfl rfl rfl rfl fun hL12=>?_;refine S BI (nil ?_);refine cE hE (fun hc13 hE=>?_) (fun hc13 hE=>?_)
    ·try dsimp only at hc13
     have hf13:=of_decide_eq_true hc13;refine sk hK10 ?_;clear hK10 K10;refine seqJH (TA 0 (TA 1 (TA 6 KeepsT.nil))) (fun(z:Bs)=>[(5,.a (.d (.str z)))]) (fun z=>H) (fun z=>Z76_j14 s6_9 ((Z76_l7 a0 a1 n7)) z=some r) ?_ ?_
     ·intro K14 hK14;refine block ?_;refine seqJH (TA 0 (TA 1 (TA 6 KeepsT.nil))) (fun(z:Bs)=>[(5,.a (.d (.str z)))]) (fun z=>H) (fun z=>Z76_j16 a0 s6_9 ((Z76_l7 a0 a1 n7)) z=some r) ?_ ?_
      ·intro K16 hK16;refine seqR (S Mv (S BI (nil ?_)));refine cE hE (fun hc21 hE=>?_) (fun hc21 hE=>?_)
       ·refine region ?_;refine S Mv (S Mv ?_);obtain⟨x22,gx22,hE⟩:=bO hE;refine s0 (catM rfl rfl gx22) rfl ?_;refine S As (nil ?_);exact hK16 _ x22 Weak.toA hE
       refine AWp.skip ?_;exact hK16 _ s5_8 Weak.toA hE
      rintro s5_17 hE;try dsimp only at hE
      unfold Z76_j16 at hE;refine region ?_;refine S Mv (S Mv (S Mv ?_));obtain⟨x18,gx18,hE⟩:=bO hE;refine S (ix strE s6_9 gx18) (S Ld ?_);obtain⟨x19,gx19,hE⟩:=bO hE;refine s0 (catM rfl rfl gx19) rfl ?_;refine S As (nil ?_);exact hK14 _ x19 Weak.toA hE
     rintro s5_15 hE;try dsimp only at hE
     unfold Z76_j14 at hE;refine region ?_;refine S Mv ?_;refine SI ?_;refine S As (nil ?_);exact hK7 _ (n7,s5_15,(s6_9+1)) Weak.toA hE (Nat.lt_succ_self _)
    refine AWp.exit ?_;exact hK3 _ s5_8 Weak.toA hE
 rintro s5_4 hE;try dsimp only at hE
 unfold Z76_j3 at hE;refine seqR (S Mv (S As (nil ?_)));exact rt hE
end Go.Proofs

namespace Go.Proofs
open Go Go.Ab
open AOps Cert AWp Keeps KeepsT
variable {lou:Lou}
def Z75_j29  (s3_30:(Sl Bs)):Option Bs:=(Z76 s3_30 ([44,32]:Bs)).bind fun x32=>(catC ([91]:Bs) x32).bind fun x33=>(catC x33 ([93]:Bs)).bind fun x34=>some x34
def Z75_l36 (a0:Z7) (k_rec_212:Z7->Option Bs):Nat->(Sl Bs)->Nat->Option Bs
 | 0,_,_=>none
 | n36+1,s3_37,s4_38=>bif (decide (((s4_38:Nat):Int)<((a0.FItems.l.length:Nat):Int))) then((a0.FItems.l[s4_38]?).bind fun x44=>(k_rec_212 x44).bind fun x45=>(appC 16 s3_37 (⟨false,[x45]⟩:Sl Bs)).bind fun x46=>(Z75_l36 a0 k_rec_212 n36) x46 (s4_38+1)) else(Z75_j29   s3_37)
def Z75_j50  (s5_51:(Sl Bs)):Option Bs:=(Z76 s5_51 ([44,32]:Bs)).bind fun x53=>(catC ([123]:Bs) x53).bind fun x54=>(catC x54 ([125]:Bs)).bind fun x55=>some x55
def Z75_l57 (a0:Z7) (k_rec_212:Z7->Option Bs):Nat->(Sl Bs)->Nat->Option Bs
 | 0,_,_=>none
 | n57+1,s5_58,s6_59=>bif ((decide (((s6_59:Nat):Int)<((a0.FItems.l.length:Nat):Int)))&&(decide (((s6_59:Nat):Int)<((a0.FKeys.l.length:Nat):Int)))) then((a0.FKeys.l[s6_59]?).bind fun x65=>(catC x65 ([58,32]:Bs)).bind fun x66=>(a0.FItems.l[s6_59]?).bind fun x67=>(k_rec_212 x67).bind fun x68=>(catC x66 x68).bind fun x69=>(appC 16 s5_58 (⟨false,[x69]⟩:Sl Bs)).bind fun x70=>(Z75_l57 a0 k_rec_212 n57) x70 (s6_59+1)) else(Z75_j50   s5_58)
def Z75_n:Nat->Z7->Option Bs
 | 0,_=>none
 | n+1,a0=>bif (decide (a0.FKind=(1:Int))) then(bif (decide (a0.FInt=(1:Int))) then(some ([116,114,117,101]:Bs)) else(some ([102,97,108,115,101]:Bs))) else(bif (decide (a0.FKind=(2:Int))) then((Z34 a0.FInt).bind fun x14=>some x14) else(bif (decide (a0.FKind=(3:Int))) then((Z36 a0.FText).bind fun x18=>some x18) else(bif (decide (a0.FKind=(4:Int))) then(some a0.FText) else(bif (decide (a0.FKind=(7:Int))) then((catC ([36]:Bs) a0.FText).bind fun x25=>some x25) else(bif (decide (a0.FKind=(5:Int))) then(Z75_l36 a0 (Z75_n n) (a0.FItems.l.length+1) (Sl.nil:Sl Bs) 0) else(bif (decide (a0.FKind=(6:Int))) then(Z75_l57 a0 (Z75_n n) (a0.FItems.l.length+1) (Sl.nil:Sl Bs) 0) else(some ([110,117,108,108]:Bs))))))))
theorem Z75_step (n:Nat) (ih_212:∀{a0:Z7}{r:Bs},Z75_n n a0=some r->∀(H:Heap),ACalls Tryz.prog 212 [.agg (Z7.c a0)] H fun v h'=>v=.a (.d (.str r))/\h'=H):∀{a0:Z7}{r:Bs},Z75_n (n+1) a0=some r->∀(H:Heap),ACalls Tryz.prog 212 [.agg (Z7.c a0)] H fun v h'=>v=.a (.d (.str r))/\h'=H:=by
 intro a0   r hE H ;rw [Z75_n] at hE;refine ACalls.oW 91 [.tmp 2] Tryz.call212 Tryz.func212 ?_;refine AWp.tok 1 fun tk1 htk1=>?_;refine AWp.tok 1 fun tk2 htk2=>?_;obtain⟨ne_tk2_tk1,htk2⟩:=Heap.set_fresh htk2;refine seqR (S BX (S As (nil ?_)));refine seqK fun K2 hK2=>?_;refine seqR (S Fv (S Ld (nil ?_)));refine block ?_;refine seqR (S BI (S As (nil ?_)));refine cE hE (fun hc5 hE=>?_) (fun hc5 hE=>?_)
 ·refine seqK fun K6 hK6=>?_;refine seqR (S Fv (S Ld (S BI (nil ?_))));refine cE hE (fun hc8 hE=>?_) (fun hc8 hE=>?_)
  ·refine seqR (S As (nil ?_));refine AWp.ret ?_;repeat (first|refine xBlock_ret ?_|refine xThen_ret ?_)
   obtain rfl:=Option.some.inj hE;refine retQ.retF H rfl ⟨rfl,rfl⟩ ?_;intro id_ o_ he_;have e_tk1:id_≠tk1:=fun e_=>by subst e_; simp_all [Heap.set]
   have e_tk2:id_≠tk2:=fun e_=>by subst e_; simp_all [Heap.set]
   rw [<- he_];simp only [Heap.set] at he_ ⊢
   (repeat' split)<;>simp_all
  refine sk hK6 ?_;clear hK6 K6;refine seqR (S As (nil ?_));refine AWp.ret ?_;repeat (first|refine xBlock_ret ?_|refine xThen_ret ?_)
  obtain rfl:=Option.some.inj hE;refine retQ.retF H rfl ⟨rfl,rfl⟩ ?_;intro id_ o_ he_;have e_tk1:id_≠tk1:=fun e_=>by subst e_; simp_all [Heap.set]
  have e_tk2:id_≠tk2:=fun e_=>by subst e_; simp_all [Heap.set]
  rw [<- he_];simp only [Heap.set] at he_ ⊢
  (repeat' split)<;>simp_all
 refine seqR (S BI (S As (nil ?_)));refine cE hE (fun hc12 hE=>?_) (fun hc12 hE=>?_)
 ·refine seqR (S Fv (S Ld ?_));obtain⟨x14,gx14,hE⟩:=bO hE;refine Sc rfl rfl (Z34_walk gx14) ?_;refine S As (nil ?_);refine AWp.ret ?_;repeat (first|refine xBlock_ret ?_|refine xThen_ret ?_)
  obtain rfl:=Option.some.inj hE;refine retQ.retF H rfl ⟨rfl,rfl⟩ ?_;intro id_ o_ he_;have e_tk1:id_≠tk1:=fun e_=>by subst e_; simp_all [Heap.set]
  have e_tk2:id_≠tk2:=fun e_=>by subst e_; simp_all [Heap.set]
  rw [<- he_];simp only [Heap.set] at he_ ⊢
  (repeat' split)<;>simp_all
 refine seqR (S BI (S As (nil ?_)));refine cE hE (fun hc16 hE=>?_) (fun hc16 hE=>?_)
 ·refine seqR (S Fv (S Ld ?_));obtain⟨x18,gx18,hE⟩:=bO hE;refine Sc rfl rfl (Z36_walk gx18) ?_;refine S As (nil ?_);refine AWp.ret ?_;repeat (first|refine xBlock_ret ?_|refine xThen_ret ?_)
  obtain rfl:=Option.some.inj hE;refine retQ.retF H rfl ⟨rfl,rfl⟩ ?_;intro id_ o_ he_;have e_tk1:id_≠tk1:=fun e_=>by subst e_; simp_all [Heap.set]
  have e_tk2:id_≠tk2:=fun e_=>by subst e_; simp_all [Heap.set]
  rw [<- he_];simp only [Heap.set] at he_ ⊢
  (repeat' split)<;>simp_all
 refine seqR (S BI (S As (nil ?_)));refine cE hE (fun hc20 hE=>?_) (fun hc20 hE=>?_)
 ·refine seqR (S Fv (S Ld (S As (nil ?_))));refine AWp.ret ?_;repeat (first|refine xBlock_ret ?_|refine xThen_ret ?_)
  obtain rfl:=Option.some.inj hE;refine retQ.retF H rfl ⟨rfl,rfl⟩ ?_;intro id_ o_ he_;have e_tk1:id_≠tk1:=fun e_=>by subst e_; simp_all [Heap.set]
  have e_tk2:id_≠tk2:=fun e_=>by subst e_; simp_all [Heap.set]
  rw [<- he_];simp only [Heap.set] at he_ ⊢
  (repeat' split)<;>simp_all
 refine seqR (S BI (S As (nil ?_)));refine cE hE (fun hc23 hE=>?_) (fun hc23 hE=>?_)
 ·refine seqR (S Fv (S Ld ?_));obtain⟨x25,gx25,hE⟩:=bO hE;refine s0 (catM rfl rfl gx25) rfl ?_;refine S As (nil ?_);refine AWp.ret ?_;repeat (first|refine xBlock_ret ?_|refine xThen_ret ?_)
  obtain rfl:=Option.some.inj hE;refine retQ.retF H rfl ⟨rfl,rfl⟩ ?_;intro id_ o_ he_;have e_tk1:id_≠tk1:=fun e_=>by subst e_; simp_all [Heap.set]
  have e_tk2:id_≠tk2:=fun e_=>by subst e_; simp_all [Heap.set]
  rw [<- he_];simp only [Heap.set] at he_ ⊢
  (repeat' split)<;>simp_all
 refine seqR (S BI (S As (nil ?_)));refine cE hE (fun hc27 hE=>?_) (fun hc27 hE=>?_)
 ·refine seqR (S As (nil ?_));refine AWp.nilTok 3 1 tk1 rfl hpG ?_;refine seqJH KeepsT.nil (fun(z:(Sl Bs))=>[(3,.a (.d (Sl.d 1 strE (some tk1) z)))]) (fun z=>((H.set tk1 (some (.tok 1 z.l.length))).set tk2 (some (.tok 1 0)))) (fun z=>Z75_j29 z=some r) ?_ ?_
  ·intro K29 hK29;refine seqR (S As (nil ?_));refine block ?_;refine loopH (TA 1 KeepsT.nil) (fun(z:Nat×(Sl Bs)×Nat)=>[(3,.a (.d (Sl.d 1 strE (some tk1) z.2.1))),(4,.a (.d (.int .i64 ((z.2.2:Nat):Int))))]) (fun z=>((H.set tk1 (some (.tok 1 z.2.1.l.length))).set tk2 (some (.tok 1 0)))) (fun z=>z.1) (fun z=>Z75_l36 a0 (Z75_n n) z.1 z.2.1 z.2.2=some r) ((a0.FItems.l.length+1),(Sl.nil:Sl Bs),0) hE Weak.toA ?_
   rintro ⟨n36,s3_37,s4_38⟩ hE K36 hK36;try dsimp only at hE
   cases n36 with
   | zero=>cases hE
   | succ n36 =>
     rw [Z75_l36] at hE;refine seqK fun K39 hK39=>?_;refine seqR (S Mv (S Fv ?_));refine s0 (loadV (TK rfl) rfl rfl (congrArg (fun x=>some (A.d x)) (Z7.FItemsD_eq _))) rfl ?_;refine sLen (f:=Z7.c) (s:=a0.FItems) (TK rfl) rfl rfl rfl rfl fun hL41=>?_;refine S BI (nil ?_);refine cE hE (fun hc42 hE=>?_) (fun hc42 hE=>?_)
     ·try dsimp only at hc42
      have hf42:=of_decide_eq_true hc42;refine sk hK39 ?_;clear hK39 K39;refine seqK fun K43 hK43=>?_;refine block ?_;refine region ?_;refine S Mv (S Fv ?_);refine s0 (loadV (TK rfl) rfl rfl (congrArg (fun x=>some (A.d x)) (Z7.FItemsD_eq _))) rfl ?_;refine S Mv ?_;obtain⟨x44,gx44,hE⟩:=bO hE;refine S (ix Z7.c s4_38 gx44) (S Ld ?_);obtain⟨x45,gx45,hE⟩:=bO hE;refine Sc rfl rfl (ih_212 gx45) ?_;refine S BV ?_
      obtain⟨x46,gx46,hE⟩:=bO hE;refine SH (am strE (TK rfl) rfl (TK rfl) (TK rfl) gx46) ?_;refine hq ((H.set tk1 (some (.tok 1 x46.l.length))).set tk2 (some (.tok 1 0))) ?_;refine S As (nil ?_);refine hK43 _ ?_;clear hK43 K43;refine region ?_;refine S Mv ?_;refine SI ?_;refine S As (nil ?_);exact hK36 _ (n36,x46,(s4_38+1)) Weak.toA hE (Nat.lt_succ_self _)
     refine AWp.exit ?_;exact hK29 _ s3_37 Weak.toA hE
  rintro s3_30 hE;try dsimp only at hE
  unfold Z75_j29 at hE;refine seqR (S Mv ?_);obtain⟨x32,gx32,hE⟩:=bO hE;refine Sc rfl rfl (Z76_walk gx32) ?_;obtain⟨x33,gx33,hE⟩:=bO hE;refine s0 (catM rfl rfl gx33) rfl ?_;obtain⟨x34,gx34,hE⟩:=bO hE;refine s0 (catM rfl rfl gx34) rfl ?_;refine S As (nil ?_);refine AWp.ret ?_;repeat (first|refine xBlock_ret ?_|refine xThen_ret ?_)
  obtain rfl:=Option.some.inj hE;refine retQ.retF H rfl ⟨rfl,rfl⟩ ?_;intro id_ o_ he_;have e_tk1:id_≠tk1:=fun e_=>by subst e_; simp_all [Heap.set]
  have e_tk2:id_≠tk2:=fun e_=>by subst e_; simp_all [Heap.set]
  rw [<- he_];simp only [Heap.set] at he_ ⊢
  (repeat' split)<;>simp_all
 refine seqR (S BI (S As (nil ?_)));refine cE hE (fun hc48 hE=>?_) (fun hc48 hE=>?_)
 ·refine seqR (S As (nil ?_));refine AWp.nilTok 5 1 tk2 rfl hpG ?_;refine seqJH KeepsT.nil (fun(z:(Sl Bs))=>[(5,.a (.d (Sl.d 1 strE (some tk2) z)))]) (fun z=>((H.set tk1 (some (.tok 1 0))).set tk2 (some (.tok 1 z.l.length)))) (fun z=>Z75_j50 z=some r) ?_ ?_
  ·intro K50 hK50;refine seqR (S As (nil ?_));refine block ?_;refine loopH (TA 1 KeepsT.nil) (fun(z:Nat×(Sl Bs)×Nat)=>[(5,.a (.d (Sl.d 1 strE (some tk2) z.2.1))),(6,.a (.d (.int .i64 ((z.2.2:Nat):Int))))]) (fun z=>((H.set tk1 (some (.tok 1 0))).set tk2 (some (.tok 1 z.2.1.l.length)))) (fun z=>z.1) (fun z=>Z75_l57 a0 (Z75_n n) z.1 z.2.1 z.2.2=some r) ((a0.FItems.l.length+1),(Sl.nil:Sl Bs),0) hE Weak.toA ?_
   rintro ⟨n57,s5_58,s6_59⟩ hE K57 hK57;try dsimp only at hE
   cases n57 with
   | zero=>cases hE
   | succ n57 =>
     rw [Z75_l57] at hE;refine seqK fun K60 hK60=>?_;refine seqR (S Mv (S Fv ?_));refine s0 (loadV (TK rfl) rfl rfl (congrArg (fun x=>some (A.d x)) (Z7.FItemsD_eq _))) rfl ?_;refine sLen (f:=Z7.c) (s:=a0.FItems) (TK rfl) rfl rfl rfl rfl fun hL62=>?_;refine S BI (S Mv (G0 Mv (G0 Fv ?_)));refine G1 64 rfl Ld ?_;refine gC rfl rfl (fun hC=>ungdA (k:=65) rfl (lenM' (f:=strE) (s:=a0.FKeys) (TK rfl) rfl rfl rfl)) rfl ?_
     refine G2 63 66 rfl rfl BI ?_;refine S PA (nil ?_);refine cE hE (fun hc63 hE=>?_) (fun hc63 hE=>?_)
     ·try dsimp only at hc63
      have hf63:=of_decide_eq_true (and_left hc63);refine sk hK60 ?_;clear hK60 K60;refine seqK fun K64 hK64=>?_;refine block ?_;refine AWp.draw rfl ?_;refine Sd Mv (Sd Fv (Sd Ld (Sd Mv ?_)));obtain⟨x65,gx65,hE⟩:=bO hE;refine Sd (ix strE s6_59 gx65) (Sd Ld ?_);obtain⟨x66,gx66,hE⟩:=bO hE;refine DOps.s0 (catM rfl rfl gx66) rfl ?_;refine Sd Fv ?_;refine DOps.s0 (loadV (TK rfl) rfl rfl (congrArg (fun x=>some (A.d x)) (Z7.FItemsD_eq _))) rfl ?_
      refine Sd Mv ?_;obtain⟨x67,gx67,hE⟩:=bO hE;refine Sd (ix Z7.c s6_59 gx67) (Sd Ld ?_);obtain⟨x68,gx68,hE⟩:=bO hE;refine Scd rfl rfl (ih_212 gx68) ?_;obtain⟨x69,gx69,hE⟩:=bO hE;refine DOps.s0 (catM rfl rfl gx69) rfl ?_;refine Sd BV ?_;obtain⟨x70,gx70,hE⟩:=bO hE;refine DOps.sH (appM (f:=strE) (TK rfl) rfl (TK rfl) (TK rfl) ⟨_,rfl⟩ rfl rfl (by decide) rfl rfl rfl rfl hpG rfl gx70) rfl ?_;refine DOps.Dh ((H.set tk1 (some (.tok 1 0))).set tk2 (some (.tok 1 x70.l.length))) ?_
      refine Sd As ?_;refine DOps.nil (by decide +kernel) ?_;refine hK64 _ ?_;clear hK64 K64;refine region ?_;refine S Mv ?_;refine SI ?_;refine S As (nil ?_);exact hK57 _ (n57,x70,(s6_59+1)) Weak.toA hE (Nat.lt_succ_self _)
     refine AWp.exit ?_;exact hK50 _ s5_58 Weak.toA hE
  rintro s5_51 hE;try dsimp only at hE
  unfold Z75_j50 at hE;refine seqR (S Mv ?_);obtain⟨x53,gx53,hE⟩:=bO hE;refine Sc rfl rfl (Z76_walk gx53) ?_;obtain⟨x54,gx54,hE⟩:=bO hE;refine s0 (catM rfl rfl gx54) rfl ?_;obtain⟨x55,gx55,hE⟩:=bO hE;refine s0 (catM rfl rfl gx55) rfl ?_;refine S As (nil ?_);refine AWp.ret ?_;repeat (first|refine xBlock_ret ?_|refine xThen_ret ?_)
  obtain rfl:=Option.some.inj hE;refine retQ.retF H rfl ⟨rfl,rfl⟩ ?_;intro id_ o_ he_;have e_tk1:id_≠tk1:=fun e_=>by subst e_; simp_all [Heap.set]
  have e_tk2:id_≠tk2:=fun e_=>by subst e_; simp_all [Heap.set]
  rw [<- he_];simp only [Heap.set] at he_ ⊢
  (repeat' split)<;>simp_all
 refine sk hK2 ?_;clear hK2 K2;refine seqR (S As (nil ?_));refine AWp.ret ?_;repeat (first|refine xBlock_ret ?_|refine xThen_ret ?_)
 obtain rfl:=Option.some.inj hE;refine retQ.retF H rfl ⟨rfl,rfl⟩ ?_;intro id_ o_ he_;have e_tk1:id_≠tk1:=fun e_=>by subst e_; simp_all [Heap.set]
 have e_tk2:id_≠tk2:=fun e_=>by subst e_; simp_all [Heap.set]
 rw [<- he_];simp only [Heap.set] at he_ ⊢
 (repeat' split)<;>simp_all
theorem Z75_all:∀(n:Nat),(∀{a0:Z7}{r:Bs},Z75_n n a0=some r->∀(H:Heap),ACalls Tryz.prog 212 [.agg (Z7.c a0)] H fun v h'=>v=.a (.d (.str r))/\h'=H)
 | 0=>fun hE=>by first|cases hE|(rw [Z75_n] at hE; cases hE)
 | n+1=>Z75_step n (Z75_all n)
def Z75 (a0:Z7):Option Bs:=Z75_n F0 a0
theorem Z75_walk {a0:Z7}{r:Bs}(hE:Z75 a0=some r) (H:Heap) :ACalls Tryz.prog 212 [.agg (Z7.c a0)] H fun v h'=>v=.a (.d (.str r))/\h'=H:=(Z75_all F0) hE H 
def Z117 (a0:Z5):Option Bs:=bif (!a0.FHas) then((Z59 a0.FType).bind fun x6=>some x6) else((Z59 a0.FType).bind fun x8=>(catC x8 ([32,61,32]:Bs)).bind fun x9=>(Z75 a0.FDefault).bind fun x10=>(catC x9 x10).bind fun x11=>some x11)
theorem Z117_walk {a0:Z5}{r:Bs}(hE:Z117 a0=some r) (H:Heap) :ACalls Tryz.prog 154 [.agg (Z5.c a0)] H fun v h'=>v=.a (.d (.str r))/\h'=H:=by
 unfold Z117 at hE;refine ACalls.oW 17 [.tmp 2] Tryz.call154 Tryz.func154 ?_;refine seqR (S BX (S As (nil ?_)));refine seqK fun K2 hK2=>?_;refine seqR (S Fv (S Ld (S NB (nil ?_))));refine cE hE (fun hc4 hE=>?_) (fun hc4 hE=>?_)
 ·refine seqR (S Fv (S Ld ?_));obtain⟨x6,gx6,hE⟩:=bO hE;refine Sc rfl rfl (Z59_walk gx6) ?_;refine S As (nil ?_);exact rt hE
 refine sk hK2 ?_;clear hK2 K2;refine AWp.seqD (Sd Fv (Sd Ld ?_));obtain⟨x8,gx8,hE⟩:=bO hE;refine Scd rfl rfl (Z59_walk gx8) ?_;obtain⟨x9,gx9,hE⟩:=bO hE;refine DOps.s0 (catM rfl rfl gx9) rfl ?_;refine Sd Fv (Sd Ld ?_);obtain⟨x10,gx10,hE⟩:=bO hE;refine Scd rfl rfl (Z75_walk gx10) ?_;obtain⟨x11,gx11,hE⟩:=bO hE;refine DOps.s0 (catM rfl rfl gx11) rfl ?_;refine Sd As ?_;refine DOps.nil (by decide +kernel) ?_
 exact rt hE
def Z48 (a0:Int) (a1:Int):Option Int:=bif (decide (a0<a1)) then(some (-1:Int)) else(bif (decide (a1<a0)) then(some (1:Int)) else(some (0:Int)))
theorem Z48_walk {a0 a1 r:Int}(hE:Z48 a0 a1=some r) (H:Heap) :ACalls Tryz.prog 262 [.d (.int .i64 a0),.d (.int .i64 a1)] H fun v h'=>v=.a (.d (.int .i64 r))/\h'=H:=by
 unfold Z48 at hE;refine ACalls.oW 11 [.tmp 4] Tryz.call262 Tryz.func262 ?_;refine seqR (S As (nil ?_));refine seqK fun K2 hK2=>?_;refine seqR (S Mv (S Mv (S BI (nil ?_))));refine cE hE (fun hc4 hE=>?_) (fun hc4 hE=>?_)
 ·refine seqR (S As (nil ?_));exact rt hE
 refine sk hK2 ?_;clear hK2 K2;refine seqK fun K6 hK6=>?_;refine seqR (S Mv (S Mv (S BI (nil ?_))));refine cE hE (fun hc8 hE=>?_) (fun hc8 hE=>?_)
 ·refine seqR (S As (nil ?_));exact rt hE
 refine sk hK6 ?_;clear hK6 K6;refine seqR (S As (nil ?_));exact rt hE
def Z51 (a0:Bs) (a1:Bs):Option Int:=bif (Op.bytesLess a0 a1) then(some (-1:Int)) else(bif (!(Op.bytesLess a0 a1||a0==a1)) then(some (1:Int)) else(some (0:Int)))
theorem Z51_walk {a0 a1:Bs}{r:Int}(hE:Z51 a0 a1=some r) (H:Heap) :ACalls Tryz.prog 263 [.d (.str a0),.d (.str a1)] H fun v h'=>v=.a (.d (.int .i64 r))/\h'=H:=by
 unfold Z51 at hE;refine ACalls.oW 11 [.tmp 4] Tryz.call263 Tryz.func263 ?_;refine seqR (S As (nil ?_));refine seqK fun K2 hK2=>?_;refine seqR (S Mv (S Mv (S BS (nil ?_))));refine cE hE (fun hc4 hE=>?_) (fun hc4 hE=>?_)
 ·refine seqR (S As (nil ?_));exact rt hE
 refine sk hK2 ?_;clear hK2 K2;refine seqK fun K6 hK6=>?_;refine seqR (S Mv (S Mv (S BS (nil ?_))));refine cE hE (fun hc8 hE=>?_) (fun hc8 hE=>?_)
 ·refine seqR (S As (nil ?_));exact rt hE
 refine sk hK6 ?_;clear hK6 K6;refine seqR (S As (nil ?_));exact rt hE
def Z49 (a0:Z7) (a1:Int):Option Bs:=bif (decide (a1<((a0.FKeys.l.length:Nat):Int))) then((idxC a0.FKeys.l a1).bind fun x7=>some x7) else(some ([]:Bs))
theorem Z49_walk {a0:Z7}{a1:Int}{r:Bs}(hE:Z49 a0 a1=some r) (H:Heap) :ACalls Tryz.prog 264 [.agg (Z7.c a0),.d (.int .i64 a1)] H fun v h'=>v=.a (.d (.str r))/\h'=H:=by
 unfold Z49 at hE;refine ACalls.oW 15 [.tmp 4] Tryz.call264 Tryz.func264 ?_;refine seqR (S BX (S As (nil ?_)));refine seqK fun K2 hK2=>?_;refine seqR (S Mv (S Fv (S Ld ?_)));refine sLen (f:=strE) (s:=a0.FKeys) (TK rfl) rfl rfl rfl rfl fun hL4=>?_;refine S BI (nil ?_);refine cE hE (fun hc5 hE=>?_) (fun hc5 hE=>?_)
 ·refine seqR (S Fv (S Ld (S Mv ?_)));obtain⟨x7,gx7,hE⟩:=bO hE;refine s0 (idxM (f:=strE) (TK rfl) rfl (TK rfl) rfl rfl rfl gx7) rfl ?_;refine S Ld (S As (nil ?_));exact rt hE
 refine sk hK2 ?_;clear hK2 K2;refine seqR (S As (nil ?_));exact rt hE
end Go.Proofs
