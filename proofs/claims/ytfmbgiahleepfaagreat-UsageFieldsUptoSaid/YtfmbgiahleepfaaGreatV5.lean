import Derived.Test.YtfmbgiahleepfaaGreatV4
set_option maxRecDepth 100000
set_option maxHeartbeats 2000000
set_option linter.unusedVariables false
set_option linter.unusedSimpArgs false
namespace Go.Proofs
open Go Go.Ab
open AOps Cert AWp Keeps KeepsT
variable {lou:Lou}
def Z34_j5 (x4:((Sl Bs)×Bool))  (s7_6:Bool):Option ((Sl Bs)×Bool):=some (x4.1,s7_6)
def Z34_l10 (a0:Z8) (x4:((Sl Bs)×Bool)) :Nat->Bool->Nat->Option ((Sl Bs)×Bool)
 | 0,_,_=>none
 | n10+1,s7_11,s20_12=>bif (decide (((s20_12:Nat):Int)<((x4.1.l.length:Nat):Int))) then((x4.1.l[s20_12]?).bind fun x18=>(Z33 a0 x18).bind fun x20=>guardO (s7_11) (Z38 a0 x20.1) false fun x21=>(Z34_l10 a0 x4 n10) (s7_11&&(!x21)) (s20_12+1)) else(Z34_j5 x4  s7_11)
def Z34 (a0:Z8) (a1:(Sl TSel)):Option ((Sl Bs)×Bool):=(Z39 a0 a1 (Sl.nil:Sl Bs)).bind fun x4=>Z34_l10 a0 x4 (x4.1.l.length+1) x4.2 0
theorem Z34_walk {a0:Z8}{a1:Sl TSel}{w1:Option Nat}{r:((Sl Bs)×Bool)}(hE:Z34 a0 a1=some r) (H:Heap) :ACalls Tryz.prog 12 [.agg (Z8.c a0),.d (Sl.d 7 TSel.c w1 a1)] H fun v h'=>v=.tup [.d (Sl.d 1 strE none r.1),.d (.bool r.2)]/\h'=H:=by
 unfold Z34 at hE;refine ACalls.oW 40 [.tmp 4,.tmp 5] Tryz.call12 Tryz.func12 ?_;refine seqR (S BX ?_);refine s0 (assignNil (k':=1) rfl) rfl ?_;refine S As (nil ?_);refine AWp.tok 1 fun tk2_3 htk2_3=>?_;refine seqR (S Ld (S Mv ?_));obtain⟨x4,gx4,hE⟩:=bO hE;refine sH (callH rfl rfl (ACalls.asArgs (.cons (.refl _) (.cons (.refl _) (.cons (AsArg.nil (k':=1) (t:=tk2_3) hpG) .nil))) (Z39_walk gx4 _ hpG))) rfl ?_
 refine hq (H.set tk2_3 (some (.tok 1 x4.1.l.length))) ?_;refine S Mv (S EX (S EX (S As (S As (nil ?_)))));refine AWp.dropTok 6 rfl ?_;refine seqJH (TA 6 KeepsT.nil) (fun(z:Bool)=>[(7,.a (.d (.bool z)))]) (fun z=>(H.set tk2_3 (some (.tok 1 x4.1.l.length)))) (fun z=>Z34_j5 x4 z=some r) ?_ ?_
 ·intro K5 hK5;refine seqR (S Mv ?_);refine sLen (f:=strE) (s:=x4.1) (TK rfl) rfl rfl rfl rfl fun hL9=>?_;refine S Mv (nil ?_);refine block ?_;refine loopH (TA 2 (TA 6 (TA 18 (TA 19 KeepsT.nil)))) (fun(z:Nat×Bool×Nat)=>[(7,.a (.d (.bool z.2.1))),(20,.a (.d (.int .i64 ((z.2.2:Nat):Int))))]) (fun z=>(H.set tk2_3 (some (.tok 1 x4.1.l.length)))) (fun z=>z.1) (fun z=>Z34_l10 a0 x4 z.1 z.2.1 z.2.2=some r) ((x4.1.l.length+1),x4.2,0) hE Weak.toA ?_
  rintro ⟨n10,s7_11,s20_12⟩ hE K10 hK10;try dsimp only at hE
  cases n10 with
  | zero=>cases hE
  | succ n10 =>
    rw [Z34_l10] at hE;refine seqR (S BI (nil ?_));refine seqK fun K14 hK14=>?_;refine cE hE (fun hc15 hE=>?_) (fun hc15 hE=>?_)
    ·try dsimp only at hc15
     have hf15:=of_decide_eq_true hc15;refine sk hK14 ?_;clear hK14 K14;refine seqK fun K16 hK16=>?_;refine block ?_;refine seqR ?_;obtain⟨x18,gx18,hE⟩:=bO hE;refine S (ix strE s20_12 gx18) (S Ld (S As (nil ?_)));refine seqR (S Ld (S Mv ?_));obtain⟨x20,gx20,hE⟩:=bO hE;refine Sc rfl rfl (Z33_walk gx20) ?_;refine S Mv (S EX (S EX ?_));refine Sl ?_;refine Sf ?_;refine S As (nil ?_);refine freezeA 10 _ rfl (KA 2 (KA 6 (KA 7 (KA 18 (KA 19 (KA 20 Keeps.nil)))))) ?_
     refine region ?_;refine S Mv (S Mv (G0 Ld (G0 Ld ?_)));obtain⟨x21,gx21,hE⟩:=gO hE;refine Gc2 32 33 rfl rfl rfl rfl rfl rfl (fun hC=>Z38_walk (gx21 hC)) ?_;refine G1 34 rfl NB ?_;refine S PA (S As (nil ?_));refine hK16 _ ?_;clear hK16 K16;refine region ?_;refine SI ?_;refine S Mv (nil ?_);exact hK10 _ (n10,(s7_11&&(!x21)),(s20_12+1)) Weak.toA hE (Nat.lt_succ_self _)
    refine AWp.exit ?_;exact hK5 _ s7_11 Weak.toA hE
 rintro s7_6 hE;try dsimp only at hE
 unfold Z34_j5 at hE;refine seqR (S Mv (S Mv (S As (S As (nil ?_)))));refine AWp.ret ?_;repeat (first|refine xBlock_ret ?_|refine xThen_ret ?_)
 obtain rfl:=Option.some.inj hE;refine retQ.retF H rfl ⟨rfl,rfl⟩ ?_
 first|exact Heap.sub_set htk2_3|(simp only [Heap.set_set]; exact Heap.sub_set htk2_3)
def Z94 (a0:(Sl TUse)):Option (Sl TUse):=bif a0.nl then(some (Sl.nil:Sl TUse)) else((appC 56 (⟨false,[]⟩:Sl TUse) a0).bind fun x7=>some x7)
theorem Z94_arr {a0:Sl TUse}{w0:Option Nat}{ar0:Nat}{r:Sl TUse}(hE:Z94 a0=some r) (H:Heap) (har0:H ar0=some (.arr 4 [])) :ACalls Tryz.prog 58 [.d (Sl.d 4 TUse.c w0 a0)] H fun v h'=>v=.a (.d (.arr 4 ar0 r.nl r.l.length))/\h'=H.set ar0 (some (.arr 4 (r.l.map TUse.c))):=by
 unfold Z94 at hE;refine ACalls.oW 8 [.tmp 2] Tryz.call58 Tryz.func58 ?_;refine AWp.heqA (h':=(H.set ar0 (some (.arr 4 [])))) (by funext n_; simp only [Heap.set]; (repeat' split)<;>simp_all) ?_;refine seqR ?_;refine s0 (assignNil (k':=4) rfl) rfl ?_;refine AOps.nilR 2 4 ar0 rfl hpG ?_;refine nil ?_;refine seqK fun K2 hK2=>?_;refine seqR (S Mv ?_);refine s0 (eqNil (TK rfl) rfl rfl) rfl ?_;refine nil ?_
 refine cE hE (fun hc4 hE=>?_) (fun hc4 hE=>?_)
 ·refine seqR ?_;refine s0 (assignNil (k':=4) rfl) rfl ?_;refine AOps.nilR 2 4 ar0 rfl hpG ?_;refine nil ?_;exact rt hE
 refine sk hK2 ?_;clear hK2 K2;refine seqR ?_;refine s0 (buildSliceF (TK rfl) rfl (TK rfl) rfl rfl rfl rfl rfl rfl) rfl ?_;refine AOps.fullR 5 4 ar0 rfl hpG ?_;refine S Mv ?_;obtain⟨x7,gx7,hE⟩:=bO hE;refine sH (appR (f:=TUse.c) (s:=(⟨false,[]⟩:Sl TUse)) (TK rfl) rfl (TK rfl) (TK rfl) ⟨_,rfl⟩ rfl rfl rfl rfl rfl rfl hpG (by first|rfl|simp [Sl.setL,Sl.nil,sortL_len]) rfl gx7) rfl ?_;refine hq (H.set ar0 (some (.arr 4 (x7.l.map TUse.c)))) ?_
 refine S As (nil ?_);exact rt hE
instance:Inhabited TUse:=⟨TUse.zero⟩
def Tryz.lay59_ren:Go.Shelf.Ren:=⟨fun|6=>59|15=>97|14=>96|28=>122|29=>123|20=>114|21=>115|22=>116|23=>117|24=>118|25=>119|26=>120|27=>121|46=>132|47=>133|48=>134|49=>135|50=>136|57=>142|n=>n,fun|22=>34|24=>81|25=>132|3=>3|39=>166|0=>0|53=>183|55=>185|4=>4|46=>176|45=>175|50=>180|5=>5|9=>9|66=>192|70=>196|76=>203|77=>204|n=>n,fun|n=>n⟩
theorem Tryz.lay59:Go.Proofs.SlLaysF0.n6 Tryz.prog Tryz.lay59_ren:={
 mixed:=by kernel_rfl
 f6:=⟨Tryz.f59.name,by decide,Tryz.func59.trans (congrArg some (by kernel_rfl))⟩
 f14:=⟨Tryz.f96.name,by decide,Tryz.func96.trans (congrArg some (by kernel_rfl))⟩
 f15:=Tryz.func97.trans (congrArg some (by kernel_rfl))
 f20:=⟨Tryz.f114.name,by decide,Tryz.func114.trans (congrArg some (by kernel_rfl))⟩
 f21:=⟨Tryz.f115.name,by decide,Tryz.func115.trans (congrArg some (by kernel_rfl))⟩
 f22:=⟨Tryz.f116.name,by decide,Tryz.func116.trans (congrArg some (by kernel_rfl))⟩
 f23:=⟨Tryz.f117.name,by decide,Tryz.func117.trans (congrArg some (by kernel_rfl))⟩
 f24:=⟨Tryz.f118.name,by decide,Tryz.func118.trans (congrArg some (by kernel_rfl))⟩
 f25:=⟨Tryz.f119.name,by decide,Tryz.func119.trans (congrArg some (by kernel_rfl))⟩
 f26:=⟨Tryz.f120.name,by decide,Tryz.func120.trans (congrArg some (by kernel_rfl))⟩
 f27:=⟨Tryz.f121.name,by decide,Tryz.func121.trans (congrArg some (by kernel_rfl))⟩
 f28:=Tryz.func122.trans (congrArg some (by kernel_rfl))
 f29:=Tryz.func123.trans (congrArg some (by kernel_rfl))
 f46:=⟨Tryz.f132.name,by decide,Tryz.func132.trans (congrArg some (by kernel_rfl))⟩
 f47:=Tryz.func133.trans (congrArg some (by kernel_rfl))
 f48:=Tryz.func134.trans (congrArg some (by kernel_rfl))
 f49:=⟨Tryz.f135.name,by decide,Tryz.func135.trans (congrArg some (by kernel_rfl))⟩
 f50:=⟨Tryz.f136.name,by decide,Tryz.func136.trans (congrArg some (by kernel_rfl))⟩
 f57:=⟨Tryz.f142.name,by decide,Tryz.func142.trans (congrArg some (by kernel_rfl))⟩
 t0:=Tryz.underlying0
 a0:=Tryz.isAgg0
 z0:=Tryz.sizeOf0
 v0:=Tryz.zeroValue0
 t3:=Tryz.underlying3
 a3:=Tryz.isAgg3
 z3:=Tryz.sizeOf3
 v3:=Tryz.zeroValue3
 t4:=Tryz.underlying4
 a4:=Tryz.isAgg4
 z4:=Tryz.sizeOf4
 v4:=Tryz.zeroValue4
 t5:=Tryz.underlying5
 a5:=Tryz.isAgg5
 z5:=Tryz.sizeOf5
 v5:=Tryz.zeroValue5
 t9:=Tryz.underlying9
 a9:=Tryz.isAgg9
 z9:=Tryz.sizeOf9
 v9:=Tryz.zeroValue9
 t22:=Tryz.underlying34
 a22:=Tryz.isAgg34
 z22:=Tryz.sizeOf34
 v22:=Tryz.zeroValue34
 t25:=Tryz.underlying132
 a25:=Tryz.isAgg132
 z25:=Tryz.sizeOf132
 v25:=Tryz.zeroValue132
 t39:=Tryz.underlying166
 a39:=Tryz.isAgg166
 z39:=Tryz.sizeOf166
 v39:=Tryz.zeroValue166
 t45:=Tryz.underlying175
 a45:=Tryz.isAgg175
 z45:=Tryz.sizeOf175
 v45:=Tryz.zeroValue175
 t46:=Tryz.underlying176
 a46:=Tryz.isAgg176
 z46:=Tryz.sizeOf176
 v46:=Tryz.zeroValue176
 t50:=Tryz.underlying180
 a50:=Tryz.isAgg180
 z50:=Tryz.sizeOf180
 v50:=Tryz.zeroValue180
 t53:=Tryz.underlying183
 a53:=Tryz.isAgg183
 z53:=Tryz.sizeOf183
 v53:=Tryz.zeroValue183
 t55:=Tryz.underlying185
 a55:=Tryz.isAgg185
 z55:=Tryz.sizeOf185
 v55:=Tryz.zeroValue185
 t66:=Tryz.underlying192
 a66:=Tryz.isAgg192
 z66:=Tryz.sizeOf192
 v66:=Tryz.zeroValue192
 t70:=Tryz.underlying196
 a70:=Tryz.isAgg196
 z70:=Tryz.sizeOf196
 v70:=Tryz.zeroValue196
 t76:=Tryz.underlying203
 a76:=Tryz.isAgg203
 z76:=Tryz.sizeOf203
 v76:=Tryz.zeroValue203
 t77:=Tryz.underlying204
 a77:=Tryz.isAgg204
 z77:=Tryz.sizeOf204
 v77:=Tryz.zeroValue204 }
theorem Z110_sc:∀x,∀d,d∈TUse.c x->IsScal d:=by
 intro x d hd;simp only [TUse.c,strE,boolE,intE,List.mem_append,List.mem_cons,List.not_mem_nil,or_false] at hd;rcases hd with rfl|rfl|rfl|rfl<;>first|exact .inl ⟨_,rfl⟩|exact .inr (.inl ⟨_,_,rfl⟩)|exact .inr (.inr ⟨_,rfl⟩)
theorem Z110_walk {s:Sl TUse}{f:TUse->TUse->Option Int}{g:Nat}(ht:∀x y,∃z,f x y=some z) (hO:Go.Sort.SWO (Go.Proofs.ltOf (cmpO f))) (hw:∀{x y:TUse}{r:Int},f x y=some r->∀H,@ACalls Lou.off Tryz.prog g [.agg (TUse.c x),.agg (TUse.c y)] H fun v h'=>v=.a (.d (.int .i64 r))/\h'=H)
  {H:Heap}{id m:Nat}{nl:Bool}(hH:H id=some (.arr 4 (s.l.map TUse.c))) (hm:m=s.l.length):ACalls Tryz.prog 59 [.d (.arr 4 id nl m),.d (.func g [])] H fun r h'=>r=.tup []/\h'=H.set id (some (.arr 4 ((sortL TUse.c f s).l.map TUse.c))) :=
 sortL_calls Tryz.lay59 Tryz.isAgg81 Tryz.sizeOf81 (fun _=>rfl) Z110_sc (by kernel_rfl) ht hO hw hH hm rfl
def Z16_j3  :Option Int:=some (0:Int)
def Z16_l7 (a0:(Sl Int)) :Nat->Nat->Option Int
 | 0,_=>none
 | n7+1,s8_8=>bif (decide (((s8_8:Nat):Int)<((a0.l.length:Nat):Int))) then((a0.l[s8_8]?).bind fun x14=>bif (!decide (x14=(0:Int))) then(some x14) else((Z16_l7 a0 n7) (s8_8+1))) else(Z16_j3   )
def Z16 (a0:(Sl Int)):Option Int:=Z16_l7 a0 (a0.l.length+1) 0
theorem Z16_walk {a0:Sl Int}{w0:Option Nat}{r:Int}(hE:Z16 a0=some r) (H:Heap) :ACalls Tryz.prog 61 [.d (Sl.d 1 (intE .i64) w0 a0)] H fun v h'=>v=.a (.d (.int .i64 r))/\h'=H:=by
 unfold Z16 at hE;refine ACalls.oW 18 [.tmp 2] Tryz.call61 Tryz.func61 ?_;refine seqR (S As (nil ?_));refine seqR (S As (nil ?_));refine seqJH (TA 3 KeepsT.nil) (fun(z:Unit)=>[]) (fun z=>H) (fun z=>Z16_j3 =some r) ?_ ?_
 ·intro K3 hK3;refine seqR (S Mv ?_);refine sLen (f:=(intE .i64)) (s:=a0) (TK rfl) rfl rfl rfl rfl fun hL6=>?_;refine S Mv (nil ?_);refine block ?_;refine loopH (TA 3 (TA 6 (TA 7 KeepsT.nil))) (fun(z:Nat×Nat)=>[(8,.a (.d (.int .i64 ((z.2:Nat):Int))))]) (fun z=>H) (fun z=>z.1) (fun z=>Z16_l7 a0 z.1 z.2=some r) ((a0.l.length+1),0) hE Weak.toA ?_;rintro ⟨n7,s8_8⟩ hE K7 hK7;try dsimp only at hE
  cases n7 with
  | zero=>cases hE
  | succ n7 =>
    rw [Z16_l7] at hE;refine seqR (S BI (nil ?_));refine seqK fun K10 hK10=>?_;refine cE hE (fun hc11 hE=>?_) (fun hc11 hE=>?_)
    ·try dsimp only at hc11
     have hf11:=of_decide_eq_true hc11;refine sk hK10 ?_;clear hK10 K10;refine seqK fun K12 hK12=>?_;refine block ?_;refine seqR ?_;obtain⟨x14,gx14,hE⟩:=bO hE;refine S (ix (intE .i64) s8_8 gx14) ?_;refine S Ld (S As (nil ?_));refine seqR (S Mv (S Mv (S BI (nil ?_))));refine cE hE (fun hc16 hE=>?_) (fun hc16 hE=>?_)
     ·refine seqR (S Mv (S As (nil ?_)));exact rt hE
     refine sk hK12 ?_;clear hK12 K12;refine region ?_;refine SI ?_;refine S Mv (nil ?_);exact hK7 _ (n7,(s8_8+1)) Weak.toA hE (Nat.lt_succ_self _)
    refine AWp.exit ?_;exact hK3 _ () Weak.toA hE
 rintro _ hE;try dsimp only at hE
 unfold Z16_j3 at hE;refine seqR (S Mv (S As (nil ?_)));exact rt hE
def Z17 (a0:Bs):Option Bool:=some (!(a0==a0))
theorem Z17_walk {a0:Bs}{r:Bool}(hE:Z17 a0=some r) (H:Heap) :ACalls Tryz.prog 98 [.d (.str a0)] H fun v h'=>v=.a (.d (.bool r))/\h'=H:=by
 unfold Z17 at hE;refine ACalls.oW 6 [.tmp 2] Tryz.call98 Tryz.func98 ?_;refine seqR (S As (nil ?_));refine seqR (S Mv (S Mv (S BS (S As (nil ?_)))));exact rt hE
def Z15 (a0:Bs) (a1:Bs):Option Int:=(Z17 a0).bind fun x3=>(Z17 a1).bind fun x5=>bif x3 then(bif x5 then(some (0:Int)) else(some (-1:Int))) else(bif x5 then(some (1:Int)) else(bif (Op.bytesLess a0 a1) then(some (-1:Int)) else(bif (!(Op.bytesLess a0 a1||a0==a1)) then(some (1:Int)) else(some (0:Int)))))
theorem Z15_walk {a0 a1:Bs}{r:Int}(hE:Z15 a0 a1=some r) (H:Heap) :ACalls Tryz.prog 62 [.d (.str a0),.d (.str a1)] H fun v h'=>v=.a (.d (.int .i64 r))/\h'=H:=by
 unfold Z15 at hE;refine ACalls.oW 20 [.tmp 4] Tryz.call62 Tryz.func62 ?_;refine seqR (S As (nil ?_));refine seqR (S Mv ?_);obtain⟨x3,gx3,hE⟩:=bO hE;refine Sc rfl rfl (Z17_walk gx3) ?_;refine S As (nil ?_);refine seqR (S Mv ?_);obtain⟨x5,gx5,hE⟩:=bO hE;refine Sc rfl rfl (Z17_walk gx5) ?_;refine S As (nil ?_);refine seqK fun K6 hK6=>?_;refine seqR (S Mv (nil ?_));refine cE hE (fun hc8 hE=>?_) (fun hc8 hE=>?_)
 ·refine seqK fun K9 hK9=>?_;refine seqR (S Mv (nil ?_));refine cE hE (fun hc11 hE=>?_) (fun hc11 hE=>?_)
  ·refine seqR (S As (nil ?_));exact rt hE
  refine sk hK9 ?_;clear hK9 K9;refine seqR (S As (nil ?_));exact rt hE
 refine sk hK6 ?_;clear hK6 K6;refine seqK fun K14 hK14=>?_;refine seqR (S Mv (nil ?_));refine cE hE (fun hc16 hE=>?_) (fun hc16 hE=>?_)
 ·refine seqR (S As (nil ?_));exact rt hE
 refine sk hK14 ?_;clear hK14 K14;refine seqK fun K18 hK18=>?_;refine seqR (S Mv (S Mv (S BS (nil ?_))));refine cE hE (fun hc20 hE=>?_) (fun hc20 hE=>?_)
 ·refine seqR (S As (nil ?_));exact rt hE
 refine sk hK18 ?_;clear hK18 K18;refine seqK fun K22 hK22=>?_;refine seqR (S Mv (S Mv (S BS (nil ?_))));refine cE hE (fun hc24 hE=>?_) (fun hc24 hE=>?_)
 ·refine seqR (S As (nil ?_));exact rt hE
 refine sk hK22 ?_;clear hK22 K22;refine seqR (S As (nil ?_));exact rt hE
def Z124 (a0:TUse) (a1:TUse):Option Int:=(Z15 a0.FType a1.FType).bind fun x3=>(Z15 a0.FField a1.FField).bind fun x4=>(Z15 a0.FArg a1.FArg).bind fun x5=>(Z16 (⟨false,[x3,x4,x5]⟩:Sl Int)).bind fun x6=>some x6
theorem Z124_walk {a0 a1:TUse}{r:Int}(hE:Z124 a0 a1=some r) (H:Heap) :ACalls Tryz.prog 60 [.agg (TUse.c a0),.agg (TUse.c a1)] H fun v h'=>v=.a (.d (.int .i64 r))/\h'=H:=by
 unfold Z124 at hE;refine ACalls.oW 22 [.tmp 4] Tryz.call60 Tryz.func60 ?_;refine seqR (S BX (S BX (S As (nil ?_))));refine AWp.seqD (Sd Fv (Sd Ld (Sd Fv (Sd Ld ?_))));obtain⟨x3,gx3,hE⟩:=bO hE;refine Scd rfl rfl (Z15_walk gx3) ?_;refine Sd Fv (Sd Ld (Sd Fv (Sd Ld ?_)));obtain⟨x4,gx4,hE⟩:=bO hE;refine Scd rfl rfl (Z15_walk gx4) ?_;refine Sd Fv (Sd Ld (Sd Fv (Sd Ld ?_)));obtain⟨x5,gx5,hE⟩:=bO hE;refine Scd rfl rfl (Z15_walk gx5) ?_
 refine Sd BV ?_;obtain⟨x6,gx6,hE⟩:=bO hE;refine Scd rfl rfl (Z16_walk gx6) ?_;refine Sd As ?_;refine DOps.nil (by decide +kernel) ?_;exact rt hE
theorem bytesLess_lt:∀x y:Bs,Op.bytesLess x y=decide (x<y)
 | _,[]=>by simp [Op.bytesLess,List.not_lt_nil]
 | [],_::_=>by simp [Op.bytesLess,List.nil_lt_cons]
 | a::x,b::y=>by
  rw [Op.bytesLess,bytesLess_lt x y,Bool.eq_iff_iff];simp [List.cons_lt_cons_iff]
def cmpB (a b:Bs):Int:=bif Op.bytesLess a b then -1 else bif !(Op.bytesLess a b||a==b) then 1 else 0
theorem cmp_CompareV (a b:Bs):Z15 a b=some (cmpB a b):=by
 have h:∀s:Bs,Z17 s=some false:=fun s=>by simp [Z17]
 unfold Z15 cmpB;rw [h a,h b];simp only [Option.bind_some,cond_false];cases Op.bytesLess a b<;>cases a==b<;>rfl
theorem cmp_OrV (a b c:Int):Z16 ⟨false,[a,b,c]⟩=some (if a≠0 then a else if b≠0 then b else c):=by
 unfold Z16;simp only [List.length_cons,List.length_nil,Nat.reduceAdd,Z16_l7,Z16_j3];by_cases ha:a=0<;>by_cases hb:b=0<;>by_cases hc:c=0<;>simp [ha,hb,hc]
def cmpU (x y:TUse):Int:=if cmpB x.FType y.FType≠0 then cmpB x.FType y.FType else if cmpB x.FField y.FField≠0 then cmpB x.FField y.FField else cmpB x.FArg y.FArg
theorem Z123_1V (x y:TUse):Z124 x y=some (cmpU x y):=by
 simp only [Z124,cmp_CompareV,Option.bind_some,cmp_OrV,cmpU]
theorem cmpB_spec (a b:Bs):(cmpB a b<0↔a<b)/\(cmpB a b=0↔a=b):=by
 unfold cmpB;rw [bytesLess_lt];by_cases h:a<b
 ·have:a≠b:=fun e=>List.lt_irrefl b (e▸h);simp [h,this]
 by_cases e:a=b
 ·subst e; simp [h]
 have e2:(a==b)=false:=beq_eq_false_iff_ne.2 e;simp [h,e,e2]
def ltU (x y:TUse):Prop:=x.FType<y.FType\/x.FType=y.FType/\(x.FField<y.FField\/x.FField=y.FField/\x.FArg<y.FArg)
theorem cmpU_lt (x y:TUse):cmpU x y<0↔ltU x y:=by
 unfold cmpU ltU;have h1:=cmpB_spec x.FType y.FType;have h2:=cmpB_spec x.FField y.FField;have h3:=cmpB_spec x.FArg y.FArg;by_cases e1:x.FType=y.FType
 ·rw [if_neg (by simp [h1.2.2 e1])];by_cases e2:x.FField=y.FField
  ·rw [if_neg (by simp [h2.2.2 e2]),h3.1];simp [e1,e2,List.lt_irrefl]
  rw [if_pos (fun e=>e2 (h2.2.1 e)),h2.1];simp [e1,e2,List.lt_irrefl]
 rw [if_pos (fun e=>e1 (h1.2.1 e)),h1.1];simp [e1]
theorem bs_tri (a b:Bs):a<b\/a=b\/b<a:=by
 by_cases h:a<b
 ·exact .inl h
 by_cases h2:b<a
 ·exact .inr (.inr h2)
 exact .inr (.inl (List.le_antisymm (List.not_lt.1 h2) (List.not_lt.1 h)))
theorem ltU_trans {x y z:TUse}(h:ltU x y) (h':ltU y z):ltU x z:=by
 unfold ltU at *;rcases h with h|⟨e,h⟩<;>rcases h' with h'|⟨e',h'⟩
 ·exact .inl (List.lt_trans h h')
 ·exact .inl (e'▸h)
 ·exact .inl (e▸h')
 refine .inr ⟨e.trans e', ?_⟩;rcases h with h|⟨f,h⟩<;>rcases h' with h'|⟨f',h'⟩
 ·exact .inl (List.lt_trans h h')
 ·exact .inl (f'▸h)
 ·exact .inl (f▸h')
 exact .inr ⟨f.trans f',List.lt_trans h h'⟩
def sameU (x y:TUse):Prop:=x.FType=y.FType/\x.FField=y.FField/\x.FArg=y.FArg
theorem ltU_tri (x y:TUse):ltU x y\/sameU x y\/ltU y x:=by
 unfold ltU sameU;rcases bs_tri x.FType y.FType with h|h|h
 ·exact .inl (.inl h)
 ·rcases bs_tri x.FField y.FField with g|g|g
  ·exact .inl (.inr ⟨h,.inl g⟩)
  ·rcases bs_tri x.FArg y.FArg with k|k|k
   ·exact .inl (.inr ⟨h,.inr ⟨g,k⟩⟩)
   ·exact .inr (.inl ⟨h,g,k⟩)
   exact .inr (.inr (.inr ⟨h.symm,.inr ⟨g.symm,k⟩⟩))
  exact .inr (.inr (.inr ⟨h.symm,.inl g⟩))
 exact .inr (.inr (.inl h))
theorem ltU_irrefl (x:TUse):¬ltU x x:=by simp [ltU,List.lt_irrefl]
theorem ltU_same {x y z:TUse}(h:sameU x y):(ltU x z↔ltU y z)/\(ltU z x↔ltU z y):=by
 obtain⟨h1,h2,h3⟩:=h;unfold ltU; rw [h1,h2,h3]; exact⟨Iff.rfl,Iff.rfl⟩
theorem Z124_tot (x y:TUse):∃z,Z124 x y=some z:=⟨_,Z123_1V x y⟩
theorem Z124_cmp (x y:TUse):cmpO Z124 x y=cmpU x y:=by simp [cmpO,Z123_1V]
theorem Z124_swo:Go.Sort.SWO (Go.Proofs.ltOf (cmpO Z124)):=by
 have key:∀x y,Go.Proofs.ltOf (cmpO Z124) x y=decide (cmpU x y<0):=fun x y=>by simp [Go.Proofs.ltOf,Z124_cmp]
 refine⟨fun x=>?_,fun x y z h h'=>?_,fun x y z h h'=>?_⟩
 ·rw [key]; exact decide_eq_false fun h=>ltU_irrefl x ((cmpU_lt _ _).1 h)
 ·rw [key,decide_eq_true_eq,cmpU_lt] at *; exact ltU_trans h h'
 rw [key,decide_eq_false_iff_not,cmpU_lt] at *;intro hxz;rcases ltU_tri x y with g|g|g
 ·exact h g
 ·exact h' ((ltU_same g).1.1 hxz)
 exact h' (ltU_trans g hxz)
end Go.Proofs

namespace Go.Proofs
open Go Go.Ab
open AOps Cert AWp Keeps KeepsT
variable {lou:Lou}
def Z123_j7  (y8_ar1:(Sl TUse)):Option (Sl TUse):=some y8_ar1
def Z123_j18 (s14_13:Nat) (k_next_12:Nat->(Sl TUse)->Option (Sl TUse)) (y19_ar1:(Sl TUse)):Option (Sl TUse):=k_next_12 (s14_13+1) y19_ar1
def Z123_l12 (x5:(Sl TUse)) :Nat->Nat->(Sl TUse)->Option (Sl TUse)
 | 0,_,_=>none
 | n12+1,s14_13,y14_ar1=>bif (decide (((s14_13:Nat):Int)<((x5.l.length:Nat):Int))) then((x5.l[s14_13]?).bind fun x21=>guardO ((decide ((0:Int)<((y14_ar1.l.length:Nat):Int)))) (subC ((y14_ar1.l.length:Nat):Int) (1:Int)) (0:Int) fun x26=>guardO ((decide ((0:Int)<((y14_ar1.l.length:Nat):Int)))) (idxC y14_ar1.l x26) TUse.zero fun x27=>guardO (((decide ((0:Int)<((y14_ar1.l.length:Nat):Int)))&&((x27.FType==x21.FType)))) (subC ((y14_ar1.l.length:Nat):Int) (1:Int)) (0:Int) fun x28=>guardO (((decide ((0:Int)<((y14_ar1.l.length:Nat):Int)))&&((x27.FType==x21.FType)))) (idxC y14_ar1.l x28) TUse.zero fun x29=>guardO ((((decide ((0:Int)<((y14_ar1.l.length:Nat):Int)))&&((x27.FType==x21.FType)))&&((x29.FField==x21.FField)))) (subC ((y14_ar1.l.length:Nat):Int) (1:Int)) (0:Int) fun x30=>guardO ((((decide ((0:Int)<((y14_ar1.l.length:Nat):Int)))&&((x27.FType==x21.FType)))&&((x29.FField==x21.FField)))) (idxC y14_ar1.l x30) TUse.zero fun x31=>bif ((((decide ((0:Int)<((y14_ar1.l.length:Nat):Int)))&&((x27.FType==x21.FType)))&&((x29.FField==x21.FField)))&&((x31.FArg==x21.FArg))) then((subC ((y14_ar1.l.length:Nat):Int) (1:Int)).bind fun x34=>(idxC y14_ar1.l x34).bind fun x35=>(idxC y14_ar1.l x34).bind fun x36=>Z123_j18 s14_13 ((Z123_l12 x5 n12)) (Sl.setL y14_ar1 x34.toNat (TUse.mk x36.FType x36.FField x36.FArg (IntKind.wrap .i64 (x35.FCount+x21.FCount))))) else((appC 56 y14_ar1 (⟨false,[x21]⟩:Sl TUse)).bind fun x37=>Z123_j18 s14_13 ((Z123_l12 x5 n12)) x37)) else(Z123_j7   y14_ar1)
def Z123 (a0:(Sl TUse)):Option (Sl TUse):=(Z94 a0).bind fun x3=>(some (sortL TUse.c Z124 x3)).bind fun x5=>Z123_l12 x5 (x5.l.length+1) 0 (Sl.nil:Sl TUse)
theorem Z123_walk {a0:Sl TUse}{w0:Option Nat}{r:Sl TUse}(hE:Z123 a0=some r) (H:Heap) :ACalls Tryz.prog 33 [.d (Sl.d 4 TUse.c w0 a0)] H fun v h'=>v=.a (.d (Sl.d 4 TUse.c none r))/\h'=H:=by
 unfold Z123 at hE;refine ACalls.oW 72 [.tmp 2] Tryz.call33 Tryz.func33 ?_;refine AWp.arrO 4 fun ar1 har1=>?_;refine AWp.arrO 4 fun ar2 har2=>?_;obtain⟨ne_ar2_ar1,har2⟩:=Heap.set_fresh har2;refine seqR ?_;refine s0 (assignNil (k':=4) rfl) rfl ?_;refine AOps.nilR 2 4 ar1 rfl hpG ?_;refine nil ?_;refine seqR (S Mv ?_);obtain⟨x3,gx3,hE⟩:=bO hE;refine sH (callH rfl rfl (Z94_arr gx3 _ hpG)) rfl ?_;refine hq ((H.set ar1 (some (.arr 4 []))).set ar2 (some (.arr 4 (x3.l.map TUse.c)))) ?_
 refine S As (nil ?_);refine seqR (S Mv ?_);obtain⟨x5,gx5,hE⟩:=bO hE;have ex5:=Option.some.inj gx5;refine sH (callH rfl rfl (Z110_walk (s:=x3) Z124_tot Z124_swo Z124_walk hpG (by first|rfl|simp [Sl.setL,Sl.nil,sortL_len]))) rfl ?_;refine AOps.heq (h':=((H.set ar1 (some (.arr 4 []))).set ar2 (some (.arr 4 (x5.l.map TUse.c))))) (by subst ex5; exact(by first|rfl|(rw [Heap.set_set]; rfl)|(funext n_; simp only [Heap.set]; (repeat' split)<;>first|rfl|(exfalso; simp_all; done)|(simp_all; done)))) ?_
 refine nil ?_;refine AWp.arrEq 3 (nl':=x5.nl) (m':=x5.l.length) rfl (by first|rfl|(simp [Sl.setL,Sl.nil,sortL_len]; done)|(subst_vars; first|rfl|(simp [Sl.setL,Sl.nil,sortL_len]; done))) (by first|rfl|(simp [Sl.setL,Sl.nil,sortL_len]; done)|(subst_vars; first|rfl|(simp [Sl.setL,Sl.nil,sortL_len]; done))) ?_;refine seqR ?_;refine s0 (assignNil (k':=4) rfl) rfl ?_;refine AOps.nilR 4 4 ar1 rfl hpG ?_
 refine nil ?_;refine seqJH KeepsT.nil (fun(z:(Sl TUse))=>[(4,.a (.d (.arr 4 ar1 z.nl z.l.length)))]) (fun z=>((H.set ar1 (some (.arr 4 (z.l.map TUse.c)))).set ar2 (some (.arr 4 (x5.l.map TUse.c))))) (fun z=>Z123_j7 z=some r) ?_ ?_
 ·intro K7 hK7;refine seqR (S Mv ?_);refine AOps.sLenR (f:=TUse.c) (l:=x5.l) (TK rfl) rfl rfl rfl hpG (by first|rfl|simp [Sl.setL,Sl.nil,sortL_len]) rfl fun hL11=>?_;refine S Mv (nil ?_);refine block ?_;refine loopH (TA 12 (TA 13 KeepsT.nil)) (fun(z:Nat×Nat×(Sl TUse))=>[(14,.a (.d (.int .i64 ((z.2.1:Nat):Int)))),(4,.a (.d (.arr 4 ar1 z.2.2.nl z.2.2.l.length)))]) (fun z=>((H.set ar1 (some (.arr 4 (z.2.2.l.map TUse.c)))).set ar2 (some (.arr 4 (x5.l.map TUse.c))))) (fun z=>z.1) (fun z=>Z123_l12 x5 z.1 z.2.1 z.2.2=some r) ((x5.l.length+1),0,(Sl.nil:Sl TUse)) hE Weak.toA ?_
  rintro ⟨n12,s14_13,y14_ar1⟩ hE K12 hK12;try dsimp only at hE
  cases n12 with
  | zero=>cases hE
  | succ n12 =>
    rw [Z123_l12] at hE;refine seqR (S BI (nil ?_));refine seqK fun K16 hK16=>?_;refine cE hE (fun hc17 hE=>?_) (fun hc17 hE=>?_)
    ·try dsimp only at hc17
     have hf17:=of_decide_eq_true hc17;refine sk hK16 ?_;clear hK16 K16;refine seqJH (TA 12 (TA 13 (TA 14 KeepsT.nil))) (fun(z:(Sl TUse))=>[(4,.a (.d (.arr 4 ar1 z.nl z.l.length)))]) (fun z=>((H.set ar1 (some (.arr 4 (z.l.map TUse.c)))).set ar2 (some (.arr 4 (x5.l.map TUse.c))))) (fun z=>Z123_j18 s14_13 ((Z123_l12 x5 n12)) z=some r) ?_ ?_
     ·intro K18 hK18;refine block ?_;refine seqR ?_;obtain⟨x21,gx21,hE⟩:=bO hE;refine s0 (idxR (f:=TUse.c) (n:=s14_13) (TK rfl) rfl (TK rfl) rfl rfl rfl hpG (by first|rfl|simp [Sl.setL,Sl.nil,sortL_len]) gx21) rfl ?_;refine s0 (loadR (f:=TUse.c) (l:=x5.l) (i:=s14_13) (o:=0) (TK rfl) rfl rfl hpG (by first|rfl|simp [Sl.setL,Sl.nil,sortL_len]) gx21 rfl rfl) rfl ?_;refine Sl ?_;refine Sf ?_;refine nil ?_
      refine freezeA 6 _ rfl (KA 4 (KA 12 (KA 13 (KA 14 Keeps.nil)))) ?_;refine seqR (S Mv ?_);refine AOps.sLenR (f:=TUse.c) (l:=y14_ar1.l) (TK rfl) rfl rfl rfl hpG (by first|rfl|simp [Sl.setL,Sl.nil,sortL_len]) rfl fun hL23=>?_;refine S As (nil ?_);refine seqK fun K24 hK24=>?_;refine AWp.seqD (Sd Mv (Sd BI (Sd Mv (G0d Mv (G0d Mv ?_)))));obtain⟨x26,gx26,hE⟩:=gO hE;refine DOps.gC rfl rfl (fun hC=>ungdA (k:=24) rfl (subM rfl rfl (gx26 hC))) rfl ?_
      obtain⟨x27,gx27,hE⟩:=gO hE;refine DOps.gC rfl rfl (fun hC=>ungdA (k:=23) rfl (ungdA (k:=25) rfl (idxRi (f:=TUse.c) (TK rfl) rfl (TK rfl) rfl rfl rfl hpG (by first|rfl|simp [Sl.setL,Sl.nil,sortL_len]) (gx27 hC)))) rfl ?_;refine DOps.gC rfl rfl (fun hC=>ungdA (k:=26) rfl (fieldR (TK rfl) rfl rfl (TK rfl) rfl rfl)) rfl ?_;refine DOps.gC rfl rfl (fun hC=>ungdA (k:=27) rfl (loadR (f:=TUse.c) (l:=y14_ar1.l) (i:=x26.toNat) (o:=0) (TK rfl) rfl rfl hpG (by first|rfl|simp [Sl.setL,Sl.nil,sortL_len]) (idxC_at (gx27 hC)) rfl rfl)) rfl ?_
      refine G0d Fv ?_;refine G1d 29 rfl Ld ?_;refine G2d 28 30 rfl rfl BS ?_;refine Sd PA (Sd Mv (G0d Mv (G0d Mv ?_)));obtain⟨x28,gx28,hE⟩:=gO hE;refine DOps.gC rfl rfl (fun hC=>ungdA (k:=35) rfl (subM rfl rfl (gx28 hC))) rfl ?_;obtain⟨x29,gx29,hE⟩:=gO hE;refine DOps.gC rfl rfl (fun hC=>ungdA (k:=34) rfl (ungdA (k:=36) rfl (idxRi (f:=TUse.c) (TK rfl) rfl (TK rfl) rfl rfl rfl hpG (by first|rfl|simp [Sl.setL,Sl.nil,sortL_len]) (gx29 hC)))) rfl ?_
      refine DOps.gC rfl rfl (fun hC=>ungdA (k:=37) rfl (fieldR (TK rfl) rfl rfl (TK rfl) rfl rfl)) rfl ?_;refine DOps.gC rfl rfl (fun hC=>ungdA (k:=38) rfl (loadR (f:=TUse.c) (l:=y14_ar1.l) (i:=x28.toNat) (o:=1) (TK rfl) rfl rfl hpG (by first|rfl|simp [Sl.setL,Sl.nil,sortL_len]) (idxC_at (gx29 hC)) rfl rfl)) rfl ?_;refine G0d Fv ?_;refine G1d 40 rfl Ld ?_;refine G2d 39 41 rfl rfl BS ?_;refine Sd PA (Sd Mv (G0d Mv (G0d Mv ?_)))
      obtain⟨x30,gx30,hE⟩:=gO hE;refine DOps.gC rfl rfl (fun hC=>ungdA (k:=46) rfl (subM rfl rfl (gx30 hC))) rfl ?_;obtain⟨x31,gx31,hE⟩:=gO hE;refine DOps.gC rfl rfl (fun hC=>ungdA (k:=45) rfl (ungdA (k:=47) rfl (idxRi (f:=TUse.c) (TK rfl) rfl (TK rfl) rfl rfl rfl hpG (by first|rfl|simp [Sl.setL,Sl.nil,sortL_len]) (gx31 hC)))) rfl ?_;refine DOps.gC rfl rfl (fun hC=>ungdA (k:=48) rfl (fieldR (TK rfl) rfl rfl (TK rfl) rfl rfl)) rfl ?_
      refine DOps.gC rfl rfl (fun hC=>ungdA (k:=49) rfl (loadR (f:=TUse.c) (l:=y14_ar1.l) (i:=x30.toNat) (o:=2) (TK rfl) rfl rfl hpG (by first|rfl|simp [Sl.setL,Sl.nil,sortL_len]) (idxC_at (gx31 hC)) rfl rfl)) rfl ?_;refine G0d Fv ?_;refine G1d 51 rfl Ld ?_;refine G2d 50 52 rfl rfl BS ?_;refine Sd PA ?_;refine DOps.nil (by decide +kernel) ?_;refine cE hE (fun hc32 hE=>?_) (fun hc32 hE=>?_)
      ·refine AWp.seqD (Sd Mv (Sd Mv ?_));obtain⟨x34,gx34,hE⟩:=bO hE;refine DOps.s0 (subM rfl rfl gx34) rfl ?_;obtain⟨x35,gx35,hE⟩:=bO hE;refine DOps.s0 (idxRi (f:=TUse.c) (TK rfl) rfl (TK rfl) rfl rfl rfl hpG (by first|rfl|simp [Sl.setL,Sl.nil,sortL_len]) gx35) rfl ?_;refine DOps.s0 (fieldR (TK rfl) rfl rfl (TK rfl) rfl rfl) rfl ?_;refine DOps.s0 (loadR (f:=TUse.c) (l:=y14_ar1.l) (i:=x34.toNat) (o:=3) (TK rfl) rfl rfl hpG (by first|rfl|simp [Sl.setL,Sl.nil,sortL_len]) (idxC_at gx35) rfl rfl) rfl ?_
       refine Sd Fv (Sd Ld (Sd BI ?_));obtain⟨x36,gx36,hE⟩:=bO hE;refine DOps.s0 (idxRi (f:=TUse.c) (TK rfl) rfl (TK rfl) rfl rfl rfl hpG (by first|rfl|simp [Sl.setL,Sl.nil,sortL_len]) gx36) rfl ?_;refine DOps.s0 (fieldR (TK rfl) rfl rfl (TK rfl) rfl rfl) rfl ?_;refine DOps.sHn (storeR (f:=TUse.c) (l:=y14_ar1.l) (i:=x34.toNat) (o:=3) (u:=x36) (u':=(TUse.mk x36.FType x36.FField x36.FArg (IntKind.wrap .i64 (x35.FCount+x21.FCount)))) (TK rfl) rfl rfl hpG (by first|rfl|simp [Sl.setL,Sl.nil,sortL_len]) (idxC_at gx36) rfl rfl (by decide) rfl rfl) rfl rfl ?_
       refine DOps.Dh ((H.set ar1 (some (.arr 4 ((Sl.setL y14_ar1 x34.toNat (TUse.mk x36.FType x36.FField x36.FArg (IntKind.wrap .i64 (x35.FCount+x21.FCount)))).l.map TUse.c)))).set ar2 (some (.arr 4 (x5.l.map TUse.c)))) ?_;refine DOps.nil (by decide +kernel) ?_;refine AWp.arrEq 4 (nl':=(Sl.setL y14_ar1 x34.toNat (TUse.mk x36.FType x36.FField x36.FArg (IntKind.wrap .i64 (x35.FCount+x21.FCount)))).nl) (m':=(Sl.setL y14_ar1 x34.toNat (TUse.mk x36.FType x36.FField x36.FArg (IntKind.wrap .i64 (x35.FCount+x21.FCount)))).l.length) rfl (by first|rfl|(simp [Sl.setL,Sl.nil,sortL_len]; done)|(subst_vars; first|rfl|(simp [Sl.setL,Sl.nil,sortL_len]; done))) (by first|rfl|(simp [Sl.setL,Sl.nil,sortL_len]; done)|(subst_vars; first|rfl|(simp [Sl.setL,Sl.nil,sortL_len]; done))) ?_
       refine AWp.exit ?_;exact hK18 _ (Sl.setL y14_ar1 x34.toNat (TUse.mk x36.FType x36.FField x36.FArg (IntKind.wrap .i64 (x35.FCount+x21.FCount)))) Weak.toA hE
      refine sk hK24 ?_;clear hK24 K24;refine region ?_;refine S Mv (S Ld (S BV ?_));obtain⟨x37,gx37,hE⟩:=bO hE;refine sH (appR (f:=TUse.c) (s:=y14_ar1) (TK rfl) rfl (TK rfl) (TK rfl) ⟨_,rfl⟩ rfl rfl rfl rfl rfl rfl hpG (by first|rfl|simp [Sl.setL,Sl.nil,sortL_len]) rfl gx37) rfl ?_;refine hq ((H.set ar1 (some (.arr 4 (x37.l.map TUse.c)))).set ar2 (some (.arr 4 (x5.l.map TUse.c)))) ?_;refine S As (nil ?_)
      exact hK18 _ x37 Weak.toA hE
     rintro y19_ar1 hE;try dsimp only at hE
     unfold Z123_j18 at hE;refine region ?_;refine SI ?_;refine S Mv (nil ?_);exact hK12 _ (n12,(s14_13+1),y19_ar1) Weak.toA hE (Nat.lt_succ_self _)
    refine AWp.exit ?_;exact hK7 _ y14_ar1 Weak.toA hE
 rintro y8_ar1 hE;try dsimp only at hE
 unfold Z123_j7 at hE;refine seqR (S Mv (S As (nil ?_)));refine AWp.frzR 2 ar1 rfl hpG (by first|rfl|(simp [Sl.setL,Sl.nil,sortL_len]; done)|(subst_vars; first|rfl|(simp [Sl.setL,Sl.nil,sortL_len]; done))) ?_;refine AWp.heqA (h':=(H.set ar2 (some (.arr 4 (x5.l.map TUse.c))))) (by first|rfl|(rw [Heap.set_set]; rfl)|(funext n_; simp only [Heap.set]; (repeat' split)<;>first|rfl|(exfalso; simp_all; done)|(simp_all; done))) ?_
 refine AWp.ret ?_;repeat (first|refine xBlock_ret ?_|refine xThen_ret ?_)
 obtain rfl:=Option.some.inj hE;refine retQ.retF H rfl ⟨rfl,rfl⟩ ?_
 first|exact Heap.sub_set har2|(simp only [Heap.set_set]; exact Heap.sub_set har2)
def Z128 (a0:Z10) (a1:Bs) (a2:Bs) (a3:Bs):Option Z10:=(appC 56 a0.Fout (⟨false,[(TUse.mk a1 a2 a3 (1:Int))]⟩:Sl TUse)).bind fun x1=>some (Z10.mk a0.Fd a0.Fq x1)
theorem Z128_walk {a0:Z10}{a1 a2 a3:Bs}{c0 c0_2:Nat}{r:Z10}(hE:Z128 a0 a1 a2 a3=some r) (H:Heap) (hc0:H c0=some (.cells (Z10.cg (some c0_2) a0))) (ht0_2:H c0_2=some (.tok 4 a0.Fout.l.length)):ACalls Tryz.prog 64 [.d (.ptr c0 0),.d (.str a1),.d (.str a2),.d (.str a3)] H fun v h'=>v=.tup []/\h'=((H.set c0_2 (some (.tok 4 r.Fout.l.length))).set c0 (some (.cells (Z10.cg (some c0_2) r)))):=by
 unfold Z128 at hE;refine ACalls.oW 21 [] Tryz.call64 Tryz.func64 ?_;have ne_c0_c0_2:c0≠c0_2:=fun e_=>by subst e_; simp_all
 refine AWp.heqA (h':=((H.set c0_2 (some (.tok 4 a0.Fout.l.length))).set c0 (some (.cells (Z10.cg (some c0_2) a0))))) (by funext n_; simp only [Heap.set]; (repeat' split)<;>simp_all) ?_;refine region ?_;refine S Mv (S Mv (S NP ?_));refine s0 (fieldP (TK rfl) rfl rfl (TK rfl) rfl rfl) rfl ?_;refine s0 (loadP (TK rfl) rfl rfl hpG rfl) rfl ?_;refine S Mv (S Mv (S Mv (S BU (S BV ?_))));obtain⟨x1,gx1,hE⟩:=bO hE
 refine SH (am TUse.c (TK rfl) rfl (TK rfl) (TK rfl) gx1) ?_;refine hq ((H.set c0_2 (some (.tok 4 x1.l.length))).set c0 (some (.cells (Z10.cg (some c0_2) a0)))) ?_;refine S NP ?_;refine s0 (fieldP (TK rfl) rfl rfl (TK rfl) rfl rfl) rfl ?_;refine sHn (storeP1 (TK rfl) rfl rfl hpG rfl (by repeat (first|exact SetAt.zero|apply SetAt.succ))) rfl rfl ?_;refine hq ((H.set c0_2 (some (.tok 4 x1.l.length))).set c0 (some (.cells (Z10.cg (some c0_2) (Z10.mk a0.Fd a0.Fq x1))))) ?_
 refine nil ?_;repeat (first|refine xBlock_normal ?_|refine xThen_exit ?_|refine xBlock_exit ?_)
 obtain rfl:=Option.some.inj hE;refine retQ.normalF ((H.set c0_2 (some (.tok 4 x1.l.length))).set c0 (some (.cells (Z10.cg (some c0_2) (Z10.mk a0.Fd a0.Fq x1))))) (xs:=[]) rfl ⟨rfl,rfl⟩ ?_;exact(fun _ _ h=>h)
def Z125 (a0:Z10) (a1:Bs):Option Z10:=(Z76 a0.Fd a1).bind fun x2=>bif x2 then((Z128 a0 a1 ([]:Bs) ([]:Bs)).bind fun x4=>some x4) else(some a0)
theorem Z125_walk {a0:Z10}{a1:Bs}{c0 c0_2:Nat}{r:Z10}(hE:Z125 a0 a1=some r) (H:Heap) (hc0:H c0=some (.cells (Z10.cg (some c0_2) a0))) (ht0_2:H c0_2=some (.tok 4 a0.Fout.l.length)):ACalls Tryz.prog 35 [.d (.ptr c0 0),.d (.str a1)] H fun v h'=>v=.tup []/\h'=((H.set c0_2 (some (.tok 4 r.Fout.l.length))).set c0 (some (.cells (Z10.cg (some c0_2) r)))):=by
 unfold Z125 at hE;refine ACalls.oW 13 [] Tryz.call35 Tryz.func35 ?_;have ne_c0_c0_2:c0≠c0_2:=fun e_=>by subst e_; simp_all
 refine AWp.heqA (h':=((H.set c0_2 (some (.tok 4 a0.Fout.l.length))).set c0 (some (.cells (Z10.cg (some c0_2) a0))))) (by funext n_; simp only [Heap.set]; (repeat' split)<;>simp_all) ?_;refine seqR (S Mv (S NP ?_));refine s0 (fieldP (TK rfl) rfl rfl (TK rfl) rfl rfl) rfl ?_;refine s0 (loadP (TK rfl) rfl rfl hpG rfl) rfl ?_;refine S Mv ?_;obtain⟨x2,gx2,hE⟩:=bO hE;refine Sc rfl rfl (Z76_walk gx2) ?_
 refine nil ?_;refine cE hE (fun hc3 hE=>?_) (fun hc3 hE=>?_)
 ·refine region ?_;refine S Mv (S Mv ?_);obtain⟨x4,gx4,hE⟩:=bO hE;refine sH (callH rfl rfl (Z128_walk gx4 _ hpG hpG)) rfl ?_;refine hq ((H.set c0_2 (some (.tok 4 x4.Fout.l.length))).set c0 (some (.cells (Z10.cg (some c0_2) x4)))) ?_;refine nil ?_;repeat (first|refine xBlock_normal ?_|refine xThen_exit ?_|refine xBlock_exit ?_)
  obtain rfl:=Option.some.inj hE;refine retQ.normalF ((H.set c0_2 (some (.tok 4 x4.Fout.l.length))).set c0 (some (.cells (Z10.cg (some c0_2) x4)))) (xs:=[]) rfl ⟨rfl,rfl⟩ ?_;exact(fun _ _ h=>h)
 refine AWp.skip ?_;repeat (first|refine xBlock_normal ?_|refine xThen_exit ?_|refine xBlock_exit ?_)
 obtain rfl:=Option.some.inj hE;refine retQ.normalF ((H.set c0_2 (some (.tok 4 a0.Fout.l.length))).set c0 (some (.cells (Z10.cg (some c0_2) a0)))) (xs:=[]) rfl ⟨rfl,rfl⟩ ?_;exact(fun _ _ h=>h)
def Z129_j5  (y6_c0:Z10):Option Z10:=some y6_c0
def Z129_l13 (a1:Z9) (x8:(TRef×Bool)) (k_rec_36:Z10->Z9->TRef->Option Z10):Nat->Nat->Z10->Option Z10
 | 0,_,_=>none
 | n13+1,s27_14,y15_c0=>bif (decide (((s27_14:Nat):Int)<((a1.FItems.l.length:Nat):Int))) then((a1.FItems.l[s27_14]?).bind fun x21=>(k_rec_36 y15_c0 x21 x8.1).bind fun x22=>(Z129_l13 a1 x8 k_rec_36 n13) (s27_14+1) x22) else(Z129_j5   y15_c0)
def Z129_j41 (s89_36:Int) (k_next_35:Int->Z10->Option Z10) (y42_c0:Z10):Option Z10:=(addC s89_36 (1:Int)).bind fun x43=>k_next_35 x43 y42_c0
def Z129_l35 (a1:Z9) (x24:(TDef×Bool)) (k_rec_36:Z10->Z9->TRef->Option Z10):Nat->Int->Z10->Option Z10
 | 0,_,_=>none
 | n35+1,s89_36,y37_c0=>bif (decide (s89_36<(if ((a1.FItems.l.length:Nat):Int)<((a1.FKeys.l.length:Nat):Int) then((a1.FItems.l.length:Nat):Int) else((a1.FKeys.l.length:Nat):Int)))) then((idxC a1.FKeys.l s89_36).bind fun x46=>(Z79 x24.1.FInputs x46).bind fun x47=>bif x47.2 then((idxC a1.FItems.l s89_36).bind fun x50=>(k_rec_36 y37_c0 x50 x47.1.FType).bind fun x51=>Z129_j41 s89_36 ((Z129_l35 a1 x24 k_rec_36 n35)) x51) else(Z129_j41 s89_36 ((Z129_l35 a1 x24 k_rec_36 n35)) y37_c0)) else(some y37_c0)
def Z129_n:Nat->Z10->Z9->TRef->Option Z10
 | 0,_,_,_=>none
 | n+1,a0,a1,a2=>bif (decide (a1.FKind=(5:Int))) then((Z114 a2).bind fun x8=>bif x8.2 then(Z129_l13 a1 x8 (Z129_n n) (a1.FItems.l.length+1) 0 a0) else(Z129_j5   a0)) else((Z78 a0.Fd a2.FName).bind fun x24=>guardO (((decide (a1.FKind=(4:Int)))&&(decide (x24.1.FKind=(4:Int))))) (Z83 a2.FName) false fun x26=>bif (((decide (a1.FKind=(4:Int)))&&(decide (x24.1.FKind=(4:Int))))&&(!x26)) then((Z128 a0 a2.FName a1.FText ([]:Bs)).bind fun x28=>some x28) else(guardO (((decide (a1.FKind=(6:Int)))&&(decide (x24.1.FKind=(5:Int))))) (Z83 a2.FName) false fun x30=>bif (((decide (a1.FKind=(6:Int)))&&(decide (x24.1.FKind=(5:Int))))&&(!x30)) then(Z129_l35 a1 x24 (Z129_n n) F0 (0:Int) a0) else(some a0)))
theorem Z129_step (n:Nat) (ih_36:∀{a0:Z10}{a1:Z9}{a2:TRef}{c0 c0_2:Nat}{r:Z10},Z129_n n a0 a1 a2=some r->∀(H:Heap) (hc0:H c0=some (.cells (Z10.cg (some c0_2) a0))) (ht0_2:H c0_2=some (.tok 4 a0.Fout.l.length)),ACalls Tryz.prog 36 [.d (.ptr c0 0),.agg (Z9.c a1),.agg (TRef.c a2)] H fun v h'=>v=.tup []/\h'=((H.set c0_2 (some (.tok 4 r.Fout.l.length))).set c0 (some (.cells (Z10.cg (some c0_2) r))))):∀{a0:Z10}{a1:Z9}{a2:TRef}{c0 c0_2:Nat}{r:Z10},Z129_n (n+1) a0 a1 a2=some r->∀(H:Heap) (hc0:H c0=some (.cells (Z10.cg (some c0_2) a0))) (ht0_2:H c0_2=some (.tok 4 a0.Fout.l.length)),ACalls Tryz.prog 36 [.d (.ptr c0 0),.agg (Z9.c a1),.agg (TRef.c a2)] H fun v h'=>v=.tup []/\h'=((H.set c0_2 (some (.tok 4 r.Fout.l.length))).set c0 (some (.cells (Z10.cg (some c0_2) r)))):=by
 intro a0 a1 a2  c0 c0_2 r hE H hc0 ht0_2;rw [Z129_n] at hE;refine ACalls.oW 114 [] Tryz.call36 Tryz.func36 ?_;have ne_c0_c0_2:c0≠c0_2:=fun e_=>by subst e_; simp_all
 refine AWp.heqA (h':=((H.set c0_2 (some (.tok 4 a0.Fout.l.length))).set c0 (some (.cells (Z10.cg (some c0_2) a0))))) (by funext n_; simp only [Heap.set]; (repeat' split)<;>simp_all) ?_;refine seqR (S BX (S BX (nil ?_)));refine seqK fun K2 hK2=>?_;refine seqR (S Fv (S Ld (S BI (nil ?_))));refine cE hE (fun hc4 hE=>?_) (fun hc4 hE=>?_)
 ·refine seqJH KeepsT.nil (fun(z:Z10)=>[]) (fun z=>((H.set c0_2 (some (.tok 4 z.Fout.l.length))).set c0 (some (.cells (Z10.cg (some c0_2) z))))) (fun z=>Z129_j5 z=some r) ?_ ?_
  ·intro K5 hK5;refine seqR (S Ld ?_);obtain⟨x8,gx8,hE⟩:=bO hE;refine Sc rfl rfl (Z114_walk gx8) ?_;refine S Mv (S EX (S EX ?_));refine Sl ?_;refine Sf ?_;refine S As (nil ?_);refine freezeA 6 _ rfl (KA 0 (KA 4 (KA 7 Keeps.nil))) ?_;refine seqR (S Mv (nil ?_));refine cE hE (fun hc10 hE=>?_) (fun hc10 hE=>?_)
   ·refine seqR (S Fv ?_);refine s0 (loadV (TK rfl) rfl rfl (congrArg (fun x=>some (A.d x)) (Z9.FItemsD_eq _))) rfl ?_;refine sLen (f:=Z9.c) (s:=a1.FItems) (TK rfl) rfl rfl rfl rfl fun hL12=>?_;refine S Mv (nil ?_);refine block ?_;refine loopH (TA 0 (TA 6 (TA 25 (TA 26 KeepsT.nil)))) (fun(z:Nat×Nat×Z10)=>[(27,.a (.d (.int .i64 ((z.2.1:Nat):Int))))]) (fun z=>((H.set c0_2 (some (.tok 4 z.2.2.Fout.l.length))).set c0 (some (.cells (Z10.cg (some c0_2) z.2.2))))) (fun z=>z.1) (fun z=>Z129_l13 a1 x8 (Z129_n n) z.1 z.2.1 z.2.2=some r) ((a1.FItems.l.length+1),0,a0) hE Weak.toA ?_
    rintro ⟨n13,s27_14,y15_c0⟩ hE K13 hK13;try dsimp only at hE
    cases n13 with
    | zero=>cases hE
    | succ n13 =>
      rw [Z129_l13] at hE;refine seqR (S BI (nil ?_));refine seqK fun K17 hK17=>?_;refine cE hE (fun hc18 hE=>?_) (fun hc18 hE=>?_)
      ·try dsimp only at hc18
       have hf18:=of_decide_eq_true hc18;refine sk hK17 ?_;clear hK17 K17;refine seqK fun K19 hK19=>?_;refine block ?_;refine seqR ?_;obtain⟨x21,gx21,hE⟩:=bO hE;refine S (ix Z9.c s27_14 gx21) (S Ld ?_);refine Sl ?_;refine Sf ?_;refine nil ?_;refine freezeA 9 _ rfl (KA 0 (KA 6 (KA 25 (KA 26 (KA 27 Keeps.nil))))) ?_;refine region ?_;refine S Mv (S Ld (S Ld ?_));obtain⟨x22,gx22,hE⟩:=bO hE;refine sH (callH rfl rfl (ih_36 gx22 _ hpG hpG)) rfl ?_
       refine hq ((H.set c0_2 (some (.tok 4 x22.Fout.l.length))).set c0 (some (.cells (Z10.cg (some c0_2) x22)))) ?_;refine nil ?_;refine hK19 _ ?_;clear hK19 K19;refine region ?_;refine SI ?_;refine S Mv (nil ?_);exact hK13 _ (n13,(s27_14+1),x22) Weak.toA hE (Nat.lt_succ_self _)
      refine AWp.exit ?_;exact hK5 _ y15_c0 Weak.toA hE
   refine AWp.skip ?_;exact hK5 _ a0 Weak.toA hE
  rintro y6_c0 hE;try dsimp only at hE
  unfold Z129_j5 at hE;exact rt hE
 refine sk hK2 ?_;clear hK2 K2;refine AWp.seqD (Sd Mv (Sd NP ?_));refine DOps.s0 (fieldP (TK rfl) rfl rfl (TK rfl) rfl rfl) rfl ?_;refine DOps.s0 (loadP (TK rfl) rfl rfl hpG rfl) rfl ?_;refine Sd Fv (Sd Ld ?_);obtain⟨x24,gx24,hE⟩:=bO hE;refine Scd rfl rfl (Z78_walk gx24) ?_;refine Sd Mv (Sd EX (Sd EX ?_));refine DOps.sB (TK rfl) rfl rfl ?_ (by repeat (first|exact Snoc.nil|apply Snoc.cons));refine DOps.sLn (storeLFA (TK rfl) rfl rfl rfl rfl rfl) ?_
 refine Sd As ?_;refine DOps.nil (by decide +kernel) ?_;refine freezeA 10 _ rfl (KA 0 (KA 4 (KA 5 Keeps.nil))) ?_;refine block ?_;refine seqR (S Fv (S Ld (S BI (S Mv (G0 Fv ?_)))));refine G1 51 rfl Ld ?_;refine G1 52 rfl BI ?_;refine S PA (S Mv (G0 Fv ?_));refine G1 56 rfl Ld ?_;obtain⟨x26,gx26,hE⟩:=gO hE;refine Gc1 57 rfl rfl rfl rfl rfl (fun hC=>Z83_walk (gx26 hC)) ?_;refine G1 58 rfl NB ?_;refine S PA (S As (nil ?_))
 refine cE hE (fun hc27 hE=>?_) (fun hc27 hE=>?_)
 ·refine region ?_;refine S Mv (S Fv (S Ld (S Fv (S Ld ?_))));obtain⟨x28,gx28,hE⟩:=bO hE;refine sH (callH rfl rfl (Z128_walk gx28 _ hpG hpG)) rfl ?_;refine hq ((H.set c0_2 (some (.tok 4 x28.Fout.l.length))).set c0 (some (.cells (Z10.cg (some c0_2) x28)))) ?_;refine nil ?_;repeat (first|refine xBlock_normal ?_|refine xThen_exit ?_|refine xBlock_exit ?_)
  obtain rfl:=Option.some.inj hE;refine retQ.normalF ((H.set c0_2 (some (.tok 4 x28.Fout.l.length))).set c0 (some (.cells (Z10.cg (some c0_2) x28)))) (xs:=[]) rfl ⟨rfl,rfl⟩ ?_;exact(fun _ _ h=>h)
 refine seqR (S Fv (S Ld (S BI (S Mv (G0 Fv ?_)))));refine G1 72 rfl Ld ?_;refine G1 73 rfl BI ?_;refine S PA (S Mv (G0 Fv ?_));refine G1 77 rfl Ld ?_;obtain⟨x30,gx30,hE⟩:=gO hE;refine Gc1 78 rfl rfl rfl rfl rfl (fun hC=>Z83_walk (gx30 hC)) ?_;refine G1 79 rfl NB ?_;refine S PA (S As (nil ?_));refine cE hE (fun hc31 hE=>?_) (fun hc31 hE=>?_)
 ·refine seqR (S Fv (S Ld ?_));refine sLen (f:=strE) (s:=a1.FKeys) (TK rfl) rfl rfl rfl rfl fun hL33=>?_;refine S Fv ?_;refine s0 (loadV (TK rfl) rfl rfl (congrArg (fun x=>some (A.d x)) (Z9.FItemsD_eq _))) rfl ?_;refine sLen (f:=Z9.c) (s:=a1.FItems) (TK rfl) rfl rfl rfl rfl fun hL34=>?_;refine s0 (minM rfl rfl) rfl ?_;refine S Mv (nil ?_);refine block ?_;refine loopH (TA 0 (TA 4 (TA 10 (TA 88 KeepsT.nil)))) (fun(z:Nat×Int×Z10)=>[(89,.a (.d (.int .i64 z.2.1)))]) (fun z=>((H.set c0_2 (some (.tok 4 z.2.2.Fout.l.length))).set c0 (some (.cells (Z10.cg (some c0_2) z.2.2))))) (fun z=>z.1) (fun z=>Z129_l35 a1 x24 (Z129_n n) z.1 z.2.1 z.2.2=some r) (F0,(0:Int),a0) hE Weak.toA ?_
  rintro ⟨n35,s89_36,y37_c0⟩ hE K35 hK35;try dsimp only at hE
  cases n35 with
  | zero=>cases hE
  | succ n35 =>
    rw [Z129_l35] at hE;refine seqR (S BI (nil ?_));refine seqK fun K39 hK39=>?_;refine cE hE (fun hc40 hE=>?_) (fun hc40 hE=>?_)
    ·refine sk hK39 ?_;clear hK39 K39;refine seqJH (TA 0 (TA 4 (TA 10 (TA 88 (TA 89 KeepsT.nil))))) (fun(z:Z10)=>[]) (fun z=>((H.set c0_2 (some (.tok 4 z.Fout.l.length))).set c0 (some (.cells (Z10.cg (some c0_2) z))))) (fun z=>Z129_j41 s89_36 ((Z129_l35 a1 x24 (Z129_n n) n35)) z=some r) ?_ ?_
     ·intro K41 hK41;refine block ?_;refine seqR (S Mv (S As (nil ?_)));refine AWp.seqD (Sd Fv (Sd Ld (Sd Fv (Sd Ld (Sd Mv ?_)))));obtain⟨x46,gx46,hE⟩:=bO hE;refine DOps.s0 (idxM (f:=strE) (TK rfl) rfl (TK rfl) rfl rfl rfl gx46) rfl ?_;refine Sd Ld ?_;obtain⟨x47,gx47,hE⟩:=bO hE;refine Scd rfl rfl (Z79_walk gx47) ?_;refine Sd Mv (Sd EX (Sd EX ?_));refine DOps.sB (TK rfl) rfl rfl ?_ (by repeat (first|exact Snoc.nil|apply Snoc.cons))
      refine DOps.sLn (storeLFA (TK rfl) rfl rfl rfl rfl rfl) ?_;refine Sd As ?_;refine DOps.nil (by decide +kernel) ?_;refine freezeA 13 _ rfl (KA 0 (KA 4 (KA 10 (KA 12 (KA 14 (KA 88 (KA 89 Keeps.nil))))))) ?_;refine seqR (S Mv (nil ?_));refine cE hE (fun hc49 hE=>?_) (fun hc49 hE=>?_)
      ·refine AWp.draw rfl ?_;refine Sd Mv (Sd Fv ?_);refine DOps.s0 (loadV (TK rfl) rfl rfl (congrArg (fun x=>some (A.d x)) (Z9.FItemsD_eq _))) rfl ?_;refine Sd Mv ?_;obtain⟨x50,gx50,hE⟩:=bO hE;refine DOps.s0 (idxM (f:=Z9.c) (TK rfl) rfl (TK rfl) rfl rfl rfl gx50) rfl ?_;refine Sd Ld (Sd Fv (Sd Ld ?_));obtain⟨x51,gx51,hE⟩:=bO hE;refine DOps.sH (callH rfl rfl (ih_36 gx51 _ hpG hpG)) rfl ?_;refine DOps.Dh ((H.set c0_2 (some (.tok 4 x51.Fout.l.length))).set c0 (some (.cells (Z10.cg (some c0_2) x51)))) ?_
       refine DOps.nil (by decide +kernel) ?_;exact hK41 _ x51 Weak.toA hE
      refine AWp.skip ?_;exact hK41 _ y37_c0 Weak.toA hE
     rintro y42_c0 hE;try dsimp only at hE
     unfold Z129_j41 at hE;refine region ?_;obtain⟨x43,gx43,hE⟩:=bO hE;refine s0 (addM rfl rfl gx43) rfl ?_;refine S Mv (nil ?_);exact hK35 _ (n35,x43,y42_c0) Weak.toA hE (Nat.lt_succ_self _)
    refine AWp.exit ?_;repeat (first|refine xBlock_normal ?_|refine xThen_exit ?_|refine xBlock_exit ?_)
    obtain rfl:=Option.some.inj hE;refine retQ.normalF ((H.set c0_2 (some (.tok 4 y37_c0.Fout.l.length))).set c0 (some (.cells (Z10.cg (some c0_2) y37_c0)))) (xs:=[]) rfl ⟨rfl,rfl⟩ ?_;exact(fun _ _ h=>h)
 refine AWp.skip ?_;repeat (first|refine xBlock_normal ?_|refine xThen_exit ?_|refine xBlock_exit ?_)
 obtain rfl:=Option.some.inj hE;refine retQ.normalF ((H.set c0_2 (some (.tok 4 a0.Fout.l.length))).set c0 (some (.cells (Z10.cg (some c0_2) a0)))) (xs:=[]) rfl ⟨rfl,rfl⟩ ?_;exact(fun _ _ h=>h)
theorem Z129_all:∀(n:Nat),(∀{a0:Z10}{a1:Z9}{a2:TRef}{c0 c0_2:Nat}{r:Z10},Z129_n n a0 a1 a2=some r->∀(H:Heap) (hc0:H c0=some (.cells (Z10.cg (some c0_2) a0))) (ht0_2:H c0_2=some (.tok 4 a0.Fout.l.length)),ACalls Tryz.prog 36 [.d (.ptr c0 0),.agg (Z9.c a1),.agg (TRef.c a2)] H fun v h'=>v=.tup []/\h'=((H.set c0_2 (some (.tok 4 r.Fout.l.length))).set c0 (some (.cells (Z10.cg (some c0_2) r)))))
 | 0=>fun hE=>by first|cases hE|(rw [Z129_n] at hE; cases hE)
 | n+1=>Z129_step n (Z129_all n)
def Z129 (a0:Z10) (a1:Z9) (a2:TRef):Option Z10:=Z129_n F0 a0 a1 a2
theorem Z129_walk {a0:Z10}{a1:Z9}{a2:TRef}{c0 c0_2:Nat}{r:Z10}(hE:Z129 a0 a1 a2=some r) (H:Heap) (hc0:H c0=some (.cells (Z10.cg (some c0_2) a0))) (ht0_2:H c0_2=some (.tok 4 a0.Fout.l.length)):ACalls Tryz.prog 36 [.d (.ptr c0 0),.agg (Z9.c a1),.agg (TRef.c a2)] H fun v h'=>v=.tup []/\h'=((H.set c0_2 (some (.tok 4 r.Fout.l.length))).set c0 (some (.cells (Z10.cg (some c0_2) r)))):=(Z129_all F0) hE H hc0 ht0_2
def Z126_j14 (x3:(TRef×Bool))  (y15_c0:Z10):Option (Bs×Z10):=some (x3.1.FName,y15_c0)
def Z126_j25 (s54_20:Nat) (k_next_19:Nat->Z10->Option (Bs×Z10)) (y26_c0:Z10):Option (Bs×Z10):=k_next_19 (s54_20+1) y26_c0
def Z126_l19 (a1:TSel) (a2:Bs) (x3:(TRef×Bool)) (x13:(Z4×Bool)) :Nat->Nat->Z10->Option (Bs×Z10)
 | 0,_,_=>none
 | n19+1,s54_20,y21_c0=>bif (decide (((s54_20:Nat):Int)<((a1.FArgs.l.length:Nat):Int))) then((a1.FArgs.l[s54_20]?).bind fun x28=>(Z79 x13.1.FArgs x28.FName).bind fun x30=>bif x30.2 then((Z128 y21_c0 a2 a1.FName x28.FName).bind fun x34=>(Z129 x34 x28.FValue x30.1.FType).bind fun x35=>Z126_j25 s54_20 ((Z126_l19 a1 a2 x3 x13 n19)) x35) else(Z126_j25 s54_20 ((Z126_l19 a1 a2 x3 x13 n19)) y21_c0)) else(Z126_j14 x3  y21_c0)
def Z126 (a0:Z10) (a1:TSel) (a2:Bs):Option (Bs×Z10):=(Z19 a0.Fd a2 a1.FName).bind fun x3=>bif (!x3.2) then(some (([]:Bs),a0)) else((Z128 a0 a2 a1.FName ([]:Bs)).bind fun x9=>(Z78 x9.Fd a2).bind fun x11=>(Z77 x11.1 a1.FName).bind fun x13=>Z126_l19 a1 a2 x3 x13 (a1.FArgs.l.length+1) 0 x9)
theorem Z126_walk {a0:Z10}{a1:TSel}{a2:Bs}{c0 c0_2:Nat}{r:Bs×Z10}(hE:Z126 a0 a1 a2=some r) (H:Heap) (hc0:H c0=some (.cells (Z10.cg (some c0_2) a0))) (ht0_2:H c0_2=some (.tok 4 a0.Fout.l.length)):ACalls Tryz.prog 63 [.d (.ptr c0 0),.agg (TSel.c a1),.d (.str a2)] H fun v h'=>v=.a (.d (.str r.1))/\h'=((H.set c0_2 (some (.tok 4 r.2.Fout.l.length))).set c0 (some (.cells (Z10.cg (some c0_2) r.2)))):=by
 unfold Z126 at hE;refine ACalls.oW 83 [.tmp 6] Tryz.call63 Tryz.func63 ?_;have ne_c0_c0_2:c0≠c0_2:=fun e_=>by subst e_; simp_all
 refine AWp.heqA (h':=((H.set c0_2 (some (.tok 4 a0.Fout.l.length))).set c0 (some (.cells (Z10.cg (some c0_2) a0))))) (by funext n_; simp only [Heap.set]; (repeat' split)<;>simp_all) ?_;refine seqR (S BX (S As (nil ?_)));refine AWp.seqD (Sd Mv (Sd NP ?_));refine DOps.s0 (fieldP (TK rfl) rfl rfl (TK rfl) rfl rfl) rfl ?_;refine DOps.s0 (loadP (TK rfl) rfl rfl hpG rfl) rfl ?_;refine Sd Mv (Sd Fv (Sd Ld ?_))
 obtain⟨x3,gx3,hE⟩:=bO hE;refine Scd rfl rfl (Z19_walk gx3) ?_;refine Sd Mv (Sd EX (Sd EX ?_));refine DOps.sB (TK rfl) rfl rfl ?_ (by repeat (first|exact Snoc.nil|apply Snoc.cons));refine DOps.sLn (storeLFA (TK rfl) rfl rfl rfl rfl rfl) ?_;refine Sd As ?_;refine DOps.nil (by decide +kernel) ?_;refine freezeA 7 _ rfl (KA 0 (KA 2 (KA 4 (KA 8 Keeps.nil)))) ?_;refine seqK fun K4 hK4=>?_;refine seqR (S Mv (S NB (nil ?_)))
 refine cE hE (fun hc6 hE=>?_) (fun hc6 hE=>?_)
 ·refine seqR (S As (nil ?_));exact rt hE
 refine sk hK4 ?_;clear hK4 K4;refine seqR (S Mv (S Mv (S Fv (S Ld ?_))));obtain⟨x9,gx9,hE⟩:=bO hE;refine sH (callH rfl rfl (Z128_walk gx9 _ hpG hpG)) rfl ?_;refine hq ((H.set c0_2 (some (.tok 4 x9.Fout.l.length))).set c0 (some (.cells (Z10.cg (some c0_2) x9)))) ?_;refine nil ?_;refine seqR (S Mv (S NP ?_));refine s0 (fieldP (TK rfl) rfl rfl (TK rfl) rfl rfl) rfl ?_;refine s0 (loadP (TK rfl) rfl rfl hpG rfl) rfl ?_
 refine S Mv ?_;obtain⟨x11,gx11,hE⟩:=bO hE;refine Sc rfl rfl (Z78_walk gx11) ?_;refine S Mv (S EX (S EX ?_));refine Sl ?_;refine Sf ?_;refine S As (nil ?_);refine freezeA 9 _ rfl (KA 0 (KA 2 (KA 4 (KA 7 Keeps.nil)))) ?_;refine seqR (S Ld (S Fv (S Ld ?_)));obtain⟨x13,gx13,hE⟩:=bO hE;refine Sc rfl rfl (Z77_walk gx13) ?_;refine S Mv (S EX (S EX ?_));refine Sl ?_;refine Sf ?_;refine S As (nil ?_);refine freezeA 11 _ rfl (KA 0 (KA 2 (KA 4 (KA 7 Keeps.nil)))) ?_
 refine seqJH (TA 7 KeepsT.nil) (fun(z:Z10)=>[]) (fun z=>((H.set c0_2 (some (.tok 4 z.Fout.l.length))).set c0 (some (.cells (Z10.cg (some c0_2) z))))) (fun z=>Z126_j14 x3 z=some r) ?_ ?_
 ·intro K14 hK14;refine seqR (S Fv (S Ld ?_));refine sLen (f:=TArg.c) (s:=a1.FArgs) (TK rfl) rfl rfl rfl rfl fun hL18=>?_;refine S Mv (nil ?_);refine block ?_;refine loopH (TA 0 (TA 2 (TA 4 (TA 7 (TA 11 (TA 52 (TA 53 KeepsT.nil))))))) (fun(z:Nat×Nat×Z10)=>[(54,.a (.d (.int .i64 ((z.2.1:Nat):Int))))]) (fun z=>((H.set c0_2 (some (.tok 4 z.2.2.Fout.l.length))).set c0 (some (.cells (Z10.cg (some c0_2) z.2.2))))) (fun z=>z.1) (fun z=>Z126_l19 a1 a2 x3 x13 z.1 z.2.1 z.2.2=some r) ((a1.FArgs.l.length+1),0,x9) hE Weak.toA ?_
  rintro ⟨n19,s54_20,y21_c0⟩ hE K19 hK19;try dsimp only at hE
  cases n19 with
  | zero=>cases hE
  | succ n19 =>
    rw [Z126_l19] at hE;refine seqR (S BI (nil ?_));refine seqK fun K23 hK23=>?_;refine cE hE (fun hc24 hE=>?_) (fun hc24 hE=>?_)
    ·try dsimp only at hc24
     have hf24:=of_decide_eq_true hc24;refine sk hK23 ?_;clear hK23 K23;refine seqJH (TA 0 (TA 2 (TA 4 (TA 7 (TA 11 (TA 52 (TA 53 (TA 54 KeepsT.nil)))))))) (fun(z:Z10)=>[]) (fun z=>((H.set c0_2 (some (.tok 4 z.Fout.l.length))).set c0 (some (.cells (Z10.cg (some c0_2) z))))) (fun z=>Z126_j25 s54_20 ((Z126_l19 a1 a2 x3 x13 n19)) z=some r) ?_ ?_
     ·intro K25 hK25;refine block ?_;refine seqR ?_;obtain⟨x28,gx28,hE⟩:=bO hE;refine S (ix TArg.c s54_20 gx28) (S Ld ?_);refine Sl ?_;refine Sf ?_;refine nil ?_;refine freezeA 14 _ rfl (KA 0 (KA 2 (KA 4 (KA 7 (KA 11 (KA 52 (KA 53 (KA 54 Keeps.nil)))))))) ?_;refine seqR (S Fv (S Ld (S Fv (S Ld ?_))));obtain⟨x30,gx30,hE⟩:=bO hE;refine Sc rfl rfl (Z79_walk gx30) ?_;refine S Mv (S EX (S EX ?_));refine Sl ?_
      refine Sf ?_;refine S As (nil ?_);refine freezeA 15 _ rfl (KA 0 (KA 2 (KA 4 (KA 7 (KA 11 (KA 14 (KA 16 (KA 52 (KA 53 (KA 54 Keeps.nil)))))))))) ?_;refine seqR (S Mv (nil ?_));refine cE hE (fun hc32 hE=>?_) (fun hc32 hE=>?_)
      ·refine seqR (S Mv (S Mv (S Fv (S Ld (S Fv (S Ld ?_))))));obtain⟨x34,gx34,hE⟩:=bO hE;refine sH (callH rfl rfl (Z128_walk gx34 _ hpG hpG)) rfl ?_;refine hq ((H.set c0_2 (some (.tok 4 x34.Fout.l.length))).set c0 (some (.cells (Z10.cg (some c0_2) x34)))) ?_;refine nil ?_;refine region ?_;refine S Mv (S Fv (S Ld (S Fv (S Ld ?_))));obtain⟨x35,gx35,hE⟩:=bO hE;refine sH (callH rfl rfl (Z129_walk gx35 _ hpG hpG)) rfl ?_
       refine hq ((H.set c0_2 (some (.tok 4 x35.Fout.l.length))).set c0 (some (.cells (Z10.cg (some c0_2) x35)))) ?_;refine nil ?_;exact hK25 _ x35 Weak.toA hE
      refine AWp.skip ?_;exact hK25 _ y21_c0 Weak.toA hE
     rintro y26_c0 hE;try dsimp only at hE
     unfold Z126_j25 at hE;refine region ?_;refine SI ?_;refine S Mv (nil ?_);exact hK19 _ (n19,(s54_20+1),y26_c0) Weak.toA hE (Nat.lt_succ_self _)
    refine AWp.exit ?_;exact hK14 _ y21_c0 Weak.toA hE
 rintro y15_c0 hE;try dsimp only at hE
 unfold Z126_j14 at hE;refine seqR (S Fv (S Ld (S As (nil ?_))));exact rt hE
end Go.Proofs

namespace Go.Proofs
open Go Go.Ab
open AOps Cert AWp Keeps KeepsT
variable {lou:Lou}
def Z127_j9 (s11_4:Nat) (k_next_3:Nat->Z10->Option Z10) (y10_c0:Z10):Option Z10:=k_next_3 (s11_4+1) y10_c0
def Z127_j19 (s11_4:Nat) (x12:TSel) (k_next_3:Nat->Z10->Option Z10) (k_rec_34:Z10->(Sl TSel)->Bs->Option Z10) (s8_20:Bs) (y21_c0:Z10):Option Z10:=(k_rec_34 y21_c0 x12.FSels s8_20).bind fun x22=>Z127_j9 s11_4 k_next_3 x22
def Z127_l3 (a1:(Sl TSel)) (a2:Bs) (k_rec_34:Z10->(Sl TSel)->Bs->Option Z10):Nat->Nat->Z10->Option Z10
 | 0,_,_=>none
 | n3+1,s11_4,y5_c0=>bif (decide (((s11_4:Nat):Int)<((a1.l.length:Nat):Int))) then((a1.l[s11_4]?).bind fun x12=>bif (decide (x12.FKind=(2:Int))) then(Z127_j9 s11_4 ((Z127_l3 a1 a2 k_rec_34 n3)) y5_c0) else(bif (decide (x12.FKind=(3:Int))) then(bif (!(x12.FOn==([]:Bs))) then((Z125 y5_c0 x12.FOn).bind fun x26=>Z127_j19 s11_4 x12 ((Z127_l3 a1 a2 k_rec_34 n3)) k_rec_34 x12.FOn x26) else(Z127_j19 s11_4 x12 ((Z127_l3 a1 a2 k_rec_34 n3)) k_rec_34 a2 y5_c0)) else((Z126 y5_c0 x12 a2).bind fun x27=>(k_rec_34 x27.2 x12.FSels x27.1).bind fun x28=>Z127_j9 s11_4 ((Z127_l3 a1 a2 k_rec_34 n3)) x28))) else(some y5_c0)
def Z127_n:Nat->Z10->(Sl TSel)->Bs->Option Z10
 | 0,_,_,_=>none
 | n+1,a0,a1,a2=>Z127_l3 a1 a2 (Z127_n n) (a1.l.length+1) 0 a0
theorem Z127_step (n:Nat) (ih_34:∀{a0:Z10}{a1:Sl TSel}{a2:Bs}{w1:Option Nat}{c0 c0_2:Nat}{r:Z10},Z127_n n a0 a1 a2=some r->∀(H:Heap) (hc0:H c0=some (.cells (Z10.cg (some c0_2) a0))) (ht0_2:H c0_2=some (.tok 4 a0.Fout.l.length)),ACalls Tryz.prog 34 [.d (.ptr c0 0),.d (Sl.d 7 TSel.c w1 a1),.d (.str a2)] H fun v h'=>v=.tup []/\h'=((H.set c0_2 (some (.tok 4 r.Fout.l.length))).set c0 (some (.cells (Z10.cg (some c0_2) r))))):∀{a0:Z10}{a1:Sl TSel}{a2:Bs}{w1:Option Nat}{c0 c0_2:Nat}{r:Z10},Z127_n (n+1) a0 a1 a2=some r->∀(H:Heap) (hc0:H c0=some (.cells (Z10.cg (some c0_2) a0))) (ht0_2:H c0_2=some (.tok 4 a0.Fout.l.length)),ACalls Tryz.prog 34 [.d (.ptr c0 0),.d (Sl.d 7 TSel.c w1 a1),.d (.str a2)] H fun v h'=>v=.tup []/\h'=((H.set c0_2 (some (.tok 4 r.Fout.l.length))).set c0 (some (.cells (Z10.cg (some c0_2) r)))):=by
 intro a0 a1 a2 w1 c0 c0_2 r hE H hc0 ht0_2;rw [Z127_n] at hE;refine ACalls.oW 45 [] Tryz.call34 Tryz.func34 ?_;have ne_c0_c0_2:c0≠c0_2:=fun e_=>by subst e_; simp_all
 refine AWp.heqA (h':=((H.set c0_2 (some (.tok 4 a0.Fout.l.length))).set c0 (some (.cells (Z10.cg (some c0_2) a0))))) (by funext n_; simp only [Heap.set]; (repeat' split)<;>simp_all) ?_;refine seqR (S Mv ?_);refine sLen (f:=TSel.c) (s:=a1) (TK rfl) rfl rfl rfl rfl fun hL2=>?_;refine S Mv (nil ?_);refine block ?_;refine loopH (TA 0 (TA 2 (TA 9 (TA 10 KeepsT.nil)))) (fun(z:Nat×Nat×Z10)=>[(11,.a (.d (.int .i64 ((z.2.1:Nat):Int))))]) (fun z=>((H.set c0_2 (some (.tok 4 z.2.2.Fout.l.length))).set c0 (some (.cells (Z10.cg (some c0_2) z.2.2))))) (fun z=>z.1) (fun z=>Z127_l3 a1 a2 (Z127_n n) z.1 z.2.1 z.2.2=some r) ((a1.l.length+1),0,a0) hE Weak.toA ?_
 rintro ⟨n3,s11_4,y5_c0⟩ hE K3 hK3;try dsimp only at hE
 cases n3 with
 | zero=>cases hE
 | succ n3 =>
   rw [Z127_l3] at hE;refine seqR (S BI (nil ?_));refine seqK fun K7 hK7=>?_;refine cE hE (fun hc8 hE=>?_) (fun hc8 hE=>?_)
   ·try dsimp only at hc8
    have hf8:=of_decide_eq_true hc8;refine sk hK7 ?_;clear hK7 K7;refine seqJH (TA 0 (TA 2 (TA 9 (TA 10 (TA 11 KeepsT.nil))))) (fun(z:Z10)=>[]) (fun z=>((H.set c0_2 (some (.tok 4 z.Fout.l.length))).set c0 (some (.cells (Z10.cg (some c0_2) z))))) (fun z=>Z127_j9 s11_4 ((Z127_l3 a1 a2 (Z127_n n) n3)) z=some r) ?_ ?_
    ·intro K9 hK9;refine block ?_;refine seqR ?_;obtain⟨x12,gx12,hE⟩:=bO hE;refine S (ix TSel.c s11_4 gx12) (S Ld ?_);refine Sl ?_;refine Sf ?_;refine nil ?_;refine freezeA 7 _ rfl (KA 0 (KA 2 (KA 9 (KA 10 (KA 11 Keeps.nil))))) ?_;refine seqR (S Fv (S Ld (nil ?_)));refine block ?_;refine seqR (S BI (S As (nil ?_)));refine cE hE (fun hc15 hE=>?_) (fun hc15 hE=>?_)
     ·refine AWp.skip ?_;exact hK9 _ y5_c0 Weak.toA hE
     refine seqR (S BI (S As (nil ?_)));refine cE hE (fun hc17 hE=>?_) (fun hc17 hE=>?_)
     ·refine seqR (S Mv (S As (nil ?_)));refine seqJH (TA 0 (TA 2 (TA 7 (TA 9 (TA 10 (TA 11 KeepsT.nil)))))) (fun(z:Bs×Z10)=>[(8,.a (.d (.str z.1)))]) (fun z=>((H.set c0_2 (some (.tok 4 z.2.Fout.l.length))).set c0 (some (.cells (Z10.cg (some c0_2) z.2))))) (fun z=>Z127_j19 s11_4 x12 ((Z127_l3 a1 a2 (Z127_n n) n3)) (Z127_n n) z.1 z.2=some r) ?_ ?_
      ·intro K19 hK19;refine seqR (S Fv (S Ld (S BS (nil ?_))));refine cE hE (fun hc24 hE=>?_) (fun hc24 hE=>?_)
       ·refine seqR (S Fv (S Ld (S As (nil ?_))));refine region ?_;refine S Mv (S Fv (S Ld ?_));obtain⟨x26,gx26,hE⟩:=bO hE;refine sH (callH rfl rfl (Z125_walk gx26 _ hpG hpG)) rfl ?_;refine hq ((H.set c0_2 (some (.tok 4 x26.Fout.l.length))).set c0 (some (.cells (Z10.cg (some c0_2) x26)))) ?_;refine nil ?_;exact hK19 _ (x12.FOn,x26) Weak.toA hE
       refine AWp.skip ?_;exact hK19 _ (a2,y5_c0) Weak.toA hE
      rintro ⟨s8_20,y21_c0⟩ hE;try dsimp only at hE
      unfold Z127_j19 at hE;refine region ?_;refine S Mv (S Fv ?_);refine s0 (loadV (TK rfl) rfl rfl (congrArg (fun x=>some (A.d x)) (TSel.FSelsD_eq _))) rfl ?_;refine S Mv ?_;obtain⟨x22,gx22,hE⟩:=bO hE;refine sH (callH rfl rfl (ih_34 gx22 _ hpG hpG)) rfl ?_;refine hq ((H.set c0_2 (some (.tok 4 x22.Fout.l.length))).set c0 (some (.cells (Z10.cg (some c0_2) x22)))) ?_;refine nil ?_;exact hK9 _ x22 Weak.toA hE
     refine AWp.draw rfl ?_;refine Sd Mv (Sd Fv ?_);refine DOps.s0 (loadV (TK rfl) rfl rfl (congrArg (fun x=>some (A.d x)) (TSel.FSelsD_eq _))) rfl ?_;refine Sd Mv (Sd Ld (Sd Mv ?_));obtain⟨x27,gx27,hE⟩:=bO hE;refine DOps.sH (callH rfl rfl (Z126_walk gx27 _ hpG hpG)) rfl ?_;refine DOps.Dh ((H.set c0_2 (some (.tok 4 x27.2.Fout.l.length))).set c0 (some (.cells (Z10.cg (some c0_2) x27.2)))) ?_;obtain⟨x28,gx28,hE⟩:=bO hE
     refine DOps.sH (callH rfl rfl (ih_34 gx28 _ hpG hpG)) rfl ?_;refine DOps.Dh ((H.set c0_2 (some (.tok 4 x28.Fout.l.length))).set c0 (some (.cells (Z10.cg (some c0_2) x28)))) ?_;refine DOps.nil (by decide +kernel) ?_;exact hK9 _ x28 Weak.toA hE
    rintro y10_c0 hE;try dsimp only at hE
    unfold Z127_j9 at hE;refine region ?_;refine SI ?_;refine S Mv (nil ?_);exact hK3 _ (n3,(s11_4+1),y10_c0) Weak.toA hE (Nat.lt_succ_self _)
   refine AWp.exit ?_;repeat (first|refine xBlock_normal ?_|refine xThen_exit ?_|refine xBlock_exit ?_)
   obtain rfl:=Option.some.inj hE;refine retQ.normalF ((H.set c0_2 (some (.tok 4 y5_c0.Fout.l.length))).set c0 (some (.cells (Z10.cg (some c0_2) y5_c0)))) (xs:=[]) rfl ⟨rfl,rfl⟩ ?_;exact(fun _ _ h=>h)
theorem Z127_all:∀(n:Nat),(∀{a0:Z10}{a1:Sl TSel}{a2:Bs}{w1:Option Nat}{c0 c0_2:Nat}{r:Z10},Z127_n n a0 a1 a2=some r->∀(H:Heap) (hc0:H c0=some (.cells (Z10.cg (some c0_2) a0))) (ht0_2:H c0_2=some (.tok 4 a0.Fout.l.length)),ACalls Tryz.prog 34 [.d (.ptr c0 0),.d (Sl.d 7 TSel.c w1 a1),.d (.str a2)] H fun v h'=>v=.tup []/\h'=((H.set c0_2 (some (.tok 4 r.Fout.l.length))).set c0 (some (.cells (Z10.cg (some c0_2) r)))))
 | 0=>fun hE=>by first|cases hE|(rw [Z127_n] at hE; cases hE)
 | n+1=>Z127_step n (Z127_all n)
def Z127 (a0:Z10) (a1:(Sl TSel)) (a2:Bs):Option Z10:=Z127_n F0 a0 a1 a2
theorem Z127_walk {a0:Z10}{a1:Sl TSel}{a2:Bs}{w1:Option Nat}{c0 c0_2:Nat}{r:Z10}(hE:Z127 a0 a1 a2=some r) (H:Heap) (hc0:H c0=some (.cells (Z10.cg (some c0_2) a0))) (ht0_2:H c0_2=some (.tok 4 a0.Fout.l.length)):ACalls Tryz.prog 34 [.d (.ptr c0 0),.d (Sl.d 7 TSel.c w1 a1),.d (.str a2)] H fun v h'=>v=.tup []/\h'=((H.set c0_2 (some (.tok 4 r.Fout.l.length))).set c0 (some (.cells (Z10.cg (some c0_2) r)))):=(Z127_all F0) hE H hc0 ht0_2
def Z122_j18  (y19_id34_9:Z10):Option (Sl TUse):=(Z123 y19_id34_9.Fout).bind fun x21=>some x21
def Z122_j30 (s75_25:Nat) (k_next_24:Nat->Z10->Option (Sl TUse)) (y31_id34_9:Z10):Option (Sl TUse):=k_next_24 (s75_25+1) y31_id34_9
def Z122_l24 (x7:TOp) :Nat->Nat->Z10->Option (Sl TUse)
 | 0,_,_=>none
 | n24+1,s75_25,y26_id34_9=>bif (decide (((s75_25:Nat):Int)<((x7.FVars.l.length:Nat):Int))) then((x7.FVars.l[s75_25]?).bind fun x33=>bif x33.FHas then((Z129 y26_id34_9 x33.FDefault x33.FType).bind fun x36=>Z122_j30 s75_25 ((Z122_l24 x7 n24)) x36) else(Z122_j30 s75_25 ((Z122_l24 x7 n24)) y26_id34_9)) else(Z122_j18   y26_id34_9)
def Z122_j16 (x7:TOp)  (y17_id34_9:Z10):Option (Sl TUse):=Z122_l24 x7 (x7.FVars.l.length+1) 0 y17_id34_9
def Z122_l39 (a1:Z8) (x7:TOp) (x15:((Sl Bs)×Bool)) :Nat->Nat->Z10->Option (Sl TUse)
 | 0,_,_=>none
 | n39+1,s51_40,y41_id34_9=>bif (decide (((s51_40:Nat):Int)<((x15.1.l.length:Nat):Int))) then((x15.1.l[s51_40]?).bind fun x47=>(Z33 a1 x47).bind fun x49=>(Z125 y41_id34_9 x49.1.FOn).bind fun x51=>(Z127 x51 x49.1.FSels x49.1.FOn).bind fun x52=>(Z122_l39 a1 x7 x15 n39) (s51_40+1) x52) else(Z122_j16 x7  y41_id34_9)
def Z122 (a0:TDoc) (a1:Z8) (a2:Int):Option (Sl TUse):=bif ((decide (a2<(0:Int)))||(decide (((a1.FOps.l.length:Nat):Int)<=a2))) then(some (Sl.nil:Sl TUse)) else((idxC a1.FOps.l a2).bind fun x7=>(Z82 x7.FKind).bind fun x12=>(Z127 (Z10.mk a0 a1 (Sl.nil:Sl TUse)) x7.FSels x12).bind fun x13=>(Z34 a1 x7.FSels).bind fun x15=>Z122_l39 a1 x7 x15 (x15.1.l.length+1) 0 x13)
theorem Z122_walk {a0:TDoc}{a1:Z8}{a2:Int}{r:Sl TUse}(hE:Z122 a0 a1 a2=some r) (H:Heap) :ACalls Tryz.prog 9 [.agg (TDoc.c a0),.agg (Z8.c a1),.d (.int .i64 a2)] H fun v h'=>v=.a (.d (Sl.d 4 TUse.c none r))/\h'=H:=by
 unfold Z122 at hE;refine ACalls.oW 93 [.tmp 6] Tryz.call9 Tryz.func9 ?_;refine seqR (S BX (S BX ?_));refine s0 (assignNil (k':=4) rfl) rfl ?_;refine nil ?_;refine seqK fun K2 hK2=>?_;refine seqR (S Mv (S BI (S Mv (G0 Mv (G0 Fv ?_)))));refine G1 21 rfl Ld ?_;refine gC rfl rfl (fun hC=>ungdA (k:=22) rfl (lenM' (f:=TOp.c) (s:=a1.FOps) (TK rfl) rfl rfl rfl)) rfl ?_;refine G2 20 23 rfl rfl BI ?_;refine S PO (nil ?_)
 refine cE hE (fun hc4 hE=>?_) (fun hc4 hE=>?_)
 ·refine seqR ?_;refine s0 (assignNil (k':=4) rfl) rfl ?_;refine nil ?_;exact rt hE
 refine sk hK2 ?_;clear hK2 K2;refine seqR (S Fv (S Ld (S Mv ?_)));obtain⟨x7,gx7,hE⟩:=bO hE;refine s0 (idxM (f:=TOp.c) (TK rfl) rfl (TK rfl) rfl rfl rfl gx7) rfl ?_;refine S Ld ?_;refine Sl ?_;refine Sf ?_;refine nil ?_;refine freezeA 7 _ rfl (KA 3 (KA 4 Keeps.nil)) ?_;refine seqR (S Ld (S Ld (S BU ?_)));refine AOps.tok 4 fun tk34_10 htk34_10=>?_;refine sE (StepE.boxO rfl) rfl (fun _ _ _ ⟨id34_9,hid34_9,e1,e2,e3⟩=>?_); subst e1 e2 e3
 obtain⟨ne_id34_9_tk34_10,hid34_9⟩:=Heap.set_fresh hid34_9;refine AOps.recell id34_9 _ hpG (fun j w cs hh hx=>tok_cell 3 4 4 hh (t:=tk34_10) hpG hx rfl) ?_;refine hq ((H.set tk34_10 (some (.tok 4 0))).set id34_9 (some (.cells (Z10.cg (some tk34_10) (Z10.mk a0 a1 (Sl.nil:Sl TUse)))))) ?_;refine S As (nil ?_);refine AWp.seqD (Sd Mv (Sd Fv (Sd Ld (Sd Fv (Sd Ld ?_)))));obtain⟨x12,gx12,hE⟩:=bO hE;refine Scd rfl rfl (Z82_walk gx12) ?_
 obtain⟨x13,gx13,hE⟩:=bO hE;refine DOps.sH (callH rfl rfl (Z127_walk gx13 _ hpG hpG)) rfl ?_;refine DOps.Dh ((H.set tk34_10 (some (.tok 4 x13.Fout.l.length))).set id34_9 (some (.cells (Z10.cg (some tk34_10) x13)))) ?_;refine DOps.nil (by decide +kernel) ?_;refine seqR (S Ld (S Fv (S Ld ?_)));obtain⟨x15,gx15,hE⟩:=bO hE;refine Sc rfl rfl (Z34_walk gx15) ?_;refine S Mv (S EX (S EX (S As (S As (nil ?_)))))
 refine seqJH (TA 7 (TA 8 KeepsT.nil)) (fun(z:Z10)=>[]) (fun z=>((H.set tk34_10 (some (.tok 4 z.Fout.l.length))).set id34_9 (some (.cells (Z10.cg (some tk34_10) z))))) (fun z=>Z122_j16 x7 z=some r) ?_ ?_
 ·intro K16 hK16;refine seqR (S Mv ?_);refine sLen (f:=strE) (s:=x15.1) (TK rfl) rfl rfl rfl rfl fun hL38=>?_;refine S Mv (nil ?_);refine block ?_;refine loopH (TA 4 (TA 7 (TA 8 (TA 49 (TA 50 KeepsT.nil))))) (fun(z:Nat×Nat×Z10)=>[(51,.a (.d (.int .i64 ((z.2.1:Nat):Int))))]) (fun z=>((H.set tk34_10 (some (.tok 4 z.2.2.Fout.l.length))).set id34_9 (some (.cells (Z10.cg (some tk34_10) z.2.2))))) (fun z=>z.1) (fun z=>Z122_l39 a1 x7 x15 z.1 z.2.1 z.2.2=some r) ((x15.1.l.length+1),0,x13) hE Weak.toA ?_
  rintro ⟨n39,s51_40,y41_id34_9⟩ hE K39 hK39;try dsimp only at hE
  cases n39 with
  | zero=>cases hE
  | succ n39 =>
    rw [Z122_l39] at hE;refine seqR (S BI (nil ?_));refine seqK fun K43 hK43=>?_;refine cE hE (fun hc44 hE=>?_) (fun hc44 hE=>?_)
    ·try dsimp only at hc44
     have hf44:=of_decide_eq_true hc44;refine sk hK43 ?_;clear hK43 K43;refine seqK fun K45 hK45=>?_;refine block ?_;refine seqR ?_;obtain⟨x47,gx47,hE⟩:=bO hE;refine S (ix strE s51_40 gx47) (S Ld (S As (nil ?_)));refine seqR (S Ld (S Mv ?_));obtain⟨x49,gx49,hE⟩:=bO hE;refine Sc rfl rfl (Z33_walk gx49) ?_;refine S Mv (S EX (S EX ?_));refine Sl ?_;refine Sf ?_;refine S As (nil ?_);refine freezeA 13 _ rfl (KA 4 (KA 7 (KA 8 (KA 49 (KA 50 (KA 51 Keeps.nil)))))) ?_
     refine seqR (S Mv (S Fv (S Ld ?_)));obtain⟨x51,gx51,hE⟩:=bO hE;refine sH (callH rfl rfl (Z125_walk gx51 _ hpG hpG)) rfl ?_;refine hq ((H.set tk34_10 (some (.tok 4 x51.Fout.l.length))).set id34_9 (some (.cells (Z10.cg (some tk34_10) x51)))) ?_;refine nil ?_;refine region ?_;refine S Mv (S Fv (S Ld (S Fv (S Ld ?_))));obtain⟨x52,gx52,hE⟩:=bO hE;refine sH (callH rfl rfl (Z127_walk gx52 _ hpG hpG)) rfl ?_
     refine hq ((H.set tk34_10 (some (.tok 4 x52.Fout.l.length))).set id34_9 (some (.cells (Z10.cg (some tk34_10) x52)))) ?_;refine nil ?_;refine hK45 _ ?_;clear hK45 K45;refine region ?_;refine SI ?_;refine S Mv (nil ?_);exact hK39 _ (n39,(s51_40+1),x52) Weak.toA hE (Nat.lt_succ_self _)
    refine AWp.exit ?_;exact hK16 _ y41_id34_9 Weak.toA hE
 rintro y17_id34_9 hE;try dsimp only at hE
 unfold Z122_j16 at hE;refine seqJH (TA 8 KeepsT.nil) (fun(z:Z10)=>[]) (fun z=>((H.set tk34_10 (some (.tok 4 z.Fout.l.length))).set id34_9 (some (.cells (Z10.cg (some tk34_10) z))))) (fun z=>Z122_j18 z=some r) ?_ ?_
 ·intro K18 hK18;refine seqR (S Fv (S Ld ?_));refine sLen (f:=TVar.c) (s:=x7.FVars) (TK rfl) rfl rfl rfl rfl fun hL23=>?_;refine S Mv (nil ?_);refine block ?_;refine loopH (TA 8 (TA 73 (TA 74 KeepsT.nil))) (fun(z:Nat×Nat×Z10)=>[(75,.a (.d (.int .i64 ((z.2.1:Nat):Int))))]) (fun z=>((H.set tk34_10 (some (.tok 4 z.2.2.Fout.l.length))).set id34_9 (some (.cells (Z10.cg (some tk34_10) z.2.2))))) (fun z=>z.1) (fun z=>Z122_l24 x7 z.1 z.2.1 z.2.2=some r) ((x7.FVars.l.length+1),0,y17_id34_9) hE Weak.toA ?_
  rintro ⟨n24,s75_25,y26_id34_9⟩ hE K24 hK24;try dsimp only at hE
  cases n24 with
  | zero=>cases hE
  | succ n24 =>
    rw [Z122_l24] at hE;refine seqR (S BI (nil ?_));refine seqK fun K28 hK28=>?_;refine cE hE (fun hc29 hE=>?_) (fun hc29 hE=>?_)
    ·try dsimp only at hc29
     have hf29:=of_decide_eq_true hc29;refine sk hK28 ?_;clear hK28 K28;refine seqJH (TA 8 (TA 73 (TA 74 (TA 75 KeepsT.nil)))) (fun(z:Z10)=>[]) (fun z=>((H.set tk34_10 (some (.tok 4 z.Fout.l.length))).set id34_9 (some (.cells (Z10.cg (some tk34_10) z))))) (fun z=>Z122_j30 s75_25 ((Z122_l24 x7 n24)) z=some r) ?_ ?_
     ·intro K30 hK30;refine block ?_;refine seqR ?_;obtain⟨x33,gx33,hE⟩:=bO hE;refine S (ix TVar.c s75_25 gx33) (S Ld ?_);refine Sl ?_;refine Sf ?_;refine nil ?_;refine freezeA 16 _ rfl (KA 8 (KA 73 (KA 74 (KA 75 Keeps.nil)))) ?_;refine seqR (S Fv (S Ld (nil ?_)));refine cE hE (fun hc35 hE=>?_) (fun hc35 hE=>?_)
      ·refine region ?_;refine S Mv (S Fv (S Ld (S Fv (S Ld ?_))));obtain⟨x36,gx36,hE⟩:=bO hE;refine sH (callH rfl rfl (Z129_walk gx36 _ hpG hpG)) rfl ?_;refine hq ((H.set tk34_10 (some (.tok 4 x36.Fout.l.length))).set id34_9 (some (.cells (Z10.cg (some tk34_10) x36)))) ?_;refine nil ?_;exact hK30 _ x36 Weak.toA hE
      refine AWp.skip ?_;exact hK30 _ y26_id34_9 Weak.toA hE
     rintro y31_id34_9 hE;try dsimp only at hE
     unfold Z122_j30 at hE;refine region ?_;refine SI ?_;refine S Mv (nil ?_);exact hK24 _ (n24,(s75_25+1),y31_id34_9) Weak.toA hE (Nat.lt_succ_self _)
    refine AWp.exit ?_;exact hK18 _ y26_id34_9 Weak.toA hE
 rintro y19_id34_9 hE;try dsimp only at hE
 unfold Z122_j18 at hE;refine seqR (S Mv (S NP ?_));refine s0 (fieldP (TK rfl) rfl rfl (TK rfl) rfl rfl) rfl ?_;refine s0 (loadP (TK rfl) rfl rfl hpG rfl) rfl ?_;obtain⟨x21,gx21,hE⟩:=bO hE;refine Sc rfl rfl (Z123_walk gx21) ?_;refine S As (nil ?_);refine AWp.ret ?_;repeat (first|refine xBlock_ret ?_|refine xThen_ret ?_)
 obtain rfl:=Option.some.inj hE;refine retQ.retF H rfl ⟨rfl,rfl⟩ ?_;intro id_ o_ he_;have e_tk34_10:id_≠tk34_10:=fun e_=>by subst e_; simp_all [Heap.set]
 have e_id34_9:id_≠id34_9:=fun e_=>by subst e_; simp_all [Heap.set]
 rw [<- he_];simp only [Heap.set] at he_ ⊢
 (repeat' split)<;>simp_all
def Z121_j3  (s9_4:Int):Option Int:=some s9_4
def Z121_j14 (s14_10:Nat) (k_next_8:Int->Nat->Option Int) (s9_15:Int):Option Int:=k_next_8 s9_15 (s14_10+1)
def Z121_l8 (a0:(Sl TUse)) (a1:Bs) (a2:Bs) (a3:Bs) :Nat->Int->Nat->Option Int
 | 0,_,_=>none
 | n8+1,s9_9,s14_10=>bif (decide (((s14_10:Nat):Int)<((a0.l.length:Nat):Int))) then((a0.l[s14_10]?).bind fun x17=>bif ((((x17.FType==a1))&&((x17.FField==a2)))&&((x17.FArg==a3))) then(Z121_j14 s14_10 ((Z121_l8 a0 a1 a2 a3 n8)) (IntKind.wrap .i64 (s9_9+x17.FCount))) else(Z121_j14 s14_10 ((Z121_l8 a0 a1 a2 a3 n8)) s9_9)) else(Z121_j3   s9_9)
def Z121 (a0:(Sl TUse)) (a1:Bs) (a2:Bs) (a3:Bs):Option Int:=Z121_l8 a0 a1 a2 a3 (a0.l.length+1) (0:Int) 0
theorem Z121_walk {a0:Sl TUse}{a1 a2 a3:Bs}{w0:Option Nat}{r:Int}(hE:Z121 a0 a1 a2 a3=some r) (H:Heap) :ACalls Tryz.prog 14 [.d (Sl.d 4 TUse.c w0 a0),.d (.str a1),.d (.str a2),.d (.str a3)] H fun v h'=>v=.a (.d (.int .i64 r))/\h'=H:=by
 unfold Z121 at hE;refine ACalls.oW 40 [.tmp 8] Tryz.call14 Tryz.func14 ?_;refine seqR (S As (nil ?_));refine seqR (S As (nil ?_));refine seqJH KeepsT.nil (fun(z:Int)=>[(9,.a (.d (.int .i64 z)))]) (fun z=>H) (fun z=>Z121_j3 z=some r) ?_ ?_
 ·intro K3 hK3;refine seqR (S Mv ?_);refine sLen (f:=TUse.c) (s:=a0) (TK rfl) rfl rfl rfl rfl fun hL7=>?_;refine S Mv (nil ?_);refine block ?_;refine loopH (TA 1 (TA 2 (TA 3 (TA 12 (TA 13 KeepsT.nil))))) (fun(z:Nat×Int×Nat)=>[(9,.a (.d (.int .i64 z.2.1))),(14,.a (.d (.int .i64 ((z.2.2:Nat):Int))))]) (fun z=>H) (fun z=>z.1) (fun z=>Z121_l8 a0 a1 a2 a3 z.1 z.2.1 z.2.2=some r) ((a0.l.length+1),(0:Int),0) hE Weak.toA ?_
  rintro ⟨n8,s9_9,s14_10⟩ hE K8 hK8;try dsimp only at hE
  cases n8 with
  | zero=>cases hE
  | succ n8 =>
    rw [Z121_l8] at hE;refine seqR (S BI (nil ?_));refine seqK fun K12 hK12=>?_;refine cE hE (fun hc13 hE=>?_) (fun hc13 hE=>?_)
    ·try dsimp only at hc13
     have hf13:=of_decide_eq_true hc13;refine sk hK12 ?_;clear hK12 K12;refine seqJH (TA 1 (TA 2 (TA 3 (TA 12 (TA 13 (TA 14 KeepsT.nil)))))) (fun(z:Int)=>[(9,.a (.d (.int .i64 z)))]) (fun z=>H) (fun z=>Z121_j14 s14_10 ((Z121_l8 a0 a1 a2 a3 n8)) z=some r) ?_ ?_
     ·intro K14 hK14;refine block ?_;refine seqR ?_;obtain⟨x17,gx17,hE⟩:=bO hE;refine S (ix TUse.c s14_10 gx17) (S Ld ?_);refine Sl ?_;refine Sf ?_;refine nil ?_;refine freezeA 11 _ rfl (KA 1 (KA 2 (KA 3 (KA 9 (KA 12 (KA 13 (KA 14 Keeps.nil))))))) ?_;refine seqR (S Fv (S Ld (S Mv (S BS (S Mv (G0 Fv ?_))))));refine G1 23 rfl Ld ?_;refine G0 Mv ?_;refine G2 24 25 rfl rfl BS ?_;refine S PA (S Mv (G0 Fv ?_))
      refine G1 29 rfl Ld ?_;refine G0 Mv ?_;refine G2 30 31 rfl rfl BS ?_;refine S PA (nil ?_);refine cE hE (fun hc19 hE=>?_) (fun hc19 hE=>?_)
      ·refine region ?_;refine S Mv (S Fv (S Ld (S BI (S As (nil ?_)))));exact hK14 _ (IntKind.wrap .i64 (s9_9+x17.FCount)) Weak.toA hE
      refine AWp.skip ?_;exact hK14 _ s9_9 Weak.toA hE
     rintro s9_15 hE;try dsimp only at hE
     unfold Z121_j14 at hE;refine region ?_;refine SI ?_;refine S Mv (nil ?_);exact hK8 _ (n8,s9_15,(s14_10+1)) Weak.toA hE (Nat.lt_succ_self _)
    refine AWp.exit ?_;exact hK3 _ s9_9 Weak.toA hE
 rintro s9_4 hE;try dsimp only at hE
 unfold Z121_j3 at hE;refine seqR (S Mv (S As (nil ?_)));exact rt hE
def Z45 :Option (TDoc×Z8):=some ((TDoc.mk (⟨false,[(TDef.mk (1:Int) ([81,117,101,114,121]:Bs) (Sl.nil:Sl Bs) (Sl.nil:Sl TDir) (⟨false,[(Z4.mk ([109,101]:Bs) (⟨false,[(Z6.mk ([99]:Bs) (TRef.mk ([67,111,108,111,114]:Bs) (Sl.nil:Sl Int)) false Z9.zero (Sl.nil:Sl TDir))]⟩:Sl Z6) (TRef.mk ([85,115,101,114]:Bs) (Sl.nil:Sl Int)) (Sl.nil:Sl TDir))]⟩:Sl Z4) (Sl.nil:Sl Z7) (Sl.nil:Sl Z6)),(TDef.mk (4:Int) ([67,111,108,111,114]:Bs) (Sl.nil:Sl Bs) (Sl.nil:Sl TDir) (Sl.nil:Sl Z4) (⟨false,[(Z7.mk ([82,69,68]:Bs) (Sl.nil:Sl TDir))]⟩:Sl Z7) (Sl.nil:Sl Z6)),(TDef.mk (1:Int) ([85,115,101,114]:Bs) (Sl.nil:Sl Bs) (Sl.nil:Sl TDir) (⟨false,[(Z4.mk ([110,97,109,101]:Bs) (Sl.nil:Sl Z6) (TRef.mk ([83,116,114,105,110,103]:Bs) (Sl.nil:Sl Int)) (Sl.nil:Sl TDir))]⟩:Sl Z4) (Sl.nil:Sl Z7) (Sl.nil:Sl Z6))]⟩:Sl TDef)),(Z8.mk (⟨false,[(TOp.mk (1:Int) ([]:Bs) (Sl.nil:Sl TVar) (⟨false,[(TSel.mk (1:Int) ([97]:Bs) ([109,101]:Bs) ([]:Bs) (⟨false,[(TArg.mk ([99]:Bs) (Z9.mk (4:Int) (0:Int) ([82,69,68]:Bs) true ([]) (Sl.nil:Sl Bs)))]⟩:Sl TArg) (Sl.nil:Sl TDir) ((⟨false,[(TSel.mk (1:Int) ([]:Bs) ([110,97,109,101]:Bs) ([]:Bs) (Sl.nil:Sl TArg) (Sl.nil:Sl TDir) true ([]))]⟩:Sl TSel).nl) ((⟨false,[(TSel.mk (1:Int) ([]:Bs) ([110,97,109,101]:Bs) ([]:Bs) (Sl.nil:Sl TArg) (Sl.nil:Sl TDir) true ([]))]⟩:Sl TSel).l)),(TSel.mk (1:Int) ([98]:Bs) ([109,101]:Bs) ([]:Bs) (Sl.nil:Sl TArg) (Sl.nil:Sl TDir) ((⟨false,[(TSel.mk (1:Int) ([]:Bs) ([110,97,109,101]:Bs) ([]:Bs) (Sl.nil:Sl TArg) (Sl.nil:Sl TDir) true ([]))]⟩:Sl TSel).nl) ((⟨false,[(TSel.mk (1:Int) ([]:Bs) ([110,97,109,101]:Bs) ([]:Bs) (Sl.nil:Sl TArg) (Sl.nil:Sl TDir) true ([]))]⟩:Sl TSel).l))]⟩:Sl TSel))]⟩:Sl TOp) (Sl.nil:Sl Z5)))
theorem Z45_walk    {r:TDoc×Z8}(hE:Z45 =some r) (H:Heap) :ACalls Tryz.prog 30 [] H fun v h'=>v=.tup [.agg (TDoc.c r.1),.agg (Z8.c r.2)]/\h'=H:=by
 unfold Z45 at hE;refine ACalls.oW 40 [.cell 0 24,.cell 1 28] Tryz.call30 Tryz.func30 ?_;refine seqR ?_;refine Sl ?_;refine Sl ?_;refine nil ?_;refine seqR (S BU (S BU (S BU (S BV (S BU ?_)))));refine Sl ?_;refine Sf ?_;refine nil ?_;refine freezeA 2 _ rfl (KA 0 (KA 1 Keeps.nil)) ?_;refine seqR (S Ld (S BV (S BU (S BU (S BV (S BU (S BU (S BU (S BV (S BU (S BV (S BU ?_))))))))))));refine Sl ?_;refine Sf ?_
 refine nil ?_;refine freezeA 3 _ rfl (KA 0 (KA 1 Keeps.nil)) ?_;refine seqR (S BU (S BV (S As (nil ?_))));refine seqR (S BU (S BU (S BV (S Mv (S BU ?_)))));refine Sl ?_;refine Sf ?_;refine AOps.relocal 2 (TSel.c (TSel.mk (1:Int) ([97]:Bs) ([109,101]:Bs) ([]:Bs) (⟨false,[(TArg.mk ([99]:Bs) (Z9.mk (4:Int) (0:Int) ([82,69,68]:Bs) true ([]) (Sl.nil:Sl Bs)))]⟩:Sl TArg) (Sl.nil:Sl TDir) ((⟨false,[(TSel.mk (1:Int) ([]:Bs) ([110,97,109,101]:Bs) ([]:Bs) (Sl.nil:Sl TArg) (Sl.nil:Sl TDir) true ([]))]⟩:Sl TSel).nl) ((⟨false,[(TSel.mk (1:Int) ([]:Bs) ([110,97,109,101]:Bs) ([]:Bs) (Sl.nil:Sl TArg) (Sl.nil:Sl TDir) true ([]))]⟩:Sl TSel).l))) rfl (fun j w cs hh hx=>by rw [TSel.cu_eq]; exact hx) ?_
 refine nil ?_;refine freezeA 5 _ rfl (KA 0 (KA 1 (KA 3 (KA 4 Keeps.nil)))) ?_;refine seqR (S Mv (S BU ?_));refine Sl ?_;refine Sf ?_;refine AOps.relocal 2 (TSel.c (TSel.mk (1:Int) ([98]:Bs) ([109,101]:Bs) ([]:Bs) (Sl.nil:Sl TArg) (Sl.nil:Sl TDir) ((⟨false,[(TSel.mk (1:Int) ([]:Bs) ([110,97,109,101]:Bs) ([]:Bs) (Sl.nil:Sl TArg) (Sl.nil:Sl TDir) true ([]))]⟩:Sl TSel).nl) ((⟨false,[(TSel.mk (1:Int) ([]:Bs) ([110,97,109,101]:Bs) ([]:Bs) (Sl.nil:Sl TArg) (Sl.nil:Sl TDir) true ([]))]⟩:Sl TSel).l))) rfl (fun j w cs hh hx=>by rw [TSel.cu_eq]; exact hx) ?_
 refine nil ?_;refine freezeA 6 _ rfl (KA 0 (KA 1 (KA 3 (KA 5 Keeps.nil)))) ?_;refine AWp.seqD (Sd Ld (Sd Ld (Sd Ld (Sd BV (Sd BU (Sd BV (Sd BU ?_)))))));refine DOps.sLn (storeLFA (TK rfl) rfl rfl rfl rfl rfl) ?_;refine DOps.sLn (storeLFA (TK rfl) rfl rfl rfl rfl rfl) ?_;refine DOps.nil (by decide +kernel) ?_;exact rt hE
theorem eqt_81:eqTab Tryz.prog 81=some [.str,.str,.str,.int .i64]:=by kernel_rfl
def Z74_j8  :Option Bool:=some true
def Z74_l11 (a0:(Sl TUse)) (a1:(Sl TUse)) :Nat->Nat->Option Bool
 | 0,_=>none
 | n11+1,s5_12=>bif (decide (((s5_12:Nat):Int)<((a0.l.length:Nat):Int))) then((a0.l[s5_12]?).bind fun x19=>(a1.l[s5_12]?).bind fun x20=>bif (!((x19.FType==x20.FType)&&((x19.FField==x20.FField)&&((x19.FArg==x20.FArg)&&(decide (x19.FCount=x20.FCount)&&true))))) then(some false) else((Z74_l11 a0 a1 n11) (s5_12+1))) else(Z74_j8   )
def Z74 (a0:(Sl TUse)) (a1:(Sl TUse)):Option Bool:=bif (!decide (((a0.l.length:Nat):Int)=((a1.l.length:Nat):Int))) then(some false) else(Z74_l11 a0 a1 (a0.l.length+1) 0)
theorem Z74_walk {a0 a1:Sl TUse}{w0 w1:Option Nat}{r:Bool}(hE:Z74 a0 a1=some r) (H:Heap) :ACalls Tryz.prog 31 [.d (Sl.d 4 TUse.c w0 a0),.d (Sl.d 4 TUse.c w1 a1)] H fun v h'=>v=.a (.d (.bool r))/\h'=H:=by
 unfold Z74 at hE;refine ACalls.oW 26 [.tmp 4] Tryz.call31 Tryz.func31 ?_;refine seqR (S As (nil ?_));refine seqK fun K2 hK2=>?_;refine seqR (S Mv ?_);refine sLen (f:=TUse.c) (s:=a0) (TK rfl) rfl rfl rfl rfl fun hL4=>?_;refine S Mv ?_;refine sLen (f:=TUse.c) (s:=a1) (TK rfl) rfl rfl rfl rfl fun hL5=>?_;refine S BI (nil ?_);refine cE hE (fun hc6 hE=>?_) (fun hc6 hE=>?_)
 ·refine seqR (S As (nil ?_));exact rt hE
 refine sk hK2 ?_;clear hK2 K2;refine seqJH KeepsT.nil (fun(z:Unit)=>[]) (fun z=>H) (fun z=>Z74_j8 =some r) ?_ ?_
 ·intro K8 hK8;refine seqR (S As (nil ?_));refine block ?_;refine loopH (TA 0 (TA 1 KeepsT.nil)) (fun(z:Nat×Nat)=>[(5,.a (.d (.int .i64 ((z.2:Nat):Int))))]) (fun z=>H) (fun z=>z.1) (fun z=>Z74_l11 a0 a1 z.1 z.2=some r) ((a0.l.length+1),0) hE Weak.toA ?_;rintro ⟨n11,s5_12⟩ hE K11 hK11;try dsimp only at hE
  cases n11 with
  | zero=>cases hE
  | succ n11 =>
    rw [Z74_l11] at hE;refine seqK fun K13 hK13=>?_;refine seqR (S Mv (S Mv ?_));refine sLen (f:=TUse.c) (s:=a0) (TK rfl) rfl rfl rfl rfl fun hL15=>?_;refine S BI (nil ?_);refine cE hE (fun hc16 hE=>?_) (fun hc16 hE=>?_)
    ·try dsimp only at hc16
     have hf16:=of_decide_eq_true hc16;refine sk hK13 ?_;clear hK13 K13;refine seqK fun K17 hK17=>?_;refine block ?_;refine AWp.seqD (Sd Mv (Sd Mv ?_));obtain⟨x19,gx19,hE⟩:=bO hE;refine Sd (ix TUse.c s5_12 gx19) (Sd Ld (Sd Mv (Sd Mv ?_)));obtain⟨x20,gx20,hE⟩:=bO hE;refine Sd (ix TUse.c s5_12 gx20) (Sd Ld ?_);refine DOps.s0 (neStruct eqt_81 rfl rfl rfl rfl) rfl ?_;refine DOps.nil (by decide +kernel) ?_
     refine cE hE (fun hc21 hE=>?_) (fun hc21 hE=>?_)
     ·refine seqR (S As (nil ?_));exact rt hE
     refine sk hK17 ?_;clear hK17 K17;refine region ?_;refine S Mv ?_;refine SI ?_;refine S As (nil ?_);exact hK11 _ (n11,(s5_12+1)) Weak.toA hE (Nat.lt_succ_self _)
    refine AWp.exit ?_;exact hK8 _ () Weak.toA hE
 rintro _ hE;try dsimp only at hE
 unfold Z74_j8 at hE;refine seqR (S As (nil ?_));exact rt hE
def Tryz.lay95_ren:Go.Shelf.Ren:=⟨fun|4=>95|n=>n,fun|22=>34|25=>81|3=>3|4=>4|9=>9|20=>20|0=>0|n=>n,fun|n=>n⟩
theorem Tryz.lay95:Go.Proofs.Lays8.n4 Tryz.prog Tryz.lay95_ren:={
 mixed:=by kernel_rfl
 f4:=⟨Tryz.f95.name,by decide,Tryz.func95.trans (congrArg some (by kernel_rfl))⟩
 t0:=Tryz.underlying0
 a0:=Tryz.isAgg0
 z0:=Tryz.sizeOf0
 v0:=Tryz.zeroValue0
 t3:=Tryz.underlying3
 a3:=Tryz.isAgg3
 z3:=Tryz.sizeOf3
 v3:=Tryz.zeroValue3
 t4:=Tryz.underlying4
 a4:=Tryz.isAgg4
 z4:=Tryz.sizeOf4
 v4:=Tryz.zeroValue4
 t9:=Tryz.underlying9
 a9:=Tryz.isAgg9
 z9:=Tryz.sizeOf9
 v9:=Tryz.zeroValue9
 t20:=Tryz.underlying20
 a20:=Tryz.isAgg20
 z20:=Tryz.sizeOf20
 v20:=Tryz.zeroValue20
 t22:=Tryz.underlying34
 a22:=Tryz.isAgg34
 z22:=Tryz.sizeOf34
 v22:=Tryz.zeroValue34 }
def Z103 (n:Int):Option (Sl TUse):=if 0<=n/\n.toNat*56<=maxN/\n.toNat<=maxN then some ⟨decide (n=0),[]⟩ else none
theorem Z103_tok {n:Int}{k0:Nat}{r:Sl TUse}(hE:Z103 n=some r) (H:Heap):ACalls Tryz.prog 95 [.d (.slice k0 none true []),.d (.int .i64 n)] H fun v h'=>∃tk,H tk=none/\v=.a (.d (Sl.d 4 TUse.c (some tk) r))/\h'=H.set tk (some (.tok 4 r.l.length)):=by
 unfold Z103 at hE
 split at hE
 ·rename_i h
  obtain rfl:=Option.some.inj hE;exact grow_calls Tryz.lay95 (TK rfl) rfl rfl (by decide) h.1 h.2.1 h.2.2 rfl TUse.c H
 cases hE
end Go.Proofs

namespace Go.Proofs
open Go Go.Ab
open AOps Cert AWp Keeps KeepsT
variable {lou:Lou}
def Z96_j7  (s6_8:(Sl TUse)):Option (Sl TUse):=some s6_8
def Z96_l12 (a0:(Sl (Sl TUse))) :Nat->(Sl TUse)->Nat->Option (Sl TUse)
 | 0,_,_=>none
 | n12+1,s6_13,s27_14=>bif (decide (((s27_14:Nat):Int)<((a0.l.length:Nat):Int))) then((a0.l[s27_14]?).bind fun x20=>(appC 56 s6_13 x20).bind fun x21=>(Z96_l12 a0 n12) x21 (s27_14+1)) else(Z96_j7   s6_13)
def Z96_j3 (a0:(Sl (Sl TUse)))  (s3_4:Int):Option (Sl TUse):=(Z103 s3_4).bind fun x6=>Z96_l12 a0 (a0.l.length+1) x6 0
def Z96_j30 (s11_26:Nat) (k_next_24:Int->Nat->Option (Sl TUse)) (s3_31:Int):Option (Sl TUse):=k_next_24 s3_31 (s11_26+1)
def Z96_l24 (a0:(Sl (Sl TUse))) :Nat->Int->Nat->Option (Sl TUse)
 | 0,_,_=>none
 | n24+1,s3_25,s11_26=>bif (decide (((s11_26:Nat):Int)<((a0.l.length:Nat):Int))) then((a0.l[s11_26]?).bind fun x33=>(addC s3_25 ((x33.l.length:Nat):Int)).bind fun x36=>bif (decide (x36<(0:Int))) then(none) else(Z96_j30 s11_26 ((Z96_l24 a0 n24)) x36)) else(Z96_j3 a0  s3_25)
def Z96 (a0:(Sl (Sl TUse))):Option (Sl TUse):=Z96_l24 a0 (a0.l.length+1) (0:Int) 0
theorem Z96_walk {a0:(Sl (Sl TUse))}{w0:Option Nat}{r:Sl TUse}(hE:Z96 a0=some r) (H:Heap) :ACalls Tryz.prog 57 [.d (Sl.d 1 (fun s=>[Sl.d 4 TUse.c none s]) w0 a0)] H fun v h'=>v=.a (.d (Sl.d 4 TUse.c none r))/\h'=H:=by
 unfold Z96 at hE;refine ACalls.oW 36 [.tmp 2] Tryz.call57 Tryz.func57 ?_;refine seqR ?_;refine s0 (assignNil (k':=4) rfl) rfl ?_;refine nil ?_;refine seqR (S As (nil ?_));refine seqJH (TA 0 KeepsT.nil) (fun(z:Int)=>[(3,.a (.d (.int .i64 z)))]) (fun z=>H) (fun z=>Z96_j3 a0 z=some r) ?_ ?_
 ·intro K3 hK3;refine seqR (S Mv ?_);refine sLen (f:=(fun s=>[Sl.d 4 TUse.c none s])) (s:=a0) (TK rfl) rfl rfl rfl rfl fun hL23=>?_;refine S Mv (nil ?_);refine block ?_;refine loopH (TA 0 (TA 9 (TA 10 KeepsT.nil))) (fun(z:Nat×Int×Nat)=>[(3,.a (.d (.int .i64 z.2.1))),(11,.a (.d (.int .i64 ((z.2.2:Nat):Int))))]) (fun z=>H) (fun z=>z.1) (fun z=>Z96_l24 a0 z.1 z.2.1 z.2.2=some r) ((a0.l.length+1),(0:Int),0) hE Weak.toA ?_
  rintro ⟨n24,s3_25,s11_26⟩ hE K24 hK24;try dsimp only at hE
  cases n24 with
  | zero=>cases hE
  | succ n24 =>
    rw [Z96_l24] at hE;refine seqR (S BI (nil ?_));refine seqK fun K28 hK28=>?_;refine cE hE (fun hc29 hE=>?_) (fun hc29 hE=>?_)
    ·try dsimp only at hc29
     have hf29:=of_decide_eq_true hc29;refine sk hK28 ?_;clear hK28 K28;refine seqJH (TA 0 (TA 9 (TA 10 (TA 11 KeepsT.nil)))) (fun(z:Int)=>[(3,.a (.d (.int .i64 z)))]) (fun z=>H) (fun z=>Z96_j30 s11_26 ((Z96_l24 a0 n24)) z=some r) ?_ ?_
     ·intro K30 hK30;refine block ?_;refine seqR ?_;obtain⟨x33,gx33,hE⟩:=bO hE;refine S (ix (fun s=>[Sl.d 4 TUse.c none s]) s11_26 gx33) ?_;refine S Ld (S As (nil ?_));refine seqR (S Mv (S Mv ?_));refine sLen (f:=TUse.c) (s:=x33) (TK rfl) rfl rfl rfl rfl fun hL35=>?_;obtain⟨x36,gx36,hE⟩:=bO hE;refine s0 (addM rfl rfl gx36) rfl ?_;refine S As (nil ?_);refine seqR (S Mv (S BI (nil ?_)));refine cE hE (fun hc38 hE=>?_) (fun hc38 hE=>?_)
      ·cases hE
      refine AWp.skip ?_;exact hK30 _ x36 Weak.toA hE
     rintro s3_31 hE;try dsimp only at hE
     unfold Z96_j30 at hE;refine region ?_;refine SI ?_;refine S Mv (nil ?_);exact hK24 _ (n24,s3_31,(s11_26+1)) Weak.toA hE (Nat.lt_succ_self _)
    refine AWp.exit ?_;exact hK3 _ s3_25 Weak.toA hE
 rintro s3_4 hE;try dsimp only at hE
 unfold Z96_j3 at hE;refine seqR (S Mv ?_);obtain⟨x6,gx6,hE⟩:=bO hE;refine sE (StepE.call rfl rfl (Z103_tok gx6 _)) rfl (fun _ _ _ ⟨⟨tk1,htk1,e1,e2⟩,e3⟩=>?_); subst e1 e2 e3;refine S As (nil ?_);refine seqJH KeepsT.nil (fun(z:(Sl TUse))=>[(6,.a (.d (Sl.d 4 TUse.c (some tk1) z)))]) (fun z=>(H.set tk1 (some (.tok 4 z.l.length)))) (fun z=>Z96_j7 z=some r) ?_ ?_
 ·intro K7 hK7;refine seqR (S Mv ?_);refine sLen (f:=(fun s=>[Sl.d 4 TUse.c none s])) (s:=a0) (TK rfl) rfl rfl rfl rfl fun hL11=>?_;refine S Mv (nil ?_);refine block ?_;refine loopH (TA 25 (TA 26 KeepsT.nil)) (fun(z:Nat×(Sl TUse)×Nat)=>[(6,.a (.d (Sl.d 4 TUse.c (some tk1) z.2.1))),(27,.a (.d (.int .i64 ((z.2.2:Nat):Int))))]) (fun z=>(H.set tk1 (some (.tok 4 z.2.1.l.length)))) (fun z=>z.1) (fun z=>Z96_l12 a0 z.1 z.2.1 z.2.2=some r) ((a0.l.length+1),x6,0) hE Weak.toA ?_
  rintro ⟨n12,s6_13,s27_14⟩ hE K12 hK12;try dsimp only at hE
  cases n12 with
  | zero=>cases hE
  | succ n12 =>
    rw [Z96_l12] at hE;refine seqR (S BI (nil ?_));refine seqK fun K16 hK16=>?_;refine cE hE (fun hc17 hE=>?_) (fun hc17 hE=>?_)
    ·try dsimp only at hc17
     have hf17:=of_decide_eq_true hc17;refine sk hK16 ?_;clear hK16 K16;refine seqK fun K18 hK18=>?_;refine block ?_;refine seqR ?_;obtain⟨x20,gx20,hE⟩:=bO hE;refine S (ix (fun s=>[Sl.d 4 TUse.c none s]) s27_14 gx20) ?_;refine S Ld (S As (nil ?_));refine region ?_;refine S Mv (S Mv ?_);obtain⟨x21,gx21,hE⟩:=bO hE;refine SH (am TUse.c (TK rfl) rfl (TK rfl) (TK rfl) gx21) ?_;refine hq (H.set tk1 (some (.tok 4 x21.l.length))) ?_
     refine S As (nil ?_);refine hK18 _ ?_;clear hK18 K18;refine region ?_;refine SI ?_;refine S Mv (nil ?_);exact hK12 _ (n12,x21,(s27_14+1)) Weak.toA hE (Nat.lt_succ_self _)
    refine AWp.exit ?_;exact hK7 _ s6_13 Weak.toA hE
 rintro s6_8 hE;try dsimp only at hE
 unfold Z96_j7 at hE;refine seqR (S Mv (S As (nil ?_)));refine AWp.dropTok 2 rfl ?_;refine AWp.ret ?_;repeat (first|refine xBlock_ret ?_|refine xThen_ret ?_)
 obtain rfl:=Option.some.inj hE;refine retQ.retF H rfl ⟨rfl,rfl⟩ ?_
 first|exact Heap.sub_set htk1|(simp only [Heap.set_set]; exact Heap.sub_set htk1)
def Z120 (a0:(Sl TUse)) (a1:(Sl TUse)):Option (Sl TUse):=(Z96 (⟨false,[a0,a1]⟩:Sl (Sl TUse))).bind fun x3=>(Z123 x3).bind fun x4=>some x4
theorem Z120_walk {a0 a1:Sl TUse}{w0 w1:Option Nat}{r:Sl TUse}(hE:Z120 a0 a1=some r) (H:Heap) :ACalls Tryz.prog 32 [.d (Sl.d 4 TUse.c w0 a0),.d (Sl.d 4 TUse.c w1 a1)] H fun v h'=>v=.a (.d (Sl.d 4 TUse.c none r))/\h'=H:=by
 unfold Z120 at hE;refine ACalls.oW 10 [.tmp 4] Tryz.call32 Tryz.func32 ?_;refine seqR ?_;refine s0 (assignNil (k':=4) rfl) rfl ?_;refine nil ?_;refine seqR (S Mv (S Mv ?_));refine AOps.dropTok 5 rfl ?_;refine AOps.dropTok 6 rfl ?_;refine S BV ?_;obtain⟨x3,gx3,hE⟩:=bO hE;refine Sc rfl rfl (Z96_walk gx3) ?_;obtain⟨x4,gx4,hE⟩:=bO hE;refine Sc rfl rfl (Z123_walk gx4) ?_;refine S As (nil ?_);exact rt hE
def Z43 :Option Bool:=(Z45 ).bind fun x3=>(Z122 x3.1 x3.2 (0:Int)).bind fun x6=>(Z74 x6 (⟨false,[(TUse.mk ([67,111,108,111,114]:Bs) ([82,69,68]:Bs) ([]:Bs) (1:Int)),(TUse.mk ([81,117,101,114,121]:Bs) ([109,101]:Bs) ([]:Bs) (2:Int)),(TUse.mk ([81,117,101,114,121]:Bs) ([109,101]:Bs) ([99]:Bs) (1:Int)),(TUse.mk ([85,115,101,114]:Bs) ([110,97,109,101]:Bs) ([]:Bs) (2:Int))]⟩:Sl TUse)).bind fun x10=>guardO (x10) (Z121 x6 ([81,117,101,114,121]:Bs) ([109,101]:Bs) ([]:Bs)) (0:Int) fun x11=>guardO ((x10&&(decide (x11=(2:Int))))) (Z120 (⟨false,[(TUse.mk ([65]:Bs) ([120]:Bs) ([]:Bs) (1:Int))]⟩:Sl TUse) (⟨false,[(TUse.mk ([65]:Bs) ([120]:Bs) ([]:Bs) (2:Int))]⟩:Sl TUse)) (Sl.nil:Sl TUse) fun x12=>guardO ((x10&&(decide (x11=(2:Int))))) (Z74 x12 (⟨false,[(TUse.mk ([65]:Bs) ([120]:Bs) ([]:Bs) (3:Int))]⟩:Sl TUse)) false fun x13=>guardO (((x10&&(decide (x11=(2:Int))))&&x13)) (appC 56 (⟨false,[(TUse.mk ([65]:Bs) ([120]:Bs) ([]:Bs) (1:Int))]⟩:Sl TUse) (⟨false,[(TUse.mk ([65]:Bs) ([120]:Bs) ([]:Bs) (2:Int))]⟩:Sl TUse)) (Sl.nil:Sl TUse) fun x14=>guardO (((x10&&(decide (x11=(2:Int))))&&x13)) (Z123 x14) (Sl.nil:Sl TUse) fun x15=>guardO ((((x10&&(decide (x11=(2:Int))))&&x13)&&(decide (((x15.l.length:Nat):Int)=(1:Int))))) (Z122 x3.1 x3.2 (1:Int)) (Sl.nil:Sl TUse) fun x16=>some ((((x10&&(decide (x11=(2:Int))))&&x13)&&(decide (((x15.l.length:Nat):Int)=(1:Int))))&&(decide (((x16.l.length:Nat):Int)=(0:Int))))
theorem Z43_walk    {r:Bool}(hE:Z43 =some r) (H:Heap) :ACalls Tryz.prog 8 [] H fun v h'=>v=.a (.d (.bool r))/\h'=H:=by
 unfold Z43 at hE;refine ACalls.oW 54 [.tmp 0] Tryz.call8 Tryz.func8 ?_;refine AWp.tok 4 fun tk1 htk1=>?_;refine seqR (S As (nil ?_));refine seqR ?_;obtain⟨x3,gx3,hE⟩:=bO hE;refine Sc rfl rfl (Z45_walk gx3) ?_;refine S Mv (S EX (S EX ?_));refine Sl ?_;refine Sl ?_;refine Sf ?_;refine Sf ?_;refine nil ?_;refine freezeA 2 _ rfl (KA 1 Keeps.nil) ?_;refine freezeA 1 _ rfl (KA 2 Keeps.nil) ?_;refine seqR (S BU (S BU (S BU (S BU (S BV (S As (nil ?_)))))))
 refine seqR (S Ld (S Ld ?_));obtain⟨x6,gx6,hE⟩:=bO hE;refine Sc rfl rfl (Z122_walk gx6) ?_;refine S As (nil ?_);refine seqR (S BU ?_);refine s0 (buildSliceF (TK rfl) rfl (TK rfl) rfl rfl rfl rfl rfl rfl) rfl ?_;refine S As (nil ?_);refine seqR (S BU (S BV (S As (nil ?_))));refine seqR (S Mv (S Mv ?_));obtain⟨x10,gx10,hE⟩:=bO hE;refine Sc rfl rfl (Z74_walk gx10) ?_;refine S Mv (G0 Mv ?_);obtain⟨x11,gx11,hE⟩:=gO hE
 refine Gc1 27 rfl rfl rfl rfl rfl (fun hC=>Z121_walk (gx11 hC)) ?_;refine G1 28 rfl BI ?_;refine S PA (S Mv (G0 Mv ?_));refine AOps.gdfData 32 rfl ?_;refine G0 Mv ?_;obtain⟨x12,gx12,hE⟩:=gO hE;refine Gc2 32 33 rfl rfl rfl rfl rfl rfl (fun hC=>Z120_walk (gx12 hC)) ?_;refine G0 BU ?_;refine gC rfl rfl (fun hC=>ungdA (k:=35) rfl (buildSlice (TK rfl) rfl (TK rfl) rfl rfl rfl rfl rfl rfl)) rfl ?_;obtain⟨x13,gx13,hE⟩:=gO hE
 refine Gc2 34 36 rfl rfl rfl rfl rfl rfl (fun hC=>Z74_walk (gx13 hC)) ?_;refine S PA (S Mv (G0 Mv (G0 Mv ?_)));obtain⟨x14,gx14,hE⟩:=gO hE;refine gC rfl rfl (fun hC=>ungdF (k:=40) rfl (by first|exact hC|exact andL hC|exact andL (andL hC)|exact andL (andL (andL hC))|exact andR hC|simp_all) (ungdA (k:=41) rfl (appFM (f:=TUse.c) (TK rfl) rfl (TK rfl) (TK rfl) ⟨_,rfl⟩ rfl rfl (by decide) rfl rfl rfl (by intro q h; cases h<;>decide) rfl rfl (gx14 hC)))) rfl ?_
 obtain⟨x15,gx15,hE⟩:=gO hE;refine Gc1 42 rfl rfl rfl rfl rfl (fun hC=>Z123_walk (gx15 hC)) ?_;refine gC rfl rfl (fun hC=>ungdA (k:=43) rfl (lenM' (f:=TUse.c) (s:=x15) (TK rfl) rfl rfl rfl)) rfl ?_;refine G1 44 rfl BI ?_;refine S PA (S Mv (G0 Ld (G0 Ld ?_)));obtain⟨x16,gx16,hE⟩:=gO hE;refine Gc2 48 49 rfl rfl rfl rfl rfl rfl (fun hC=>Z122_walk (gx16 hC)) ?_;refine gC rfl rfl (fun hC=>ungdA (k:=50) rfl (lenM' (f:=TUse.c) (s:=x16) (TK rfl) rfl rfl rfl)) rfl ?_
 refine G1 51 rfl BI ?_;refine S PA (S As (nil ?_));refine AWp.ret ?_;repeat (first|refine xBlock_ret ?_|refine xThen_ret ?_)
 obtain rfl:=Option.some.inj hE;refine retQ.retF H rfl ⟨rfl,rfl⟩ ?_
 first|exact Heap.sub_set htk1|(simp only [Heap.set_set]; exact Heap.sub_set htk1)
def Z42_j2  :Option Bool:=some true
def Z42_j11 (s9_6:Nat) (k_next_5:Nat->Option Bool) :Option Bool:=k_next_5 (s9_6+1)
def Z42_j13 (a0:TDoc) (a1:(Sl TSel)) (a3:(Sl TUse)) (s9_6:Nat) (k_next_5:Nat->Option Bool) (k_rec_10:TDoc->(Sl TSel)->Bs->(Sl TUse)->Option Bool) (s10_14:Bs):Option Bool:=(a1.l[s9_6]?).bind fun x16=>(k_rec_10 a0 x16.FSels s10_14 a3).bind fun x17=>bif (!x17) then(some false) else(Z42_j11 s9_6 k_next_5 )
def Z42_l5 (a0:TDoc) (a1:(Sl TSel)) (a2:Bs) (a3:(Sl TUse)) (k_rec_10:TDoc->(Sl TSel)->Bs->(Sl TUse)->Option Bool):Nat->Nat->Option Bool
 | 0,_=>none
 | n5+1,s9_6=>bif (decide (((s9_6:Nat):Int)<((a1.l.length:Nat):Int))) then((a1.l[s9_6]?).bind fun x21=>bif (decide (x21.FKind=(2:Int))) then(Z42_j11 s9_6 ((Z42_l5 a0 a1 a2 a3 k_rec_10 n5)) ) else(bif (decide (x21.FKind=(3:Int))) then((a1.l[s9_6]?).bind fun x27=>bif (!(x27.FOn==([]:Bs))) then((a1.l[s9_6]?).bind fun x29=>Z42_j13 a0 a1 a3 s9_6 ((Z42_l5 a0 a1 a2 a3 k_rec_10 n5)) k_rec_10 x29.FOn) else(Z42_j13 a0 a1 a3 s9_6 ((Z42_l5 a0 a1 a2 a3 k_rec_10 n5)) k_rec_10 a2)) else((a1.l[s9_6]?).bind fun x32=>(Z121 a3 a2 x32.FName ([]:Bs)).bind fun x33=>bif (decide (x33<(1:Int))) then(some false) else((a1.l[s9_6]?).bind fun x37=>(Z19 a0 a2 x37.FName).bind fun x38=>Z42_j13 a0 a1 a3 s9_6 ((Z42_l5 a0 a1 a2 a3 k_rec_10 n5)) k_rec_10 x38.1.FName)))) else(Z42_j2   )
def Z42_n:Nat->TDoc->(Sl TSel)->Bs->(Sl TUse)->Option Bool
 | 0,_,_,_,_=>none
 | n+1,a0,a1,a2,a3=>Z42_l5 a0 a1 a2 a3 (Z42_n n) (a1.l.length+1) 0
theorem Z42_step (n:Nat) (ih_10:∀{a0:TDoc}{a1:Sl TSel}{a2:Bs}{a3:Sl TUse}{w1 w3:Option Nat}{r:Bool},Z42_n n a0 a1 a2 a3=some r->∀(H:Heap),ACalls Tryz.prog 10 [.agg (TDoc.c a0),.d (Sl.d 7 TSel.c w1 a1),.d (.str a2),.d (Sl.d 4 TUse.c w3 a3)] H fun v h'=>v=.a (.d (.bool r))/\h'=H):∀{a0:TDoc}{a1:Sl TSel}{a2:Bs}{a3:Sl TUse}{w1 w3:Option Nat}{r:Bool},Z42_n (n+1) a0 a1 a2 a3=some r->∀(H:Heap),ACalls Tryz.prog 10 [.agg (TDoc.c a0),.d (Sl.d 7 TSel.c w1 a1),.d (.str a2),.d (Sl.d 4 TUse.c w3 a3)] H fun v h'=>v=.a (.d (.bool r))/\h'=H:=by
 intro a0 a1 a2 a3 w1 w3  r hE H ;rw [Z42_n] at hE;refine ACalls.oW 72 [.tmp 8] Tryz.call10 Tryz.func10 ?_;refine seqR (S BX (S As (nil ?_)));refine seqJH KeepsT.nil (fun(z:Unit)=>[]) (fun z=>H) (fun z=>Z42_j2 =some r) ?_ ?_
 ·intro K2 hK2;refine seqR (S As (nil ?_));refine block ?_;refine loopH (TA 1 (TA 2 (TA 3 (TA 4 KeepsT.nil)))) (fun(z:Nat×Nat)=>[(9,.a (.d (.int .i64 ((z.2:Nat):Int))))]) (fun z=>H) (fun z=>z.1) (fun z=>Z42_l5 a0 a1 a2 a3 (Z42_n n) z.1 z.2=some r) ((a1.l.length+1),0) hE Weak.toA ?_;rintro ⟨n5,s9_6⟩ hE K5 hK5;try dsimp only at hE
  cases n5 with
  | zero=>cases hE
  | succ n5 =>
    rw [Z42_l5] at hE;refine seqK fun K7 hK7=>?_;refine seqR (S Mv (S Mv ?_));refine sLen (f:=TSel.c) (s:=a1) (TK rfl) rfl rfl rfl rfl fun hL9=>?_;refine S BI (nil ?_);refine cE hE (fun hc10 hE=>?_) (fun hc10 hE=>?_)
    ·try dsimp only at hc10
     have hf10:=of_decide_eq_true hc10;refine sk hK7 ?_;clear hK7 K7;refine seqJH (TA 1 (TA 2 (TA 3 (TA 4 (TA 9 KeepsT.nil))))) (fun(z:Unit)=>[]) (fun z=>H) (fun z=>Z42_j11 s9_6 ((Z42_l5 a0 a1 a2 a3 (Z42_n n) n5)) =some r) ?_ ?_
     ·intro K11 hK11;refine block ?_;refine seqR (S Mv (S As (nil ?_)));refine seqJH (TA 1 (TA 2 (TA 3 (TA 4 (TA 9 KeepsT.nil))))) (fun(z:Bs)=>[(10,.a (.d (.str z)))]) (fun z=>H) (fun z=>Z42_j13 a0 a1 a3 s9_6 ((Z42_l5 a0 a1 a2 a3 (Z42_n n) n5)) (Z42_n n) z=some r) ?_ ?_
      ·intro K13 hK13;refine seqR (S Mv (S Mv ?_));obtain⟨x21,gx21,hE⟩:=bO hE;refine S (ix TSel.c s9_6 gx21) (S Fv (S Ld (nil ?_)));refine block ?_;refine seqR (S BI (S As (nil ?_)));refine cE hE (fun hc23 hE=>?_) (fun hc23 hE=>?_)
       ·refine AWp.exit ?_;exact hK11 _ () Weak.toA hE
       refine seqR (S BI (S As (nil ?_)));refine cE hE (fun hc25 hE=>?_) (fun hc25 hE=>?_)
       ·refine seqR (S Mv (S Mv ?_));obtain⟨x27,gx27,hE⟩:=bO hE;refine S (ix TSel.c s9_6 gx27) (S Fv (S Ld (S BS (nil ?_))));refine cE hE (fun hc28 hE=>?_) (fun hc28 hE=>?_)
        ·refine region ?_;refine S Mv (S Mv ?_);obtain⟨x29,gx29,hE⟩:=bO hE;refine S (ix TSel.c s9_6 gx29) (S Fv (S Ld (S As (nil ?_))));exact hK13 _ x29.FOn Weak.toA hE
        refine AWp.skip ?_;exact hK13 _ a2 Weak.toA hE
       refine seqK fun K30 hK30=>?_;refine seqR (S Mv (S Mv (S Mv (S Mv ?_))));obtain⟨x32,gx32,hE⟩:=bO hE;refine S (ix TSel.c s9_6 gx32) (S Fv (S Ld ?_));obtain⟨x33,gx33,hE⟩:=bO hE;refine Sc rfl rfl (Z121_walk gx33) ?_;refine S BI (nil ?_);refine cE hE (fun hc34 hE=>?_) (fun hc34 hE=>?_)
       ·refine seqR (S As (nil ?_));exact rt hE
       refine sk hK30 ?_;clear hK30 K30;refine AWp.seqD (Sd Ld (Sd Mv (Sd Mv (Sd Mv ?_))));obtain⟨x37,gx37,hE⟩:=bO hE;refine Sd (ix TSel.c s9_6 gx37) (Sd Fv (Sd Ld ?_));obtain⟨x38,gx38,hE⟩:=bO hE;refine Scd rfl rfl (Z19_walk gx38) ?_;refine Sd Mv (Sd EX (Sd EX ?_));refine DOps.sB (TK rfl) rfl rfl ?_ (by repeat (first|exact Snoc.nil|apply Snoc.cons));refine DOps.sLn (storeLFA (TK rfl) rfl rfl rfl rfl rfl) ?_
       refine Sd As ?_;refine DOps.nil (by decide +kernel) ?_;refine freezeA 11 _ rfl (KA 1 (KA 2 (KA 3 (KA 4 (KA 9 Keeps.nil))))) ?_;refine region ?_;refine S Fv (S Ld (S As (nil ?_)));exact hK13 _ x38.1.FName Weak.toA hE
      rintro s10_14 hE;try dsimp only at hE
      unfold Z42_j13 at hE;refine AWp.seqD (Sd Ld (Sd Mv (Sd Mv ?_)));obtain⟨x16,gx16,hE⟩:=bO hE;refine Sd (ix TSel.c s9_6 gx16) (Sd Fv ?_);refine DOps.s0 (loadV (TK rfl) rfl rfl (congrArg (fun x=>some (A.d x)) (TSel.FSelsD_eq _))) rfl ?_;refine Sd Mv (Sd Mv ?_);obtain⟨x17,gx17,hE⟩:=bO hE;refine Scd rfl rfl (ih_10 gx17) ?_;refine Sd NB ?_;refine DOps.nil (by decide +kernel) ?_;refine cE hE (fun hc18 hE=>?_) (fun hc18 hE=>?_)
      ·refine seqR (S As (nil ?_));exact rt hE
      refine AWp.skip ?_;exact hK11 _ () Weak.toA hE
     rintro _ hE;try dsimp only at hE
     unfold Z42_j11 at hE;refine region ?_;refine S Mv ?_;refine SI ?_;refine S As (nil ?_);exact hK5 _ (n5,(s9_6+1)) Weak.toA hE (Nat.lt_succ_self _)
    refine AWp.exit ?_;exact hK2 _ () Weak.toA hE
 rintro _ hE;try dsimp only at hE
 unfold Z42_j2 at hE;refine seqR (S As (nil ?_));exact rt hE
theorem Z42_all:∀(n:Nat),(∀{a0:TDoc}{a1:Sl TSel}{a2:Bs}{a3:Sl TUse}{w1 w3:Option Nat}{r:Bool},Z42_n n a0 a1 a2 a3=some r->∀(H:Heap),ACalls Tryz.prog 10 [.agg (TDoc.c a0),.d (Sl.d 7 TSel.c w1 a1),.d (.str a2),.d (Sl.d 4 TUse.c w3 a3)] H fun v h'=>v=.a (.d (.bool r))/\h'=H)
 | 0=>fun hE=>by first|cases hE|(rw [Z42_n] at hE; cases hE)
 | n+1=>Z42_step n (Z42_all n)
def Z42 (a0:TDoc) (a1:(Sl TSel)) (a2:Bs) (a3:(Sl TUse)):Option Bool:=Z42_n F0 a0 a1 a2 a3
theorem Z42_walk {a0:TDoc}{a1:Sl TSel}{a2:Bs}{a3:Sl TUse}{w1 w3:Option Nat}{r:Bool}(hE:Z42 a0 a1 a2 a3=some r) (H:Heap) :ACalls Tryz.prog 10 [.agg (TDoc.c a0),.d (Sl.d 7 TSel.c w1 a1),.d (.str a2),.d (Sl.d 4 TUse.c w3 a3)] H fun v h'=>v=.a (.d (.bool r))/\h'=H:=(Z42_all F0) hE H 
def Z41_j11  :Option Bool:=(Z43 ).bind fun x13=>some x13
def Z41_j21 (s5_16:Nat) (k_next_15:Nat->Option Bool) :Option Bool:=k_next_15 (s5_16+1)
def Z41_l36 (a0:TDoc) (a1:Z8) (s5_16:Nat) (x23:(Sl TUse)) (x34:((Sl Bs)×Bool)) (k_next_15:Nat->Option Bool):Nat->Nat->Option Bool
 | 0,_=>none
 | n36+1,s9_37=>bif (decide (((s9_37:Nat):Int)<((x34.1.l.length:Nat):Int))) then((x34.1.l[s9_37]?).bind fun x44=>(Z33 a1 x44).bind fun x45=>guardO (x45.2) (Z42 a0 x45.1.FSels x45.1.FOn x23) false fun x47=>guardO ((x45.2&&!(!x47))) (Z121 x23 x45.1.FOn ([]:Bs) ([]:Bs)) (0:Int) fun x48=>bif (x45.2&&((!x47)||(decide (x48<(1:Int))))) then(some false) else((Z41_l36 a0 a1 s5_16 x23 x34 k_next_15 n36) (s9_37+1))) else(Z41_j21 s5_16 k_next_15 )
def Z41_l15 (a0:TDoc) (a1:Z8) :Nat->Nat->Option Bool
 | 0,_=>none
 | n15+1,s5_16=>bif (decide (((s5_16:Nat):Int)<((a1.FOps.l.length:Nat):Int))) then((Z122 a0 a1 ((s5_16:Nat):Int)).bind fun x23=>(a1.FOps.l[s5_16]?).bind fun x26=>(a1.FOps.l[s5_16]?).bind fun x27=>(Z82 x27.FKind).bind fun x28=>(Z42 a0 x26.FSels x28 x23).bind fun x29=>bif (!x29) then(some false) else((a1.FOps.l[s5_16]?).bind fun x33=>(Z34 a1 x33.FSels).bind fun x34=>Z41_l36 a0 a1 s5_16 x23 x34 ((Z41_l15 a0 a1 n15)) (x34.1.l.length+1) 0)) else(Z41_j11   )
def Z41 (a0:TDoc) (a1:Z8):Option Bool:=(Z44 a0 a1).bind fun x4=>guardO (!(!x4)) (Z75 a0 true) (Sl.nil:Sl Z3) fun x5=>guardO (!((!x4)||(decide ((0:Int)<((x5.l.length:Nat):Int))))) (Z32 a0 a1) (Sl.nil:Sl Z3) fun x6=>guardO (!(((!x4)||(decide ((0:Int)<((x5.l.length:Nat):Int))))||(decide ((0:Int)<((x6.l.length:Nat):Int))))) (Z18 a0 a1) (Sl.nil:Sl Z3) fun x7=>bif ((((!x4)||(decide ((0:Int)<((x5.l.length:Nat):Int))))||(decide ((0:Int)<((x6.l.length:Nat):Int))))||(decide ((0:Int)<((x7.l.length:Nat):Int)))) then((Z43 ).bind fun x10=>some x10) else(Z41_l15 a0 a1 (a1.FOps.l.length+1) 0)
theorem Z41_walk {a0:TDoc}{a1:Z8}{r:Bool}(hE:Z41 a0 a1=some r) (H:Heap) :ACalls Tryz.prog 3 [.agg (TDoc.c a0),.agg (Z8.c a1)] H fun v h'=>v=.a (.d (.bool r))/\h'=H:=by
 unfold Z41 at hE;refine ACalls.oW 110 [.tmp 4] Tryz.call3 Tryz.func3 ?_;refine seqR (S BX (S BX (S As (nil ?_))));refine seqK fun K2 hK2=>?_;refine seqR (S Ld (S Ld ?_));obtain⟨x4,gx4,hE⟩:=bO hE;refine Sc rfl rfl (Z44_walk gx4) ?_;refine S NB (S Mv (G0 Ld ?_));obtain⟨x5,gx5,hE⟩:=gO hE;refine Gc1 17 rfl rfl rfl rfl rfl (fun hC=>Z75_walk (gx5 hC)) ?_;refine gC rfl rfl (fun hC=>ungdA (k:=18) rfl (lenM' (f:=Z3.c) (s:=x5) (TK rfl) rfl rfl rfl)) rfl ?_
 refine G1 19 rfl BI ?_;refine S PO (S Mv (G0 Ld (G0 Ld ?_)));obtain⟨x6,gx6,hE⟩:=gO hE;refine Gc2 23 24 rfl rfl rfl rfl rfl rfl (fun hC=>Z32_walk (gx6 hC)) ?_;refine gC rfl rfl (fun hC=>ungdA (k:=25) rfl (lenM' (f:=Z3.c) (s:=x6) (TK rfl) rfl rfl rfl)) rfl ?_;refine G1 26 rfl BI ?_;refine S PO (S Mv (G0 Ld (G0 Ld ?_)));obtain⟨x7,gx7,hE⟩:=gO hE;refine Gc2 30 31 rfl rfl rfl rfl rfl rfl (fun hC=>Z18_walk (gx7 hC)) ?_
 refine gC rfl rfl (fun hC=>ungdA (k:=32) rfl (lenM' (f:=Z3.c) (s:=x7) (TK rfl) rfl rfl rfl)) rfl ?_;refine G1 33 rfl BI ?_;refine S PO (nil ?_);refine cE hE (fun hc8 hE=>?_) (fun hc8 hE=>?_)
 ·refine seqR ?_;obtain⟨x10,gx10,hE⟩:=bO hE;refine Sc rfl rfl (Z43_walk gx10) ?_;refine S As (nil ?_);exact rt hE
 refine sk hK2 ?_;clear hK2 K2;refine seqJH KeepsT.nil (fun(z:Unit)=>[]) (fun z=>H) (fun z=>Z41_j11 =some r) ?_ ?_
 ·intro K11 hK11;refine seqR (S As (nil ?_));refine block ?_;refine loopH (TA 2 (TA 3 KeepsT.nil)) (fun(z:Nat×Nat)=>[(5,.a (.d (.int .i64 ((z.2:Nat):Int))))]) (fun z=>H) (fun z=>z.1) (fun z=>Z41_l15 a0 a1 z.1 z.2=some r) ((a1.FOps.l.length+1),0) hE Weak.toA ?_;rintro ⟨n15,s5_16⟩ hE K15 hK15;try dsimp only at hE
  cases n15 with
  | zero=>cases hE
  | succ n15 =>
    rw [Z41_l15] at hE;refine seqK fun K17 hK17=>?_;refine seqR (S Mv (S Fv (S Ld ?_)));refine sLen (f:=TOp.c) (s:=a1.FOps) (TK rfl) rfl rfl rfl rfl fun hL19=>?_;refine S BI (nil ?_);refine cE hE (fun hc20 hE=>?_) (fun hc20 hE=>?_)
    ·try dsimp only at hc20
     have hf20:=of_decide_eq_true hc20;refine sk hK17 ?_;clear hK17 K17;refine seqJH (TA 2 (TA 3 (TA 5 KeepsT.nil))) (fun(z:Unit)=>[]) (fun z=>H) (fun z=>Z41_j21 s5_16 ((Z41_l15 a0 a1 n15)) =some r) ?_ ?_
     ·intro K21 hK21;refine block ?_;refine seqR (S Ld (S Ld (S Mv ?_)));obtain⟨x23,gx23,hE⟩:=bO hE;refine Sc rfl rfl (Z122_walk gx23) ?_;refine S As (nil ?_);refine seqK fun K24 hK24=>?_;refine AWp.seqD (Sd Ld (Sd Fv (Sd Ld (Sd Mv ?_))));obtain⟨x26,gx26,hE⟩:=bO hE;refine Sd (ix TOp.c s5_16 gx26) (Sd Fv (Sd Ld (Sd Fv (Sd Ld (Sd Mv ?_)))));obtain⟨x27,gx27,hE⟩:=bO hE;refine Sd (ix TOp.c s5_16 gx27) (Sd Fv (Sd Ld ?_))
      obtain⟨x28,gx28,hE⟩:=bO hE;refine Scd rfl rfl (Z82_walk gx28) ?_;refine Sd Mv ?_;obtain⟨x29,gx29,hE⟩:=bO hE;refine Scd rfl rfl (Z42_walk gx29) ?_;refine Sd NB ?_;refine DOps.nil (by decide +kernel) ?_;refine cE hE (fun hc30 hE=>?_) (fun hc30 hE=>?_)
      ·refine seqR (S As (nil ?_));exact rt hE
      refine sk hK24 ?_;clear hK24 K24;refine AWp.seqD (Sd Ld (Sd Fv (Sd Ld (Sd Mv ?_))));obtain⟨x33,gx33,hE⟩:=bO hE;refine Sd (ix TOp.c s5_16 gx33) (Sd Fv (Sd Ld ?_));obtain⟨x34,gx34,hE⟩:=bO hE;refine Scd rfl rfl (Z34_walk gx34) ?_;refine Sd Mv (Sd EX (Sd EX (Sd As (Sd As ?_))));refine DOps.nil (by decide +kernel) ?_;refine seqR (S As (nil ?_));refine block ?_;refine loopH (TA 2 (TA 3 (TA 5 (TA 6 (TA 7 KeepsT.nil))))) (fun(z:Nat×Nat)=>[(9,.a (.d (.int .i64 ((z.2:Nat):Int))))]) (fun z=>H) (fun z=>z.1) (fun z=>Z41_l36 a0 a1 s5_16 x23 x34 ((Z41_l15 a0 a1 n15)) z.1 z.2=some r) ((x34.1.l.length+1),0) hE Weak.toA ?_
      rintro ⟨n36,s9_37⟩ hE K36 hK36;try dsimp only at hE
      cases n36 with
      | zero=>cases hE
      | succ n36 =>
        rw [Z41_l36] at hE;refine seqK fun K38 hK38=>?_;refine seqR (S Mv (S Mv ?_));refine sLen (f:=strE) (s:=x34.1) (TK rfl) rfl rfl rfl rfl fun hL40=>?_;refine S BI (nil ?_);refine cE hE (fun hc41 hE=>?_) (fun hc41 hE=>?_)
        ·try dsimp only at hc41
         have hf41:=of_decide_eq_true hc41;refine sk hK38 ?_;clear hK38 K38;refine seqK fun K42 hK42=>?_;refine block ?_;refine AWp.seqD (Sd Ld (Sd Mv (Sd Mv ?_)));obtain⟨x44,gx44,hE⟩:=bO hE;refine Sd (ix strE s9_37 gx44) (Sd Ld ?_);obtain⟨x45,gx45,hE⟩:=bO hE;refine Scd rfl rfl (Z33_walk gx45) ?_;refine Sd Mv (Sd EX (Sd EX ?_));refine DOps.sB (TK rfl) rfl rfl ?_ (by repeat (first|exact Snoc.nil|apply Snoc.cons))
         refine DOps.sLn (storeLFA (TK rfl) rfl rfl rfl rfl rfl) ?_;refine Sd As ?_;refine DOps.nil (by decide +kernel) ?_;refine freezeA 10 _ rfl (KA 2 (KA 3 (KA 5 (KA 6 (KA 7 (KA 9 (KA 11 Keeps.nil))))))) ?_;refine seqR (S Mv (S Mv (G0 Ld (G0 Fv ?_))));refine G1 94 rfl Ld ?_;refine G0 Fv ?_;refine G1 96 rfl Ld ?_;refine G0 Mv ?_;obtain⟨x47,gx47,hE⟩:=gO hE;refine gC rfl rfl (fun hC=>ungdA (k:=93) rfl (ungdA (k:=95) rfl (ungdA (k:=97) rfl (ungdA (k:=98) rfl (callP rfl rfl (fun H=>Z42_walk (gx47 hC) H)))))) rfl ?_
         refine G1 99 rfl NB ?_;refine G1 100 rfl Mv ?_;refine G0 Mv (G0 Fv ?_);refine G1 103 rfl Ld ?_;obtain⟨x48,gx48,hE⟩:=gO hE;refine Gc2 102 104 rfl rfl rfl rfl rfl rfl (fun hC=>Z121_walk (gx48 hC)) ?_;refine G1 105 rfl BI ?_;refine gC rfl rfl (fun hC=>ungdA (k:=101) rfl (pickOrA rfl rfl rfl)) rfl ?_;refine S PA (nil ?_);refine cE hE (fun hc49 hE=>?_) (fun hc49 hE=>?_)
         ·refine seqR (S As (nil ?_));exact rt hE
         refine sk hK42 ?_;clear hK42 K42;refine region ?_;refine S Mv ?_;refine SI ?_;refine S As (nil ?_);exact hK36 _ (n36,(s9_37+1)) Weak.toA hE (Nat.lt_succ_self _)
        refine AWp.exit ?_;exact hK21 _ () Weak.toA hE
     rintro _ hE;try dsimp only at hE
     unfold Z41_j21 at hE;refine region ?_;refine S Mv ?_;refine SI ?_;refine S As (nil ?_);exact hK15 _ (n15,(s5_16+1)) Weak.toA hE (Nat.lt_succ_self _)
    refine AWp.exit ?_;exact hK11 _ () Weak.toA hE
 rintro _ hE;try dsimp only at hE
 unfold Z41_j11 at hE;refine seqR ?_;obtain⟨x13,gx13,hE⟩:=bO hE;refine Sc rfl rfl (Z43_walk gx13) ?_;refine S As (nil ?_);exact rt hE
end Go.Proofs
