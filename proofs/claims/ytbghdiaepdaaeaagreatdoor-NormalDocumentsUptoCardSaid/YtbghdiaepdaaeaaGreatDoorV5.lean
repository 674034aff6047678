import Derived.Test.YtbghdiaepdaaeaaGreatDoorV4
set_option maxRecDepth 100000
set_option maxHeartbeats 2000000
set_option linter.unusedVariables false
set_option linter.unusedSimpArgs false
namespace Go.Proofs
open Go Go.Ab
open AOps Cert AWp Keeps KeepsT
variable {lou:Lou}
def Z31_j2  :Option Bool:=some true
def Z31_l6 (a0:(Sl TDir)) (a1:Z11) :Nat->Nat->Option Bool
 | 0,_=>none
 | n6+1,s9_7=>bif (decide (((s9_7:Nat):Int)<((a0.l.length:Nat):Int))) then((a0.l[s9_7]?).bind fun x13=>guardO (((x13.FName==([115,107,105,112]:Bs)))) (Z36 x13 a1) false fun x15=>guardO ((!(((x13.FName==([115,107,105,112]:Bs)))&&x15)&&((x13.FName==([105,110,99,108,117,100,101]:Bs))))) (Z36 x13 a1) false fun x16=>bif ((((x13.FName==([115,107,105,112]:Bs)))&&x15)||(((x13.FName==([105,110,99,108,117,100,101]:Bs)))&&(!x16))) then(some false) else((Z31_l6 a0 a1 n6) (s9_7+1))) else(Z31_j2   )
def Z31 (a0:(Sl TDir)) (a1:Z11):Option Bool:=Z31_l6 a0 a1 (a0.l.length+1) 0
theorem Z31_walk {a0:Sl TDir}{a1:Z11}{w0:Option Nat}{r:Bool}(hE:Z31 a0 a1=some r) (H:Heap) :AC Tryz.prog 200 [.d (Sl.d 2 TDir.c w0 a0),.agg (Z11.c a1)] H fun v h'=>v=.a (.d (.bool r))/\h'=H:=by
 unfold Z31 at hE;refine AC.oW 33 [.tmp 4] Tryz.call200 Tryz.func200 ?_;refine seqR (S BX (S As (nil ?_)));refine seqJH kN (fun(z:Unit)=>[]) (fun z=>H) (fun z=>Z31_j2 =some r) ?_ ?_
 ·intro K2 hK2;refine seqR (S Mv ?_);refine sLen (f:=TDir.c) (s:=a0) (TK rfl) rfl rfl rfl rfl fun hL5=>?_;refine S Mv (nil ?_);refine block ?_;refine loopH (TA 3 (TA 7 (TA 8 kN))) (fun(z:Nat×Nat)=>[(9,.a (.d (.int .i64 ((z.2:Nat):Int))))]) (fun z=>H) (fun z=>z.1) (fun z=>Z31_l6 a0 a1 z.1 z.2=some r) ((a0.l.length+1),0) hE wA ?_;rintro ⟨n6,s9_7⟩ hE K6 hK6;try dsimp only at hE
  cases n6 with
  | zero=>cases hE
  | succ n6 =>
    rw [Z31_l6] at hE;refine seqR (S BI (nil ?_));refine seqK fun K9 hK9=>?_;refine cE hE (fun hc10 hE=>?_) (fun hc10 hE=>?_)
    ·try dsimp only at hc10
     have hf10:=oD hc10;refine sk hK9 ?_;clear hK9 K9;refine seqK fun K11 hK11=>?_;refine block ?_;refine seqR ?_;obtain⟨x13,gx13,hE⟩:=bO hE;refine S (ix TDir.c s9_7 gx13) (S Ld ?_);refine Sl ?_;refine Sf ?_;refine nil ?_;refine freezeA 6 _ rfl (KA 3 (KA 7 (KA 8 (KA 9 Keeps.nil)))) ?_;refine seqR (S Fv (S Ld (S BS (S Mv (G0 Ld (G0 Ld ?_))))));obtain⟨x15,gx15,hE⟩:=gO hE;refine Gc2 17 18 rfl rfl rfl rfl rfl rfl (fun hC=>Z36_walk (gx15 hC)) ?_
     refine S PA (S Mv (G0 Fv ?_));refine G1 22 rfl Ld ?_;refine G1 23 rfl BS ?_;refine G1 24 rfl Mv ?_;refine G0 Ld (G0 Ld ?_);obtain⟨x16,gx16,hE⟩:=gO hE;refine Gc2 26 27 rfl rfl rfl rfl rfl rfl (fun hC=>Z36_walk (gx16 hC)) ?_;refine G1 28 rfl NB ?_;refine gC rfl rfl (fun hC=>ungdA (k:=25) rfl (pickAndA rfl rfl rfl)) rfl ?_;refine S PO (nil ?_);refine cE hE (fun hc17 hE=>?_) (fun hc17 hE=>?_)
     ·refine seqR (S As (nil ?_));exact rt hE
     refine sk hK11 ?_;clear hK11 K11;refine region ?_;refine SI ?_;refine S Mv (nil ?_);exact hK6 _ (n6,(s9_7+1)) wA hE (nS _)
    refine AWp.exit ?_;exact hK2 _ () wA hE
 rintro _ hE;try dsimp only at hE
 unfold Z31_j2 at hE;refine seqR (S As (nil ?_));exact rt hE
def Z100_j2  :Option Int:=some (-1:Int)
def Z100_l6 (a0:(Sl Z2)) (a1:(Z2->Option Bool)) :Nat->Nat->Option Int
 | 0,_=>none
 | n6+1,s8_7=>bif (decide (((s8_7:Nat):Int)<((a0.l.length:Nat):Int))) then((a0.l[s8_7]?).bind fun x14=>(a1 x14).bind fun x15=>bif x15 then(some ((s8_7:Nat):Int)) else((Z100_l6 a0 a1 n6) (s8_7+1))) else(Z100_j2   )
def Z100 (a0:(Sl Z2)) (a1:(Z2->Option Bool)):Option Int:=Z100_l6 a0 a1 (a0.l.length+1) 0
theorem Z100_walk {a0:Sl Z2}{a1:Z2->Option Bool}{w0:Option Nat}{cl1:List D}{k1:Nat}{r:Int}(hE:Z100 a0 a1=some r) (H:Heap) (hf1:∀x0 r,a1 x0=some r->∀H,AC Tryz.prog k1 ([.agg (Z2.c x0)]++cl1.map A.d) H fun v h'=>v=.a (.d (.bool r))/\h'=H):AC Tryz.prog 234 [.d (Sl.d 2 Z2.c w0 a0),.d (.func k1 cl1)] H fun v h'=>v=.a (.d (.int .i64 r))/\h'=H:=by
 unfold Z100 at hE;refine AC.oW 19 [.tmp 4] Tryz.call234 Tryz.func234 ?_;refine seqR (S As (nil ?_));refine seqJH kN (fun(z:Unit)=>[]) (fun z=>H) (fun z=>Z100_j2 =some r) ?_ ?_
 ·intro K2 hK2;refine seqR (S Mv ?_);refine sLen (f:=Z2.c) (s:=a0) (TK rfl) rfl rfl rfl rfl fun hL5=>?_;refine S Mv (nil ?_);refine block ?_;refine loopH (TA 0 (TA 1 (TA 7 kN))) (fun(z:Nat×Nat)=>[(8,.a (.d (.int .i64 ((z.2:Nat):Int))))]) (fun z=>H) (fun z=>z.1) (fun z=>Z100_l6 a0 a1 z.1 z.2=some r) ((a0.l.length+1),0) hE wA ?_;rintro ⟨n6,s8_7⟩ hE K6 hK6;try dsimp only at hE
  cases n6 with
  | zero=>cases hE
  | succ n6 =>
    rw [Z100_l6] at hE;refine seqR (S BI (nil ?_));refine seqK fun K9 hK9=>?_;refine cE hE (fun hc10 hE=>?_) (fun hc10 hE=>?_)
    ·try dsimp only at hc10
     have hf10:=oD hc10;refine sk hK9 ?_;clear hK9 K9;refine seqK fun K11 hK11=>?_;refine block ?_;refine seqR (S Mv (S As (nil ?_)));refine seqR (S Mv (S Mv (S Mv ?_)));obtain⟨x14,gx14,hE⟩:=bO hE;refine S (ix Z2.c s8_7 gx14) (S Ld ?_);obtain⟨x15,gx15,hE⟩:=bO hE;refine s0 (callP rfl rfl (hf1 _ _ gx15)) rfl ?_;refine nil ?_;refine cE hE (fun hc16 hE=>?_) (fun hc16 hE=>?_)
     ·refine seqR (S Mv (S As (nil ?_)));exact rt hE
     refine sk hK11 ?_;clear hK11 K11;refine region ?_;refine SI ?_;refine S Mv (nil ?_);exact hK6 _ (n6,(s8_7+1)) wA hE (nS _)
    refine AWp.exit ?_;exact hK2 _ () wA hE
 rintro _ hE;try dsimp only at hE
 unfold Z100_j2 at hE;refine seqR (S As (nil ?_));exact rt hE
def Z35 (a0:Z2) (a1:Bs):Option Bool:=some ((a0.FKey==a1))
theorem Z35_walk {a0:Z2}{a1:Bs}{r:Bool}(hE:Z35 a0 a1=some r) (H:Heap) :AC Tryz.prog 235 [.agg (Z2.c a0),.d (.view (strE a1))] H fun v h'=>v=.a (.d (.bool r))/\h'=H:=by
 unfold Z35 at hE;refine AC.oW 8 [.tmp 3] Tryz.call235 Tryz.func235 ?_;refine seqR (S BX (S As (nil ?_)));refine seqR (S Fv (S Ld (S Ld (S BS (S As (nil ?_))))));exact rt hE
-- @uses supergraph/collect.Included slices.IndexFunc[[]supergraph/collect.Group,supergraph/collect.Group] (*supergraph/collect.collector).field$1
def collect_key (e:Z1):Bs:=bif (e.FSel.FAlias==([]:Bs)) then e.FSel.FName else e.FSel.FAlias
noncomputable def collect_cells (d:TDoc) (q:Z10) (on:Bs) (vars:Z11) (out m:D):List D:=TDoc.c d++Z10.c q++strE on++Z11.c vars++[out]++[m]
set_option maxRecDepth 100000 in
set_option maxHeartbeats 4000000 in
theorem collect_field_walk {d:TDoc}{q:Z10}{on:Bs}{vars:Z11}{m:D}{e:Z1}{c:Nat}(H:Heap) (hc:H c=some (.cells (collect_cells d q on vars (.slice 2 none true []) m))) :
  AC Tryz.prog 205 [.d (.ptr c 0),.agg (Z1.c e)] H fun v h'=>v=.tup []/\∃id,H id=none/\h'=(H.set id (some (.arr 2 (([⟨collect_key e,⟨false,[e]⟩⟩]:List Z2).map Z2.c)))).set c (some (.cells (collect_cells d q on vars (.arr 2 id false 1) m))):=by
 refine AC.oW 56 [] Tryz.call205 Tryz.func205 ?_;refine seqR (S BX (nil ?_));refine seqR (S Fv (S Fv (S Ld ?_)));refine Sl ?_;refine Sf ?_;refine nil ?_;refine seqJ (TA 0 (TA 3 (TA 4 kN))) (fun(z:Unit)=>[]) (fun z=>[[.str (collect_key e)]]) (fun z=>H) (fun z=>True) ?_ ?_
 ·intro K hK;refine seqR (S LL (S BS (nil ?_)));cases hk:(e.FSel.FAlias==([]:Bs)) with
  | true =>
   refine AWp.condT rfl rfl ?_;refine region ?_;refine S Fv (S Fv (S Ld ?_));refine Sf ?_;refine nil ?_;have hkey:collect_key e=e.FSel.FName:=by unfold collect_key; rw [hk]; rfl
   rw [hkey] at hK;exact hK _ () wA trivial
  | false =>
   refine AWp.condF rfl rfl ?_;refine AWp.skip ?_;have hkey:collect_key e=e.FSel.FAlias:=by unfold collect_key; rw [hk]; rfl
   rw [hkey] at hK;exact hK _ () wA trivial
 rintro ⟨⟩ -;refine freezeA 4 _ rfl (KA 0 (KA 3 Keeps.nil)) ?_;refine seqR (S Mv (S NP ?_));refine s0 (fieldP (TK rfl) rfl rfl (TK rfl) rfl rfl) rfl ?_;refine s0 (loadP (v:=.d (Sl.d 2 Z2.c none Sl.nil)) (TK rfl) rfl rfl hc rfl) rfl ?_;refine s0 (makeFunc rfl) rfl ?_;refine s0 (callP rfl rfl (fun H=>Z100_walk (r := -1) (a1:=fun y=>Z35 y (collect_key e)) rfl H (fun _ _ hx=>Z35_walk hx))) rfl ?_;refine S As (nil ?_)
 refine seqK fun K1 hK1=>?_;refine seqR (S Mv (S BI (nil ?_)));refine AWp.condT rfl (by decide) ?_;refine seqR (S Mv (S NP ?_));refine s0 (fieldP (TK rfl) rfl rfl (TK rfl) rfl rfl) rfl ?_;refine s0 (loadP (v:=.d (Sl.d 2 Z2.c none Sl.nil)) (TK rfl) rfl rfl hc rfl) rfl ?_;refine sLen (f:=Z2.c) (s:=Sl.nil) (TK rfl) rfl rfl rfl rfl fun hL=>?_;refine S As (nil ?_);refine AWp.arrO 2 fun id hid=>?_;have hci:c≠id:=fun e=>by rw [<- e,hc] at hid; cases hid
 have hc1:(H.set id (some (.arr 2 []))) c=some (.cells (collect_cells d q on vars (.slice 2 none true []) m)):=by simp only [Heap.set,if_neg hci]; exact hc
 refine AWp.recell c (collect_cells d q on vars (.arr 2 id true 0) m) hc1 (fun j w cs hr ha=>(ha.reSet 9 (x:=.slice 2 none true []) (y:=.arr 2 id true 0) rfl (fun b hb=>nil_arr hr (Heap.set_same ..) hb))) ?_;have hid1:((H.set id (some (.arr 2 []))).set c (some (.cells (collect_cells d q on vars (.arr 2 id true 0) m)))) id=some (.arr 2 (([]:List Z2).map Z2.c)):=by simp [Heap.set,Ne.symm hci]
 have hc2:((H.set id (some (.arr 2 []))).set c (some (.cells (collect_cells d q on vars (.arr 2 id true 0) m)))) c=some (.cells (collect_cells d q on vars (.arr 2 id true 0) m)):=Heap.set_same ..;refine AWp.draw rfl ?_;refine Sd Mv (Sd Mv (Sd NP ?_));refine DOps.s0 (fieldP (TK rfl) rfl rfl (TK rfl) rfl rfl) rfl ?_;refine DOps.s0 (loadP (v:=.d (.arr 2 id true 0)) (TK rfl) rfl rfl hc2 rfl) rfl ?_;refine Sd Ld (Sd BU (Sd BV ?_))
 refine DOps.sH (appR (f:=Z2.c) (s:=Sl.nil) (r:=⟨false,[⟨collect_key e,Sl.nil⟩]⟩) (v:=⟨false,[⟨collect_key e,Sl.nil⟩]⟩) (TK rfl) rfl (TK rfl) (TK rfl) ⟨_,rfl⟩ rfl rfl rfl rfl rfl rfl hid1 rfl rfl rfl) rfl ?_;refine Sd NP ?_;refine DOps.s0 (fieldP (TK rfl) rfl rfl (TK rfl) rfl rfl) rfl ?_;have hc4:(((H.set id (some (.arr 2 []))).set c (some (.cells (collect_cells d q on vars (.arr 2 id true 0) m)))).set id (some (.arr 2 ((⟨false,[⟨collect_key e,Sl.nil⟩]⟩:Sl Z2).l.map Z2.c)))) c=some (Ab.Obj.cells (collect_cells d q on vars (.arr 2 id true 0) m)):=by simp [Heap.set,hci]
 refine DOps.sHn (storeP1 (TK rfl) rfl rfl hc4 rfl (by repeat (first|exact SetAt.zero|apply SetAt.succ))) rfl rfl ?_;refine DOps.nil (by decide +kernel) ?_;refine hK1 _ ?_;clear hK1 K1;obtain⟨H2,hH2⟩:∃x,x=(H.set id (some (.arr 2 (([⟨collect_key e,Sl.nil⟩]:List Z2).map Z2.c)))).set c (some (.cells (collect_cells d q on vars (.arr 2 id false 1) m))):=⟨_,rfl⟩;refine AWp.heqA (h':=H2) ?_ ?_
 ·rw [hH2]
  funext n
  by_cases h1:n=c
  ·subst h1; simp only [Heap.set,if_true]; rfl
  by_cases h2:n=id
  ·subst h2; simp only [Heap.set,if_neg h1,if_true]
  simp only [Heap.set,if_neg h1,if_neg h2]
 have hid2:H2 id=some (.arr 2 (([⟨collect_key e,Sl.nil⟩]:List Z2).map Z2.c)):=by rw [hH2]; simp [Heap.set,Ne.symm hci]
 have hc3:H2 c=some (.cells (collect_cells d q on vars (.arr 2 id false 1) m)):=by rw [hH2]; exact Heap.set_same ..
 refine AWp.draw rfl ?_;refine Sd Mv (Sd NP ?_);refine DOps.s0 (fieldP (TK rfl) rfl rfl (TK rfl) rfl rfl) rfl ?_;refine DOps.s0 (loadP (v:=.d (.arr 2 id false 1)) (TK rfl) rfl rfl hc3 rfl) rfl ?_;refine Sd Mv (Sd Mv (Sd NP ?_));refine DOps.s0 (fieldP (TK rfl) rfl rfl (TK rfl) rfl rfl) rfl ?_;refine DOps.s0 (loadP (v:=.d (.arr 2 id false 1)) (TK rfl) rfl rfl hc3 rfl) rfl ?_;refine Sd Mv ?_;refine DOps.s0 (idxRi (f:=Z2.c) (l:=[⟨collect_key e,Sl.nil⟩]) (TK rfl) rfl (TK rfl) rfl rfl rfl hid2 rfl rfl) rfl ?_
 refine DOps.s0 (fieldR (TK rfl) rfl rfl (TK rfl) rfl rfl) rfl ?_;refine DOps.s0 (loadR (f:=Z2.c) (l:=[⟨collect_key e,Sl.nil⟩]) (i:=0) (o:=1) (v:=.d (Sl.d 8 Z1.c none Sl.nil)) (TK rfl) rfl rfl hid2 rfl rfl rfl rfl) rfl ?_;refine Sd Ld ?_;refine DOps.s0 (buildSliceF (TK rfl) rfl (TK rfl) rfl rfl rfl rfl rfl rfl) rfl ?_;refine DOps.s0 (appendNil (TK rfl) rfl (TK rfl) (TK rfl) (.inl ⟨_,rfl⟩) rfl rfl (by decide) rfl rfl rfl rfl (by simp only [List.length_set,List.length_replicate]; decide) (by simp only [List.length_set,List.length_replicate]; decide)) rfl ?_
 refine DOps.s0 (idxRi (f:=Z2.c) (l:=[⟨collect_key e,Sl.nil⟩]) (TK rfl) rfl (TK rfl) rfl rfl rfl hid2 rfl rfl) rfl ?_;refine DOps.s0 (fieldR (TK rfl) rfl rfl (TK rfl) rfl rfl) rfl ?_;refine DOps.sHn (storeR (f:=Z2.c) (l:=[⟨collect_key e,Sl.nil⟩]) (u:=⟨collect_key e,Sl.nil⟩) (u':=⟨collect_key e,⟨false,[e]⟩⟩) (i:=0) (o:=1) (TK rfl) rfl rfl hid2 rfl rfl rfl rfl (by decide) rfl rfl) rfl rfl ?_;refine DOps.nil (by decide +kernel) ?_
 refine retQ.normal rfl ⟨rfl,id,hid, ?_⟩;rw [hH2]; funext n; simp only [Heap.set]; by_cases h1:n=c<;>by_cases h2:n=id<;>simp_all
set_option maxRecDepth 100000 in
set_option maxHeartbeats 4000000 in
theorem collect_entry_walk {d:TDoc}{q:Z10}{on:Bs}{vars:Z11}{m:D}{e:Z1}{c:Nat}(h3:decide (e.FSel.FKind=(3:Int))=false) (h2:decide (e.FSel.FKind=(2:Int))=false) (hd:e.FSel.FDirs.l=[]) (H:Heap) (hc:H c=some (.cells (collect_cells d q on vars (.slice 2 none true []) m))) :
  AC Tryz.prog 159 [.d (.ptr c 0),.agg (Z1.c e)] H fun v h'=>v=.tup []/\∃id,H id=none/\h'=(H.set id (some (.arr 2 (([⟨collect_key e,⟨false,[e]⟩⟩]:List Z2).map Z2.c)))).set c (some (.cells (collect_cells d q on vars (.arr 2 id false 1) m))):=by
 refine AC.oW 110 [] Tryz.call159 Tryz.func159 ?_;refine seqR (S BX (nil ?_));refine seqK fun K1 hK1=>?_;refine AWp.seqD (Sd Fv (Sd Fv (Sd Ld (Sd Mv (Sd NP ?_)))));refine DOps.s0 (fieldP (TK rfl) rfl rfl (TK rfl) rfl rfl) rfl ?_;refine DOps.s0 (loadP (v:=.agg (Z11.c vars)) (TK rfl) rfl rfl hc rfl) rfl ?_;have hinc:Z31 e.FSel.FDirs vars=some true:=by
  cases hx:e.FSel.FDirs with
  | mk nl l=>rw [hx] at hd; subst hd; rfl
 refine DOps.s0 (callP rfl rfl (fun H=>Z31_walk (w0:=none) hinc H)) rfl ?_;refine Sd NB ?_;refine DOps.nil (by decide +kernel) ?_;refine AWp.condF rfl rfl ?_;refine sk hK1 ?_;clear hK1 K1;refine seqR (S Fv (S Fv (S Ld (nil ?_))));refine block ?_;refine seqR (S BI (S As (nil ?_)));refine AWp.condF rfl h3 ?_;refine seqR (S BI (S As (nil ?_)));refine AWp.condF rfl h2 ?_;refine region ?_;refine S Mv (S Ld ?_)
 refine sE (StepE.call rfl rfl (collect_field_walk _ hc)) rfl (fun v ls' h' hv=>?_);obtain⟨⟨rfl,id,hid,e1⟩,rfl⟩:=hv;refine nil ?_;unfold xBlock;exact retQ.normal rfl ⟨rfl,id,hid,e1⟩
def Z30 (a0:TDoc) (a1:Z10) (a2:Bs) (a3:Sl Z1) (a4:Z11):Option (Sl Z2):=match a3.l with
 | [e]=>bif (decide (e.FSel.FKind=(3:Int))||decide (e.FSel.FKind=(2:Int)))||!e.FSel.FDirs.l.isEmpty then none else some ⟨false,[⟨collect_key e,⟨false,[e]⟩⟩]⟩
 | _=>none
set_option maxRecDepth 100000 in
set_option maxHeartbeats 4000000 in
theorem Z30_walk {a0:TDoc}{a1:Z10}{a2:Bs}{a3:Sl Z1}{a4:Z11}{w3:Option Nat}{r:Sl Z2}(hE:Z30 a0 a1 a2 a3 a4=some r) (H:Heap) :
  AC Tryz.prog 103 [.agg (TDoc.c a0),.agg (Z10.c a1),.d (.str a2),.d (Sl.d 8 Z1.c w3 a3),.agg (Z11.c a4)] H fun v h'=>v=.a (.d (Sl.d 2 Z2.c none r))/\h'=H:=by
 obtain⟨e,hl,h3,h2,hd,hr⟩:∃e,a3.l=[e]/\decide (e.FSel.FKind=(3:Int))=false/\decide (e.FSel.FKind=(2:Int))=false/\e.FSel.FDirs.l=[]/\r=⟨false,[⟨collect_key e,⟨false,[e]⟩⟩]⟩:=by
  unfold Z30 at hE
  split at hE
  ·rename_i e he
   cases hc:((decide (e.FSel.FKind=(3:Int))||decide (e.FSel.FKind=(2:Int)))||!e.FSel.FDirs.l.isEmpty) with
   | true=>rw [hc] at hE; cases hE
   | false =>
    rw [hc] at hE;simp only [Bool.or_eq_false_iff,Bool.not_eq_false'] at hc;exact⟨e,he,hc.1.1,hc.1.2,List.isEmpty_iff.1 hc.2,(oJ hE).symm⟩
  cases hE
 subst hr;refine AC.oW 35 [.tmp 10] Tryz.call103 Tryz.func103 ?_;refine seqR (S BX (S BX (S BX (S As (nil ?_)))));refine seqR (S Ld (S Ld (S Mv (S Ld ?_))));refine sE (StepE.makeMap) rfl (fun _ _ _ ⟨mi,hmi,e1,e2,e3⟩=>?_); subst e1 e2 e3;refine S BU ?_;refine sE (StepE.boxO rfl) rfl (fun _ _ _ ⟨c,hc0,e1,e2,e3⟩=>?_); subst e1 e2 e3;refine S As (nil ?_);have hc:((H.set mi (some (.map []))).set c (some (.cells (collect_cells a0 a1 a2 a4 (.slice 2 none true []) (.map mi))))) c=some (.cells (collect_cells a0 a1 a2 a4 (.slice 2 none true []) (.map mi))):=Heap.set_same ..
 obtain⟨H1,hH1⟩:∃x,x=(H.set mi (some (.map []))).set c (some (.cells (collect_cells a0 a1 a2 a4 (.slice 2 none true []) (.map mi)))):=⟨_,rfl⟩;refine AWp.heqA (h':=H1) hH1.symm ?_;rw [<- hH1] at hc;refine seqK fun K1 hK1=>?_;refine seqR (S Mv ?_);refine sLen (f:=Z1.c) (s:=a3) (TK rfl) rfl rfl rfl rfl fun hL4=>?_;refine S Mv (nil ?_);refine block ?_;refine loopH (TA 11 (TA 21 (TA 22 kN))) (fun(z:Option Nat)=>[(23,.a (.d (.int .i64 (match z with|none=>0|some _=>1))))])
  (fun z=>match z with|none=>H1|some id=>(H1.set id (some (.arr 2 (([⟨collect_key e,⟨false,[e]⟩⟩]:List Z2).map Z2.c)))).set c (some (.cells (collect_cells a0 a1 a2 a4 (.arr 2 id false 1) (.map mi))))) (fun z=>match z with|none=>1|some _=>0) (fun z=>match z with|none=>True|some id=>H1 id=none) none trivial wA ?_
 rintro z hz K5 hK5;cases z with
 | none =>
  refine seqR (S BI (nil ?_));refine seqK fun K7 hK7=>?_;refine AWp.condT rfl (by rw [hl]; rfl) ?_;refine sk hK7 ?_;clear hK7 K7;refine seqK fun K7 hK7=>?_;refine block ?_;refine seqR ?_;refine s0 (idxMn (f:=Z1.c) (n:=0) (TK rfl) rfl (TK rfl) rfl rfl rfl (show a3.l[0]?=some e by rw [hl]; rfl)) rfl ?_;refine S Ld ?_;refine Sl ?_;refine Sf ?_;refine nil ?_;refine freezeA 13 _ rfl (KA 11 (KA 21 (KA 22 (KA 23 Keeps.nil)))) ?_
  refine region ?_;refine S Mv (S Ld ?_);refine sE (StepE.call rfl rfl (collect_entry_walk h3 h2 hd _ hc)) rfl (fun v ls' h' hv=>?_);obtain⟨⟨rfl,id,hid,e1⟩,rfl⟩:=hv;subst e1;refine nil ?_;refine hK7 _ ?_;clear hK7 K7;refine region ?_;refine s0 (addM rfl rfl (r:=1) rfl) rfl ?_;refine S Mv (nil ?_);exact hK5 _ (some id) wA hid (Nat.zero_lt_one)
 | some id =>
  refine seqR (S BI (nil ?_));refine seqK fun K7 hK7=>?_;refine AWp.condF rfl (by rw [hl]; rfl) ?_;refine AWp.exit ?_;have hid:H1 id=none:=hz;have hci:c≠id:=fun e=>by rw [<- e,hc] at hid; cases hid
  refine hK1 _ ?_;refine seqR (S Mv (S NP ?_));refine s0 (fieldP (TK rfl) rfl rfl (TK rfl) rfl rfl) rfl ?_;refine s0 (loadP (v:=.d (.arr 2 id false 1)) (TK rfl) rfl rfl (Heap.set_same ..) rfl) rfl ?_;refine S As (nil ?_);refine AWp.frzR 10 id rfl (Heap.set_other _ _ (Ne.symm hci) |>.trans (Heap.set_same ..)) rfl ?_;refine AWp.ret ?_;refine retQ.retF H rfl ⟨rfl,rfl⟩ ?_;intro k o hk;have k1:k≠mi:=fun e=>by subst e; rw [hmi] at hk; cases hk
  have k2:k≠c:=fun e=>by
   subst e;rw [Heap.set_other _ _ k1,hk] at hc0;cases hc0
  have k3:k≠id:=fun e=>by
   subst e;rw [hH1,Heap.set_other _ _ k2,Heap.set_other _ _ k1,hk] at hid;cases hid
  show (Heap.set (Heap.set (Heap.set H1 id _) c _) id none) k=some o;rw [Heap.set_other _ _ k3,Heap.set_other _ _ k2,Heap.set_other _ _ k3,hH1,Heap.set_other _ _ k2,Heap.set_other _ _ k1];exact hk
def Z99_j2  :Option Int:=some (-1:Int)
def Z99_l6 (a0:(Sl Z1)) (a1:(Z1->Option Bool)) :Nat->Nat->Option Int
 | 0,_=>none
 | n6+1,s8_7=>bif (decide (((s8_7:Nat):Int)<((a0.l.length:Nat):Int))) then((a0.l[s8_7]?).bind fun x14=>(a1 x14).bind fun x15=>bif x15 then(some ((s8_7:Nat):Int)) else((Z99_l6 a0 a1 n6) (s8_7+1))) else(Z99_j2   )
def Z99 (a0:(Sl Z1)) (a1:(Z1->Option Bool)):Option Int:=Z99_l6 a0 a1 (a0.l.length+1) 0
theorem Z99_walk {a0:Sl Z1}{a1:Z1->Option Bool}{w0:Option Nat}{cl1:List D}{k1:Nat}{r:Int}(hE:Z99 a0 a1=some r) (H:Heap) (hf1:∀x0 r,a1 x0=some r->∀H,AC Tryz.prog k1 ([.agg (Z1.c x0)]++cl1.map A.d) H fun v h'=>v=.a (.d (.bool r))/\h'=H):AC Tryz.prog 236 [.d (Sl.d 8 Z1.c w0 a0),.d (.func k1 cl1)] H fun v h'=>v=.a (.d (.int .i64 r))/\h'=H:=by
 unfold Z99 at hE;refine AC.oW 19 [.tmp 4] Tryz.call236 Tryz.func236 ?_;refine seqR (S As (nil ?_));refine seqJH kN (fun(z:Unit)=>[]) (fun z=>H) (fun z=>Z99_j2 =some r) ?_ ?_
 ·intro K2 hK2;refine seqR (S Mv ?_);refine sLen (f:=Z1.c) (s:=a0) (TK rfl) rfl rfl rfl rfl fun hL5=>?_;refine S Mv (nil ?_);refine block ?_;refine loopH (TA 0 (TA 1 (TA 7 kN))) (fun(z:Nat×Nat)=>[(8,.a (.d (.int .i64 ((z.2:Nat):Int))))]) (fun z=>H) (fun z=>z.1) (fun z=>Z99_l6 a0 a1 z.1 z.2=some r) ((a0.l.length+1),0) hE wA ?_;rintro ⟨n6,s8_7⟩ hE K6 hK6;try dsimp only at hE
  cases n6 with
  | zero=>cases hE
  | succ n6 =>
    rw [Z99_l6] at hE;refine seqR (S BI (nil ?_));refine seqK fun K9 hK9=>?_;refine cE hE (fun hc10 hE=>?_) (fun hc10 hE=>?_)
    ·try dsimp only at hc10
     have hf10:=oD hc10;refine sk hK9 ?_;clear hK9 K9;refine seqK fun K11 hK11=>?_;refine block ?_;refine seqR (S Mv (S As (nil ?_)));refine seqR (S Mv (S Mv (S Mv ?_)));obtain⟨x14,gx14,hE⟩:=bO hE;refine S (ix Z1.c s8_7 gx14) (S Ld ?_);obtain⟨x15,gx15,hE⟩:=bO hE;refine s0 (callP rfl rfl (hf1 _ _ gx15)) rfl ?_;refine nil ?_;refine cE hE (fun hc16 hE=>?_) (fun hc16 hE=>?_)
     ·refine seqR (S Mv (S As (nil ?_)));exact rt hE
     refine sk hK11 ?_;clear hK11 K11;refine region ?_;refine SI ?_;refine S Mv (nil ?_);exact hK6 _ (n6,(s8_7+1)) wA hE (nS _)
    refine AWp.exit ?_;exact hK2 _ () wA hE
 rintro _ hE;try dsimp only at hE
 unfold Z99_j2 at hE;refine seqR (S As (nil ?_));exact rt hE
def Z90 (a0:(Sl Z1)) (a1:(Z1->Option Bool)):Option Bool:=(Z99 a0 a1).bind fun x3=>some (decide ((0:Int)<=x3))
theorem Z90_walk {a0:Sl Z1}{a1:Z1->Option Bool}{w0:Option Nat}{cl1:List D}{k1:Nat}{r:Bool}(hE:Z90 a0 a1=some r) (H:Heap) (hf1:∀x0 r,a1 x0=some r->∀H,AC Tryz.prog k1 ([.agg (Z1.c x0)]++cl1.map A.d) H fun v h'=>v=.a (.d (.bool r))/\h'=H):AC Tryz.prog 206 [.d (Sl.d 8 Z1.c w0 a0),.d (.func k1 cl1)] H fun v h'=>v=.a (.d (.bool r))/\h'=H:=by
 unfold Z90 at hE;refine AC.oW 9 [.tmp 4] Tryz.call206 Tryz.func206 ?_;refine seqR (S As (nil ?_));refine seqR (S Mv (S Mv ?_));obtain⟨x3,gx3,hE⟩:=bO hE;refine s0 (callP rfl rfl (fun H=>Z99_walk gx3 H hf1)) rfl ?_;refine S BI (S As (nil ?_));exact rt hE
def Z33 (a0:Z1):Option Bool:=some ((a0.FLabel==([]:Bs)))
theorem Z33_walk {a0:Z1}{r:Bool}(hE:Z33 a0=some r) (H:Heap) :AC Tryz.prog 207 [.agg (Z1.c a0)] H fun v h'=>v=.a (.d (.bool r))/\h'=H:=by
 unfold Z33 at hE;refine AC.oW 6 [.tmp 2] Tryz.call207 Tryz.func207 ?_;refine seqR (S BX (S As (nil ?_)));refine seqR (S Fv (S Ld (S BS (S As (nil ?_)))));exact rt hE
def Z32 (a0:Z2):Option Bs:=guardO (!(decide (((a0.FList.l.length:Nat):Int)=(0:Int)))) (Z90 a0.FList Z33) false fun x5=>bif ((decide (((a0.FList.l.length:Nat):Int)=(0:Int)))||x5) then(some ([]:Bs)) else((a0.FList.l[0]?).bind fun x9=>some x9.FLabel)
theorem Z32_walk {a0:Z2}{r:Bs}(hE:Z32 a0=some r) (H:Heap) :AC Tryz.prog 160 [.agg (Z2.c a0)] H fun v h'=>v=.a (.d (.str r))/\h'=H:=by
 unfold Z32 at hE;refine AC.oW 17 [.tmp 2] Tryz.call160 Tryz.func160 ?_;refine seqR (S BX (S As (nil ?_)));refine seqK fun K2 hK2=>?_;refine seqR (S Fv (S Ld ?_));refine sLen (f:=Z1.c) (s:=a0.FList) (TK rfl) rfl rfl rfl rfl fun hL4=>?_;refine S BI (S Mv (G0 Fv ?_));refine G1 8 rfl Ld ?_;obtain⟨x5,gx5,hE⟩:=gO hE;refine gC rfl rfl (fun hC=>ungdA (k:=9) rfl (callP rfl rfl (fun H=>Z90_walk (gx5 hC) H (fun _ _ hx=>Z33_walk hx)))) rfl ?_
 refine S PO (nil ?_);refine cE hE (fun hc6 hE=>?_) (fun hc6 hE=>?_)
 ·refine seqR (S As (nil ?_));exact rt hE
 refine sk hK2 ?_;clear hK2 K2;refine seqR (S Fv (S Ld ?_));obtain⟨x9,gx9,hE⟩:=bO hE;refine S (ix Z1.c 0 gx9) (S Fv (S Ld (S As (nil ?_))));exact rt hE
end Go.Proofs

namespace Go.Proofs
open Go Go.Ab
open AOps Cert AWp Keeps KeepsT
variable {lou:Lou}
def Z52_j2  :Option Int:=some (-1:Int)
def Z52_j11 (s11_7:Nat) (k_next_6:Nat->Option Int) :Option Int:=k_next_6 (s11_7+1)
def Z52_j21 (s19_17:Nat) (k_next_16:Nat->Option Int) :Option Int:=k_next_16 (s19_17+1)
def Z52_l29 (s19_17:Nat) (x23:TDir) (k_next_16:Nat->Option Int):Nat->Nat->Option Int
 | 0,_=>none
 | n29+1,s29_30=>bif (decide (((s29_30:Nat):Int)<((x23.FArgs.l.length:Nat):Int))) then((x23.FArgs.l[s29_30]?).bind fun x36=>bif ((x36.FName==([105,110,105,116,105,97,108,67,111,117,110,116]:Bs))) then(some (if (0:Int)>x36.FValue.FInt then(0:Int) else x36.FValue.FInt)) else((Z52_l29 s19_17 x23 k_next_16 n29) (s29_30+1))) else(Z52_j21 s19_17 k_next_16 )
def Z52_l16 (s11_7:Nat) (x13:Z1) (k_next_6:Nat->Option Int):Nat->Nat->Option Int
 | 0,_=>none
 | n16+1,s19_17=>bif (decide (((s19_17:Nat):Int)<((x13.FSel.FDirs.l.length:Nat):Int))) then((x13.FSel.FDirs.l[s19_17]?).bind fun x23=>bif (!(x23.FName==([115,116,114,101,97,109]:Bs))) then(Z52_j21 s19_17 ((Z52_l16 s11_7 x13 k_next_6 n16)) ) else(Z52_l29 s19_17 x23 ((Z52_l16 s11_7 x13 k_next_6 n16)) (x23.FArgs.l.length+1) 0)) else(Z52_j11 s11_7 k_next_6 )
def Z52_l6 (a0:(Sl Z1)) :Nat->Nat->Option Int
 | 0,_=>none
 | n6+1,s11_7=>bif (decide (((s11_7:Nat):Int)<((a0.l.length:Nat):Int))) then((a0.l[s11_7]?).bind fun x13=>Z52_l16 s11_7 x13 ((Z52_l6 a0 n6)) (x13.FSel.FDirs.l.length+1) 0) else(Z52_j2   )
def Z52 (a0:(Sl Z1)):Option Int:=Z52_l6 a0 (a0.l.length+1) 0
theorem Z52_walk {a0:Sl Z1}{w0:Option Nat}{r:Int}(hE:Z52 a0=some r) (H:Heap) :AC Tryz.prog 161 [.d (Sl.d 8 Z1.c w0 a0)] H fun v h'=>v=.a (.d (.int .i64 r))/\h'=H:=by
 unfold Z52 at hE;refine AC.oW 43 [.tmp 2] Tryz.call161 Tryz.func161 ?_;refine seqR (S As (nil ?_));refine seqJH kN (fun(z:Unit)=>[]) (fun z=>H) (fun z=>Z52_j2 =some r) ?_ ?_
 ·intro K2 hK2;refine seqR (S Mv ?_);refine sLen (f:=Z1.c) (s:=a0) (TK rfl) rfl rfl rfl rfl fun hL5=>?_;refine S Mv (nil ?_);refine block ?_;refine loopH (TA 9 (TA 10 kN)) (fun(z:Nat×Nat)=>[(11,.a (.d (.int .i64 ((z.2:Nat):Int))))]) (fun z=>H) (fun z=>z.1) (fun z=>Z52_l6 a0 z.1 z.2=some r) ((a0.l.length+1),0) hE wA ?_;rintro ⟨n6,s11_7⟩ hE K6 hK6;try dsimp only at hE
  cases n6 with
  | zero=>cases hE
  | succ n6 =>
    rw [Z52_l6] at hE;refine seqR (S BI (nil ?_));refine seqK fun K9 hK9=>?_;refine cE hE (fun hc10 hE=>?_) (fun hc10 hE=>?_)
    ·try dsimp only at hc10
     have hf10:=oD hc10;refine sk hK9 ?_;clear hK9 K9;refine seqJH (TA 9 (TA 10 (TA 11 kN))) (fun(z:Unit)=>[]) (fun z=>H) (fun z=>Z52_j11 s11_7 ((Z52_l6 a0 n6)) =some r) ?_ ?_
     ·intro K11 hK11;refine block ?_;refine seqR ?_;obtain⟨x13,gx13,hE⟩:=bO hE;refine S (ix Z1.c s11_7 gx13) (S Ld ?_);refine Sl ?_;refine Sf ?_;refine nil ?_;refine freezeA 4 _ rfl (KA 9 (KA 10 (KA 11 Keeps.nil))) ?_;refine seqR (S Fv (S Fv (S Ld ?_)));refine sLen (f:=TDir.c) (s:=x13.FSel.FDirs) (TK rfl) rfl rfl rfl rfl fun hL15=>?_;refine S Mv (nil ?_);refine block ?_;refine loopH (TA 9 (TA 10 (TA 11 (TA 17 (TA 18 kN))))) (fun(z:Nat×Nat)=>[(19,.a (.d (.int .i64 ((z.2:Nat):Int))))]) (fun z=>H) (fun z=>z.1) (fun z=>Z52_l16 s11_7 x13 ((Z52_l6 a0 n6)) z.1 z.2=some r) ((x13.FSel.FDirs.l.length+1),0) hE wA ?_
      rintro ⟨n16,s19_17⟩ hE K16 hK16;try dsimp only at hE
      cases n16 with
      | zero=>cases hE
      | succ n16 =>
        rw [Z52_l16] at hE;refine seqR (S BI (nil ?_));refine seqK fun K19 hK19=>?_;refine cE hE (fun hc20 hE=>?_) (fun hc20 hE=>?_)
        ·try dsimp only at hc20
         have hf20:=oD hc20;refine sk hK19 ?_;clear hK19 K19;refine seqJH (TA 9 (TA 10 (TA 11 (TA 17 (TA 18 (TA 19 kN)))))) (fun(z:Unit)=>[]) (fun z=>H) (fun z=>Z52_j21 s19_17 ((Z52_l16 s11_7 x13 ((Z52_l6 a0 n6)) n16)) =some r) ?_ ?_
         ·intro K21 hK21;refine block ?_;refine seqR ?_;obtain⟨x23,gx23,hE⟩:=bO hE;refine S (ix TDir.c s19_17 gx23) (S Ld ?_);refine Sl ?_;refine Sf ?_;refine nil ?_;refine freezeA 6 _ rfl (KA 9 (KA 10 (KA 11 (KA 17 (KA 18 (KA 19 Keeps.nil)))))) ?_;refine seqK fun K24 hK24=>?_;refine seqR (S Fv (S Ld (S BS (nil ?_))));refine cE hE (fun hc26 hE=>?_) (fun hc26 hE=>?_)
          ·refine AWp.exit ?_;exact hK21 _ () wA hE
          refine sk hK24 ?_;clear hK24 K24;refine seqR (S Fv (S Ld ?_));refine sLen (f:=TArg.c) (s:=x23.FArgs) (TK rfl) rfl rfl rfl rfl fun hL28=>?_;refine S Mv (nil ?_);refine block ?_;refine loopH (TA 9 (TA 10 (TA 11 (TA 17 (TA 18 (TA 19 (TA 27 (TA 28 kN)))))))) (fun(z:Nat×Nat)=>[(29,.a (.d (.int .i64 ((z.2:Nat):Int))))]) (fun z=>H) (fun z=>z.1) (fun z=>Z52_l29 s19_17 x23 ((Z52_l16 s11_7 x13 ((Z52_l6 a0 n6)) n16)) z.1 z.2=some r) ((x23.FArgs.l.length+1),0) hE wA ?_
          rintro ⟨n29,s29_30⟩ hE K29 hK29;try dsimp only at hE
          cases n29 with
          | zero=>cases hE
          | succ n29 =>
            rw [Z52_l29] at hE;refine seqR (S BI (nil ?_));refine seqK fun K32 hK32=>?_;refine cE hE (fun hc33 hE=>?_) (fun hc33 hE=>?_)
            ·try dsimp only at hc33
             have hf33:=oD hc33;refine sk hK32 ?_;clear hK32 K32;refine seqK fun K34 hK34=>?_;refine block ?_;refine seqR ?_;obtain⟨x36,gx36,hE⟩:=bO hE;refine S (ix TArg.c s29_30 gx36) (S Ld ?_);refine Sl ?_;refine Sf ?_;refine nil ?_;refine freezeA 8 _ rfl (KA 9 (KA 10 (KA 11 (KA 17 (KA 18 (KA 19 (KA 27 (KA 28 (KA 29 Keeps.nil))))))))) ?_;refine seqR (S Fv (S Ld (S BS (nil ?_))));refine cE hE (fun hc38 hE=>?_) (fun hc38 hE=>?_)
             ·refine seqR (S Fv (S Fv (S Ld ?_)));refine s0 (maxM rfl rfl) rfl ?_;refine S As (nil ?_);exact rt hE
             refine sk hK34 ?_;clear hK34 K34;refine region ?_;refine SI ?_;refine S Mv (nil ?_);exact hK29 _ (n29,(s29_30+1)) wA hE (nS _)
            refine AWp.exit ?_;exact hK21 _ () wA hE
         rintro _ hE;try dsimp only at hE
         unfold Z52_j21 at hE;refine region ?_;refine SI ?_;refine S Mv (nil ?_);exact hK16 _ (n16,(s19_17+1)) wA hE (nS _)
        refine AWp.exit ?_;exact hK11 _ () wA hE
     rintro _ hE;try dsimp only at hE
     unfold Z52_j11 at hE;refine region ?_;refine SI ?_;refine S Mv (nil ?_);exact hK6 _ (n6,(s11_7+1)) wA hE (nS _)
    refine AWp.exit ?_;exact hK2 _ () wA hE
 rintro _ hE;try dsimp only at hE
 unfold Z52_j2 at hE;refine seqR (S As (nil ?_));exact rt hE
def Z20_j2  (y3_l0:Z11):Option (Z11×Bool):=some ((Z11.mk (0:Int) (0:Int) ([]:Bs) true ([]) (Sl.nil:Sl Bs)),false)
def Z20_l7 (a0:(Sl TArg)) (a1:Bs) :Nat->Nat->Z11->Option (Z11×Bool)
 | 0,_,_=>none
 | n7+1,s10_8,y9_l0=>bif (decide (((s10_8:Nat):Int)<((a0.l.length:Nat):Int))) then((a0.l[s10_8]?).bind fun x15=>bif ((x15.FName==a1)) then(some (x15.FValue,true)) else((Z20_l7 a0 a1 n7) (s10_8+1) y9_l0)) else(Z20_j2   y9_l0)
def Z20 (a0:(Sl TArg)) (a1:Bs):Option (Z11×Bool):=Z20_l7 a0 a1 (a0.l.length+1) 0 Z11.zero
theorem Z20_walk {a0:Sl TArg}{a1:Bs}{w0:Option Nat}{r:Z11×Bool}(hE:Z20 a0 a1=some r) (H:Heap) :AC Tryz.prog 208 [.d (Sl.d 6 TArg.c w0 a0),.d (.str a1)] H fun v h'=>v=.tup [.agg (Z11.c r.1),.d (.bool r.2)]/\h'=H:=by
 unfold Z20 at hE;refine AC.oW 22 [.cell 4 58,.tmp 5] Tryz.call208 Tryz.func208 ?_;refine seqR ?_;refine Sl ?_;refine S As (nil ?_);refine seqJ (TA 4 kN) (fun(z:Z11)=>[]) (fun z=>[Z11.c z]) (fun z=>H) (fun z=>Z20_j2 z=some r) ?_ ?_
 ·intro K2 hK2;refine seqR (S Mv ?_);refine sLen (f:=TArg.c) (s:=a0) (TK rfl) rfl rfl rfl rfl fun hL6=>?_;refine S Mv (nil ?_);refine block ?_;refine loopO (TA 1 (TA 4 (TA 8 (TA 9 kN)))) (fun(z:Nat×Nat×Z11)=>[(10,.a (.d (.int .i64 ((z.2.1:Nat):Int))))]) (fun z=>[Z11.c z.2.2]) (fun z=>H) (fun z=>z.1) (fun z=>Z20_l7 a0 a1 z.1 z.2.1 z.2.2=some r) ((a0.l.length+1),0,Z11.zero) hE wA ?_;rintro ⟨n7,s10_8,y9_l0⟩ hE K7 hK7
  try dsimp only at hE
  cases n7 with
  | zero=>cases hE
  | succ n7 =>
    rw [Z20_l7] at hE;refine seqR (S BI (nil ?_));refine seqK fun K11 hK11=>?_;refine cE hE (fun hc12 hE=>?_) (fun hc12 hE=>?_)
    ·try dsimp only at hc12
     have hf12:=oD hc12;refine sk hK11 ?_;clear hK11 K11;refine seqK fun K13 hK13=>?_;refine block ?_;refine seqR ?_;obtain⟨x15,gx15,hE⟩:=bO hE;refine S (ix TArg.c s10_8 gx15) (S Ld ?_);refine Sl ?_;refine Sf ?_;refine nil ?_;refine freezeA 7 _ rfl (KA 1 (KA 4 (KA 8 (KA 9 (KA 10 Keeps.nil))))) ?_;refine seqR (S Fv (S Ld (S Mv (S BS (nil ?_)))));refine cE hE (fun hc17 hE=>?_) (fun hc17 hE=>?_)
     ·refine seqR (S Fv (S Ld ?_));refine Sf ?_;refine S As (nil ?_);exact rt hE
     refine sk hK13 ?_;clear hK13 K13;refine region ?_;refine SI ?_;refine S Mv (nil ?_);exact hK7 _ (n7,(s10_8+1),y9_l0) wA hE (nS _)
    refine AWp.exit ?_;exact hK2 _ y9_l0 wA hE
 rintro y3_l0 hE;try dsimp only at hE
 unfold Z20_j2 at hE;refine seqR (S BU ?_);refine Sf ?_;refine S As (nil ?_);exact rt hE
def Z18 (a0:TDoc) (a1:TRef) (a2:Z11) (a3:Z11):Option (Z11×Int):=(Z24 (Z0.mk a0 a3 true (0:Int)) a2).bind fun x6=>bif x6 then((Z81 a0 a1.FName).bind fun x10=>bif (!x10) then(some ((Z11.mk (0:Int) (0:Int) ([]:Bs) true ([]) (Sl.nil:Sl Bs)),(10:Int))) else(some ((Z11.mk (0:Int) (0:Int) ([]:Bs) true ([]) (Sl.nil:Sl Bs)),(8:Int)))) else((coerce_coercer_at (Z0.mk a0 a3 true (0:Int)) a1 a2 (1:Int)).bind fun x15=>(Z28 x15.1 x15.2.1).bind fun x16=>some (x16.1,x16.2))
theorem Z18_walk {a0:TDoc}{a1:TRef}{a2 a3:Z11}{oT:Ab.Obj}{gT:Nat}{r:Z11×Int}(hE:Z18 a0 a1 a2 a3=some r) (H:Heap) (hgT:H gT=some oT) (hoT:IsTab Tryz.prog oT):AC Tryz.prog 210 [.agg (TDoc.c a0),.agg (TRef.c a1),.agg (Z11.c a2),.agg (Z11.c a3)] H fun v h'=>v=.tup [.agg (Z11.c r.1),.d (.int .i64 r.2)]/\h'=H:=by
 unfold Z18 at hE;refine AC.oW 34 [.cell 8 58,.tmp 9] Tryz.call210 Tryz.func210 ?_;refine seqR (S BX (S BX (S BX (S BX ?_))));refine Sl ?_;refine S As (nil ?_);refine seqR (S Ld (S Ld (S BU ?_)));refine sE (StepE.boxO rfl) rfl (fun _ _ _ ⟨id14_3,hid14_3,e1,e2,e3⟩=>?_); subst e1 e2 e3;have ne_id14_3_gT:id14_3≠gT:=fun e_=>by subst e_; simp_all
 refine hq (H.set id14_3 (some (.cells (Z0.c (Z0.mk a0 a3 true (0:Int)))))) ?_;refine S As (nil ?_);refine seqK fun K4 hK4=>?_;refine seqR (S Mv (S Ld ?_));obtain⟨x6,gx6,hE⟩:=bO hE;refine s0 (callR rfl rfl (Z24_walk gx6 _ hpG)) rfl ?_;refine nil ?_;refine cE hE (fun hc7 hE=>?_) (fun hc7 hE=>?_)
 ·refine seqK fun K8 hK8=>?_;refine seqR (S Ld (S Fv (S Ld ?_)));obtain⟨x10,gx10,hE⟩:=bO hE;refine Sc rfl rfl (Z81_walk gx10) ?_;refine S NB (nil ?_);refine cE hE (fun hc11 hE=>?_) (fun hc11 hE=>?_)
  ·refine seqR (S BU ?_);refine Sf ?_;refine S As (nil ?_);refine AWp.ret ?_;repeat (first|refine xBlock_ret ?_|refine xThen_ret ?_)
   obtain rfl:=oJ hE;refine retQ.retF H rfl ⟨rfl,rfl⟩ ?_
   first|exact Heap.sub_set hid14_3|(simp only [Heap.set_set]; exact Heap.sub_set hid14_3)
  refine sk hK8 ?_;clear hK8 K8;refine seqR (S BU ?_);refine Sf ?_;refine S As (nil ?_);refine AWp.ret ?_;repeat (first|refine xBlock_ret ?_|refine xThen_ret ?_)
  obtain rfl:=oJ hE;refine retQ.retF H rfl ⟨rfl,rfl⟩ ?_
  first|exact Heap.sub_set hid14_3|(simp only [Heap.set_set]; exact Heap.sub_set hid14_3)
 refine sk hK4 ?_;clear hK4 K4;refine seqR (S Mv (S Ld (S Ld ?_)));obtain⟨x15,gx15,hE⟩:=bO hE;refine sH (callH rfl rfl (coerce_coercer_at_walk (gT:=gT) (oT:=oT) gx15 _ hpG hpG (by assumption))) rfl ?_;refine hq (H.set id14_3 (some (.cells (Z0.c x15.2.2)))) ?_;refine S EX (S EX ?_);obtain⟨x16,gx16,hE⟩:=bO hE;refine Sc rfl rfl (Z28_walk gx16) ?_;refine S EX (S EX ?_);refine Sf ?_;refine S As (nil ?_)
 refine AWp.ret ?_;repeat (first|refine xBlock_ret ?_|refine xThen_ret ?_)
 obtain rfl:=oJ hE;refine retQ.retF H rfl ⟨rfl,rfl⟩ ?_
 first|exact Heap.sub_set hid14_3|(simp only [Heap.set_set]; exact Heap.sub_set hid14_3)
def Z16_j6  (s17_7:(Sl TArg)):Option ((Sl TArg)×Int):=some (s17_7,(0:Int))
def Z16_j17 (s60_13:Nat) (k_next_11:(Sl TArg)->Nat->Option ((Sl TArg)×Int)) (s17_18:(Sl TArg)):Option ((Sl TArg)×Int):=k_next_11 s17_18 (s60_13+1)
def Z16_j30 (s17_12:(Sl TArg)) (s60_13:Nat) (x20:Z6) (k_next_11:(Sl TArg)->Nat->Option ((Sl TArg)×Int)) (s24_31:Int) (y32_l0:Z11):Option ((Sl TArg)×Int):=bif (!decide (s24_31=(0:Int))) then(some ((Sl.nil:Sl TArg),s24_31)) else((appC 96 s17_12 (⟨false,[(TArg.mk x20.FName y32_l0)]⟩:Sl TArg)).bind fun x37=>Z16_j17 s60_13 k_next_11 x37)
def Z16_l11 (a0:TDoc) (a1:(Sl Z6)) (a2:(Sl TArg)) (a3:Z11) :Nat->(Sl TArg)->Nat->Option ((Sl TArg)×Int)
 | 0,_,_=>none
 | n11+1,s17_12,s60_13=>bif (decide (((s60_13:Nat):Int)<((a1.l.length:Nat):Int))) then((a1.l[s60_13]?).bind fun x20=>(partC a1 none (some ((s60_13:Nat):Int))).bind fun x23=>(Z80 x23 x20.FName).bind fun x24=>bif x24.2 then(Z16_j17 s60_13 ((Z16_l11 a0 a1 a2 a3 n11)) s17_12) else((Z20 a2 x20.FName).bind fun x28=>guardO (x28.2) (Z24 (Z0.mk a0 a3 true (0:Int)) x28.1) false fun x39=>bif (x28.2&&(!x39)) then((Z18 a0 x20.FType x28.1 a3).bind fun x41=>Z16_j30 s17_12 s60_13 x20 ((Z16_l11 a0 a1 a2 a3 n11)) x41.2 x41.1) else(bif x20.FHas then((Z18 a0 x20.FType x20.FDefault (Z11.mk (0:Int) (0:Int) ([]:Bs) true ([]) (Sl.nil:Sl Bs))).bind fun x44=>Z16_j30 s17_12 s60_13 x20 ((Z16_l11 a0 a1 a2 a3 n11)) x44.2 x44.1) else((Z119 x20.FType).bind fun x46=>bif x46 then(Z16_j30 s17_12 s60_13 x20 ((Z16_l11 a0 a1 a2 a3 n11)) (22:Int) x28.1) else(Z16_j17 s60_13 ((Z16_l11 a0 a1 a2 a3 n11)) s17_12))))) else(Z16_j6   s17_12)
def Z16_j2 (a0:TDoc) (a1:(Sl Z6)) (a2:(Sl TArg)) (a3:Z11)  :Option ((Sl TArg)×Int):=Z16_l11 a0 a1 a2 a3 (a1.l.length+1) (Sl.nil:Sl TArg) 0
def Z16_l50 (a0:TDoc) (a1:(Sl Z6)) (a2:(Sl TArg)) (a3:Z11) :Nat->Nat->Option ((Sl TArg)×Int)
 | 0,_=>none
 | n50+1,s27_51=>bif (decide (((s27_51:Nat):Int)<((a2.l.length:Nat):Int))) then((a2.l[s27_51]?).bind fun x57=>(Z80 a1 x57.FName).bind fun x59=>(partC a2 none (some ((s27_51:Nat):Int))).bind fun x61=>(Z20 x61 x57.FName).bind fun x62=>bif ((!x59.2)||x62.2) then(some ((Sl.nil:Sl TArg),(22:Int))) else((Z16_l50 a0 a1 a2 a3 n50) (s27_51+1))) else(Z16_j2 a0 a1 a2 a3  )
def Z16 (a0:TDoc) (a1:(Sl Z6)) (a2:(Sl TArg)) (a3:Z11):Option ((Sl TArg)×Int):=Z16_l50 a0 a1 a2 a3 (a2.l.length+1) 0
theorem Z16_walk {a0:TDoc}{a1:Sl Z6}{a2:Sl TArg}{a3:Z11}{w1 w2:Option Nat}{oT:Ab.Obj}{gT:Nat}{r:((Sl TArg)×Int)}(hE:Z16 a0 a1 a2 a3=some r) (H:Heap) (hgT:H gT=some oT) (hoT:IsTab Tryz.prog oT):AC Tryz.prog 163 [.agg (TDoc.c a0),.d (Sl.d 10 Z6.c w1 a1),.d (Sl.d 6 TArg.c w2 a2),.agg (Z11.c a3)] H fun v h'=>v=.tup [.d (Sl.d 6 TArg.c none r.1),.d (.int .i64 r.2)]/\h'=H:=by
 unfold Z16 at hE;refine AC.oW 128 [.tmp 8,.tmp 9] Tryz.call163 Tryz.func163 ?_;refine AWp.tok 6 fun tk1 htk1=>?_;have ne_tk1_gT:tk1≠gT:=fun e_=>by subst e_; simp_all
 refine seqR (S BX (S BX ?_));refine s0 (assignNil (k':=6) rfl) rfl ?_;refine S As (nil ?_);refine seqJH (TA 1 (TA 2 (TA 4 (TA 7 kN)))) (fun(z:Unit)=>[]) (fun z=>(H.set tk1 (some (.tok 6 0)))) (fun z=>Z16_j2 a0 a1 a2 a3 =some r) ?_ ?_
 ·intro K2 hK2;refine seqR (S Mv ?_);refine sLen (f:=TArg.c) (s:=a2) (TK rfl) rfl rfl rfl rfl fun hL49=>?_;refine S Mv (nil ?_);refine block ?_;refine loopH (TA 1 (TA 2 (TA 4 (TA 7 (TA 25 (TA 26 kN)))))) (fun(z:Nat×Nat)=>[(27,.a (.d (.int .i64 ((z.2:Nat):Int))))]) (fun z=>(H.set tk1 (some (.tok 6 0)))) (fun z=>z.1) (fun z=>Z16_l50 a0 a1 a2 a3 z.1 z.2=some r) ((a2.l.length+1),0) hE wA ?_
  rintro ⟨n50,s27_51⟩ hE K50 hK50;try dsimp only at hE
  cases n50 with
  | zero=>cases hE
  | succ n50 =>
    rw [Z16_l50] at hE;refine seqR (S BI (nil ?_));refine seqK fun K53 hK53=>?_;refine cE hE (fun hc54 hE=>?_) (fun hc54 hE=>?_)
    ·try dsimp only at hc54
     have hf54:=oD hc54;refine sk hK53 ?_;clear hK53 K53;refine seqK fun K55 hK55=>?_;refine block ?_;refine seqR (S Mv ?_);obtain⟨x57,gx57,hE⟩:=bO hE;refine S (ix TArg.c s27_51 gx57) (S Ld ?_);refine Sl ?_;refine S As ?_;refine Sf ?_;refine nil ?_;refine freezeA 11 _ rfl (KA 1 (KA 2 (KA 4 (KA 7 (KA 10 (KA 25 (KA 26 (KA 27 Keeps.nil)))))))) ?_;refine seqR (S Mv (S Fv (S Ld ?_)));obtain⟨x59,gx59,hE⟩:=bO hE
     refine Sc rfl rfl (Z80_walk gx59) ?_;refine S Mv (S EX (S EX ?_));refine Sl ?_;refine Sf ?_;refine S As (nil ?_);refine freezeA 12 _ rfl (KA 1 (KA 2 (KA 4 (KA 7 (KA 10 (KA 11 (KA 13 (KA 25 (KA 26 (KA 27 Keeps.nil)))))))))) ?_;refine AWp.seqD (Sd Mv (Sd Mv ?_));obtain⟨x61,gx61,hE⟩:=bO hE;refine DOps.s0 (partM (f:=TArg.c) (l:=none) (r:=(some ((s27_51:Nat):Int))) (TK rfl) rfl (TK rfl) rfl rfl trivial rfl gx61) rfl ?_
     refine Sd Fv (Sd Ld ?_);obtain⟨x62,gx62,hE⟩:=bO hE;refine Scd rfl rfl (Z20_walk gx62) ?_;refine Sd Mv (Sd EX (Sd EX ?_));refine DOps.sB (TK rfl) rfl rfl ?_ (by repeat (first|exact Snoc.nil|apply Snoc.cons));refine DOps.sLn (storeLFA (TK rfl) rfl rfl rfl rfl rfl) ?_;refine Sd As ?_;refine DOps.nil (by decide +kernel) ?_;refine freezeA 14 _ rfl (KA 1 (KA 2 (KA 4 (KA 7 (KA 13 (KA 15 (KA 25 (KA 26 (KA 27 Keeps.nil))))))))) ?_
     refine seqR (S Mv (S NB (S Mv (G0 Mv (S PO (nil ?_))))));refine cE hE (fun hc64 hE=>?_) (fun hc64 hE=>?_)
     ·refine seqR ?_;refine s0 (assignNil (k':=6) rfl) rfl ?_;refine S As (nil ?_);refine AWp.ret ?_;repeat (first|refine xBlock_ret ?_|refine xThen_ret ?_)
      obtain rfl:=oJ hE;refine retQ.retF H rfl ⟨rfl,rfl⟩ ?_
      first|exact Heap.sub_set htk1|(simp only [Heap.set_set]; exact Heap.sub_set htk1)
     refine sk hK55 ?_;clear hK55 K55;refine region ?_;refine SI ?_;refine S Mv (nil ?_);exact hK50 _ (n50,(s27_51+1)) wA hE (nS _)
    refine AWp.exit ?_;exact hK2 _ () wA hE
 rintro _ hE;try dsimp only at hE
 unfold Z16_j2 at hE;refine seqR (S Ld (S Ld (S BU ?_)));refine sE (StepE.boxO rfl) rfl (fun _ _ _ ⟨id57_4,hid57_4,e1,e2,e3⟩=>?_); subst e1 e2 e3;obtain⟨ne_id57_4_tk1,hid57_4⟩:=Heap.set_fresh hid57_4;have ne_id57_4_gT:id57_4≠gT:=fun e_=>by subst e_; simp_all
 refine hq ((H.set tk1 (some (.tok 6 0))).set id57_4 (some (.cells (Z0.c (Z0.mk a0 a3 true (0:Int)))))) ?_;refine S As (nil ?_);refine seqR (S As (nil ?_));refine AWp.nilTok 17 6 tk1 rfl hpG ?_;refine seqJH kN (fun(z:(Sl TArg))=>[(17,.a (.d (Sl.d 6 TArg.c (some tk1) z)))]) (fun z=>((H.set tk1 (some (.tok 6 z.l.length))).set id57_4 (some (.cells (Z0.c (Z0.mk a0 a3 true (0:Int))))))) (fun z=>Z16_j6 z=some r) ?_ ?_
 ·intro K6 hK6;refine seqR (S Mv ?_);refine sLen (f:=Z6.c) (s:=a1) (TK rfl) rfl rfl rfl rfl fun hL10=>?_;refine S Mv (nil ?_);refine block ?_;refine loopH (TA 1 (TA 2 (TA 4 (TA 7 (TA 16 (TA 58 (TA 59 kN))))))) (fun(z:Nat×(Sl TArg)×Nat)=>[(17,.a (.d (Sl.d 6 TArg.c (some tk1) z.2.1))),(60,.a (.d (.int .i64 ((z.2.2:Nat):Int))))]) (fun z=>((H.set tk1 (some (.tok 6 z.2.1.l.length))).set id57_4 (some (.cells (Z0.c (Z0.mk a0 a3 true (0:Int))))))) (fun z=>z.1) (fun z=>Z16_l11 a0 a1 a2 a3 z.1 z.2.1 z.2.2=some r) ((a1.l.length+1),(Sl.nil:Sl TArg),0) hE wA ?_
  rintro ⟨n11,s17_12,s60_13⟩ hE K11 hK11;try dsimp only at hE
  cases n11 with
  | zero=>cases hE
  | succ n11 =>
    rw [Z16_l11] at hE;refine seqR (S BI (nil ?_));refine seqK fun K15 hK15=>?_;refine cE hE (fun hc16 hE=>?_) (fun hc16 hE=>?_)
    ·try dsimp only at hc16
     have hf16:=oD hc16;refine sk hK15 ?_;clear hK15 K15;refine seqJH (TA 1 (TA 2 (TA 4 (TA 7 (TA 16 (TA 58 (TA 59 (TA 60 kN)))))))) (fun(z:(Sl TArg))=>[(17,.a (.d (Sl.d 6 TArg.c (some tk1) z)))]) (fun z=>((H.set tk1 (some (.tok 6 z.l.length))).set id57_4 (some (.cells (Z0.c (Z0.mk a0 a3 true (0:Int))))))) (fun z=>Z16_j17 s60_13 ((Z16_l11 a0 a1 a2 a3 n11)) z=some r) ?_ ?_
     ·intro K17 hK17;refine block ?_;refine seqR (S Mv ?_);obtain⟨x20,gx20,hE⟩:=bO hE;refine S (ix Z6.c s60_13 gx20) (S Ld ?_);refine Sl ?_;refine S As ?_;refine Sf ?_;refine nil ?_;refine freezeA 19 _ rfl (KA 1 (KA 2 (KA 4 (KA 7 (KA 16 (KA 17 (KA 18 (KA 58 (KA 59 (KA 60 Keeps.nil)))))))))) ?_;refine seqK fun K21 hK21=>?_;refine AWp.seqD (Sd Mv (Sd Mv ?_));obtain⟨x23,gx23,hE⟩:=bO hE;refine DOps.s0 (partM (f:=Z6.c) (l:=none) (r:=(some ((s60_13:Nat):Int))) (TK rfl) rfl (TK rfl) rfl rfl trivial rfl gx23) rfl ?_
      refine Sd Fv (Sd Ld ?_);obtain⟨x24,gx24,hE⟩:=bO hE;refine Scd rfl rfl (Z80_walk gx24) ?_;refine Sd Mv (Sd EX (Sd EX ?_));refine DOps.sB (TK rfl) rfl rfl ?_ (by repeat (first|exact Snoc.nil|apply Snoc.cons));refine DOps.sLn (storeLFA (TK rfl) rfl rfl rfl rfl rfl) ?_;refine Sd As ?_;refine DOps.nil (by decide +kernel) ?_;refine freezeA 20 _ rfl (KA 1 (KA 2 (KA 4 (KA 7 (KA 16 (KA 17 (KA 19 (KA 21 (KA 58 (KA 59 (KA 60 Keeps.nil))))))))))) ?_
      refine seqR (S Mv (nil ?_));refine cE hE (fun hc26 hE=>?_) (fun hc26 hE=>?_)
      ·refine AWp.exit ?_;exact hK17 _ s17_12 wA hE
      refine sk hK21 ?_;clear hK21 K21;refine seqR (S Mv (S Fv (S Ld ?_)));obtain⟨x28,gx28,hE⟩:=bO hE;refine Sc rfl rfl (Z20_walk gx28) ?_;refine S Mv (S EX (S EX ?_));refine Sl ?_;refine Sf ?_;refine S As (nil ?_);refine seqR (S As (nil ?_));refine seqJ (TA 1 (TA 2 (TA 4 (TA 7 (TA 16 (TA 17 (TA 19 (TA 22 (TA 58 (TA 59 (TA 60 kN))))))))))) (fun(z:Int×Z11)=>[(24,.a (.d (.int .i64 z.1)))]) (fun z=>[Z11.c z.2]) (fun z=>((H.set tk1 (some (.tok 6 s17_12.l.length))).set id57_4 (some (.cells (Z0.c (Z0.mk a0 a3 true (0:Int))))))) (fun z=>Z16_j30 s17_12 s60_13 x20 ((Z16_l11 a0 a1 a2 a3 n11)) z.1 z.2=some r) ?_ ?_
      ·intro K30 hK30;refine block ?_;refine seqR (S Mv (S Mv (G0 Mv (G0 LL ?_))));obtain⟨x39,gx39,hE⟩:=gO hE;refine gC rfl rfl (fun hC=>ungdA (k:=85) rfl (ungdA (k:=86) rfl (callR rfl rfl (Z24_walk (gx39 hC) _ hpG)))) rfl ?_;refine G1 87 rfl NB ?_;refine S PA (S As (nil ?_));refine cE hE (fun hc40 hE=>?_) (fun hc40 hE=>?_)
       ·refine region ?_;refine S Ld (S Fv (S Ld (S LL (S Ld ?_))));obtain⟨x41,gx41,hE⟩:=bO hE;refine s0 (callR rfl rfl (Z18_walk (gT:=gT) (oT:=oT) gx41 _ hpG (by assumption))) rfl ?_;refine S Mv (S EX (S EX ?_));refine Sf ?_;refine S As (nil ?_);exact hK30 _ (x41.2,x41.1) wA hE
       refine seqR (S Fv (S Ld (S As (nil ?_))));refine cE hE (fun hc43 hE=>?_) (fun hc43 hE=>?_)
       ·refine region ?_;refine S Ld (S Fv (S Ld (S Fv (S Ld (S BU ?_)))));obtain⟨x44,gx44,hE⟩:=bO hE;refine s0 (callR rfl rfl (Z18_walk (gT:=gT) (oT:=oT) gx44 _ hpG (by assumption))) rfl ?_;refine S Mv (S EX (S EX ?_));refine Sf ?_;refine S As (nil ?_);exact hK30 _ (x44.2,x44.1) wA hE
       refine seqR (S Fv (S Ld ?_));obtain⟨x46,gx46,hE⟩:=bO hE;refine Sc rfl rfl (Z119_walk gx46) ?_;refine S As (nil ?_);refine cE hE (fun hc47 hE=>?_) (fun hc47 hE=>?_)
       ·refine region ?_;refine S As (nil ?_);exact hK30 _ ((22:Int),x28.1) wA hE
       refine AWp.exit ?_;exact hK17 _ s17_12 wA hE
      rintro ⟨s24_31,y32_l0⟩ hE;try dsimp only at hE
      unfold Z16_j30 at hE;refine seqK fun K33 hK33=>?_;refine seqR (S Mv (S BI (nil ?_)));refine cE hE (fun hc35 hE=>?_) (fun hc35 hE=>?_)
      ·refine seqR (S Mv ?_);refine s0 (assignNil (k':=6) rfl) rfl ?_;refine S As (nil ?_);refine AWp.ret ?_;repeat (first|refine xBlock_ret ?_|refine xThen_ret ?_)
       obtain rfl:=oJ hE;refine retQ.retF H rfl ⟨rfl,rfl⟩ ?_;intro id_ o_ he_;have e_tk1:id_≠tk1:=fun e_=>by subst e_; simp_all [Heap.set]
       have e_id57_4:id_≠id57_4:=fun e_=>by subst e_; simp_all [Heap.set]
       rw [<- he_];simp only [Heap.set] at he_ ⊢
       (repeat' split)<;>simp_all
      refine sk hK33 ?_;clear hK33 K33;refine region ?_;refine S Mv (S Fv (S Ld (S LL (S BU (S BV ?_)))));obtain⟨x37,gx37,hE⟩:=bO hE;refine SH (am TArg.c (TK rfl) rfl (TK rfl) (TK rfl) gx37) ?_;refine hq ((H.set tk1 (some (.tok 6 x37.l.length))).set id57_4 (some (.cells (Z0.c (Z0.mk a0 a3 true (0:Int)))))) ?_;refine S As (nil ?_);exact hK17 _ x37 wA hE
     rintro s17_18 hE;try dsimp only at hE
     unfold Z16_j17 at hE;refine region ?_;refine SI ?_;refine S Mv (nil ?_);exact hK11 _ (n11,s17_18,(s60_13+1)) wA hE (nS _)
    refine AWp.exit ?_;exact hK6 _ s17_12 wA hE
 rintro s17_7 hE;try dsimp only at hE
 unfold Z16_j6 at hE;refine seqR (S Mv (S As (S As (nil ?_))));refine AWp.dropTok 8 rfl ?_;refine AWp.ret ?_;repeat (first|refine xBlock_ret ?_|refine xThen_ret ?_)
 obtain rfl:=oJ hE;refine retQ.retF H rfl ⟨rfl,rfl⟩ ?_;intro id_ o_ he_;have e_tk1:id_≠tk1:=fun e_=>by subst e_; simp_all [Heap.set]
 have e_id57_4:id_≠id57_4:=fun e_=>by subst e_; simp_all [Heap.set]
 rw [<- he_];simp only [Heap.set] at he_ ⊢
 (repeat' split)<;>simp_all
end Go.Proofs

namespace Go.Proofs
open Go Go.Ab
open AOps Cert AWp Keeps KeepsT
variable {lou:Lou}
def normal_maker_picks_j8  (s10_9:(Sl Z8)) (y10_c0:Z3):Option ((Sl Z8)×Int×Z3):=some (s10_9,(0:Int),y10_c0)
def normal_maker_picks_j22 (s27_17:Nat) (k_next_15:(Sl Z8)->Nat->Z3->Option ((Sl Z8)×Int×Z3)) (s10_23:(Sl Z8)) (y24_c0:Z3):Option ((Sl Z8)×Int×Z3):=k_next_15 s10_23 (s27_17+1) y24_c0
def normal_maker_picks_l29 (a3:Int) (s27_17:Nat) (x26:Bs) (x28:(Sl Z2)) (k_next_15:(Sl Z8)->Nat->Z3->Option ((Sl Z8)×Int×Z3)) (k_rec_104:Z3->Z2->Bs->Int->Option (Z8×Int×Z3)):Nat->(Sl Z8)->Int->Z3->Option ((Sl Z8)×Int×Z3)
 | 0,_,_,_=>none
 | n29+1,s10_30,s47_31,y32_c0=>bif (decide (s47_31<((x28.l.length:Nat):Int))) then((idxC x28.l s47_31).bind fun x38=>(k_rec_104 y32_c0 x38 x26 a3).bind fun x40=>bif (!decide (x40.2.1=(0:Int))) then(some ((Sl.nil:Sl Z8),x40.2.1,x40.2.2)) else((appC 160 s10_30 (⟨false,[x40.1]⟩:Sl Z8)).bind fun x45=>(addC s47_31 (1:Int)).bind fun x46=>(normal_maker_picks_l29 a3 s27_17 x26 x28 k_next_15 k_rec_104 n29) x45 x46 x40.2.2)) else(normal_maker_picks_j22 s27_17 k_next_15 s10_30 y32_c0)
def normal_maker_picks_l15 (a1:(Sl Z1)) (a3:Int) (x13:(Sl Bs)) (k_rec_104:Z3->Z2->Bs->Int->Option (Z8×Int×Z3)):Nat->(Sl Z8)->Nat->Z3->Option ((Sl Z8)×Int×Z3)
 | 0,_,_,_=>none
 | n15+1,s10_16,s27_17,y18_c0=>bif (decide (((s27_17:Nat):Int)<((x13.l.length:Nat):Int))) then((x13.l[s27_17]?).bind fun x26=>(Z30 y18_c0.Fd y18_c0.Fq x26 a1 y18_c0.Fvars).bind fun x28=>normal_maker_picks_l29 a3 s27_17 x26 x28 ((normal_maker_picks_l15 a1 a3 x13 k_rec_104 n15)) k_rec_104 F0 s10_16 (0:Int) y18_c0) else(normal_maker_picks_j8   s10_16 y18_c0)
def Z56_j22 (a0:Z3) (a3:Int) (x7:Int) (y20_l1:Z8) (k_rec_58:Z3->(Sl Z1)->Bs->Int->Option ((Sl Z8)×Int×Z3)) (s17_23:(Sl Z1)):Option (Z8×Int×Z3):=(addC a3 (1:Int)).bind fun x25=>(k_rec_58 (Z3.mk a0.Fd a0.Fq a0.Fvars x7) s17_23 y20_l1.FType.FName x25).bind fun x26=>some ((Z8.mk y20_l1.FKey y20_l1.FOn y20_l1.FName y20_l1.FArgs y20_l1.FType y20_l1.FLabel y20_l1.FInitial x26.1.nl x26.1.l),x26.2.1,x26.2.2)
def Z56_j37 (s109_33:Nat) (k_next_31:(Sl Z1)->Nat->Option (Z8×Int×Z3)) (s17_38:(Sl Z1)):Option (Z8×Int×Z3):=k_next_31 s17_38 (s109_33+1)
def Z56_l43 (s109_33:Nat) (x40:Z1) (k_next_31:(Sl Z1)->Nat->Option (Z8×Int×Z3)):Nat->(Sl Z1)->Nat->Option (Z8×Int×Z3)
 | 0,_,_=>none
 | n43+1,s17_44,s117_45=>bif (decide (((s117_45:Nat):Int)<((x40.FSel.FSels.l.length:Nat):Int))) then((x40.FSel.FSels.l[s117_45]?).bind fun x51=>(appC 144 s17_44 (⟨false,[(Z1.mk x51 ([]:Bs))]⟩:Sl Z1)).bind fun x52=>(Z56_l43 s109_33 x40 k_next_31 n43) x52 (s117_45+1)) else(Z56_j37 s109_33 k_next_31 s17_44)
def Z56_l31 (a0:Z3) (a1:Z2) (a3:Int) (x7:Int) (y20_l1:Z8) (k_rec_58:Z3->(Sl Z1)->Bs->Int->Option ((Sl Z8)×Int×Z3)):Nat->(Sl Z1)->Nat->Option (Z8×Int×Z3)
 | 0,_,_=>none
 | n31+1,s17_32,s109_33=>bif (decide (((s109_33:Nat):Int)<((a1.FList.l.length:Nat):Int))) then((a1.FList.l[s109_33]?).bind fun x40=>Z56_l43 s109_33 x40 ((Z56_l31 a0 a1 a3 x7 y20_l1 k_rec_58 n31)) (x40.FSel.FSels.l.length+1) s17_32 0) else(Z56_j22 a0 a3 x7 y20_l1 k_rec_58 s17_32)
def Z56_j18 (a0:Z3) (a1:Z2) (a3:Int) (x7:Int) (k_rec_58:Z3->(Sl Z1)->Bs->Int->Option ((Sl Z8)×Int×Z3)) (y19_l0:Z8) (y20_l1:Z8):Option (Z8×Int×Z3):=Z56_l31 a0 a1 a3 x7 y20_l1 k_rec_58 (a1.FList.l.length+1) (Sl.nil:Sl Z1) 0
mutual
def normal_maker_picks_n:Nat->Z3->(Sl Z1)->Bs->Int->Option ((Sl Z8)×Int×Z3)
 | 0,_,_,_,_=>none
 | n+1,a0,a1,a2,a3=>bif (decide (((a1.l.length:Nat):Int)=(0:Int))) then(some ((Sl.nil:Sl Z8),(0:Int),a0)) else((Z12 a0.Fd a2).bind fun x13=>normal_maker_picks_l15 a1 a3 x13 (Z56_n n) (x13.l.length+1) (Sl.nil:Sl Z8) 0 a0)
def Z56_n:Nat->Z3->Z2->Bs->Int->Option (Z8×Int×Z3)
 | 0,_,_,_,_=>none
 | n+1,a0,a1,a2,a3=>bif (decide ((24:Int)<a3)) then(some ((Z8.mk ([]:Bs) ([]:Bs) ([]:Bs) (Sl.nil:Sl TArg) TRef.zero ([]:Bs) (0:Int) true ([])),(5:Int),a0)) else((addC a0.Fn (1:Int)).bind fun x7=>bif (decide ((2048:Int)<x7)) then(some ((Z8.mk ([]:Bs) ([]:Bs) ([]:Bs) (Sl.nil:Sl TArg) TRef.zero ([]:Bs) (0:Int) true ([])),(4:Int),(Z3.mk a0.Fd a0.Fq a0.Fvars x7))) else((a1.FList.l[0]?).bind fun x13=>(Z57 ).bind fun x15=>(Z32 a1).bind fun x16=>(Z52 a1.FList).bind fun x17=>bif (!(x13.FSel.FName==([95,95,116,121,112,101,110,97,109,101]:Bs))) then((Z79 a0.Fd a2).bind fun x56=>(Z78 x56.1 x13.FSel.FName).bind fun x58=>(Z86 x58.1.FType.FWraps).bind fun x60=>(Z16 a0.Fd x58.1.FArgs x13.FSel.FArgs a0.Fvars).bind fun x63=>bif (!decide (x63.2=(0:Int))) then(some ((Z8.mk ([]:Bs) ([]:Bs) ([]:Bs) (Sl.nil:Sl TArg) TRef.zero ([]:Bs) (0:Int) true ([])),x63.2,(Z3.mk a0.Fd a0.Fq a0.Fvars x7))) else(Z56_j18 a0 a1 a3 x7 (normal_maker_picks_n n) Z8.zero (Z8.mk ((Z8.mk a1.FKey a2 x13.FSel.FName (Sl.nil:Sl TArg) x15 x16 x17 true ([])).FKey) ((Z8.mk a1.FKey a2 x13.FSel.FName (Sl.nil:Sl TArg) x15 x16 x17 true ([])).FOn) ((Z8.mk a1.FKey a2 x13.FSel.FName (Sl.nil:Sl TArg) x15 x16 x17 true ([])).FName) x63.1 (TRef.mk x58.1.FType.FName x60) ((Z8.mk a1.FKey a2 x13.FSel.FName (Sl.nil:Sl TArg) x15 x16 x17 true ([])).FLabel) ((Z8.mk a1.FKey a2 x13.FSel.FName (Sl.nil:Sl TArg) x15 x16 x17 true ([])).FInitial) ((Z8.mk a1.FKey a2 x13.FSel.FName (Sl.nil:Sl TArg) x15 x16 x17 true ([])).FPicks).nl ((Z8.mk a1.FKey a2 x13.FSel.FName (Sl.nil:Sl TArg) x15 x16 x17 true ([])).FPicks).l))) else(Z56_j18 a0 a1 a3 x7 (normal_maker_picks_n n) Z8.zero (Z8.mk a1.FKey a2 x13.FSel.FName (Sl.nil:Sl TArg) x15 x16 x17 true ([])))))
end
theorem normal_maker_picks_step (n:Nat) (ih_58:∀{a0:Z3}{a1:Sl Z1}{a2:Bs}{a3:Int}{w1:Option Nat}{oT:Ab.Obj}{c0 gT:Nat}{r:((Sl Z8)×Int×Z3)},normal_maker_picks_n n a0 a1 a2 a3=some r->∀(H:Heap) (hc0:H c0=some (.cells (Z3.c a0))) (hgT:H gT=some oT) (hoT:IsTab Tryz.prog oT),AC Tryz.prog 58 [.d (.ptr c0 0),.d (Sl.d 8 Z1.c w1 a1),.d (.str a2),.d (.int .i64 a3)] H fun v h'=>v=.tup [.d (Sl.d 9 Z8.c none r.1),.d (.int .i64 r.2.1)]/\h'=(H.set c0 (some (.cells (Z3.c r.2.2))))) (ih_104:∀{a0:Z3}{a1:Z2}{a2:Bs}{a3:Int}{oT:Ab.Obj}{c0 gT:Nat}{r:Z8×Int×Z3},Z56_n n a0 a1 a2 a3=some r->∀(H:Heap) (hc0:H c0=some (.cells (Z3.c a0))) (hgT:H gT=some oT) (hoT:IsTab Tryz.prog oT),AC Tryz.prog 104 [.d (.ptr c0 0),.agg (Z2.c a1),.d (.str a2),.d (.int .i64 a3)] H fun v h'=>v=.tup [.agg (Z8.c r.1),.d (.int .i64 r.2.1)]/\h'=(H.set c0 (some (.cells (Z3.c r.2.2))))):∀{a0:Z3}{a1:Sl Z1}{a2:Bs}{a3:Int}{w1:Option Nat}{oT:Ab.Obj}{c0 gT:Nat}{r:((Sl Z8)×Int×Z3)},normal_maker_picks_n (n+1) a0 a1 a2 a3=some r->∀(H:Heap) (hc0:H c0=some (.cells (Z3.c a0))) (hgT:H gT=some oT) (hoT:IsTab Tryz.prog oT),AC Tryz.prog 58 [.d (.ptr c0 0),.d (Sl.d 8 Z1.c w1 a1),.d (.str a2),.d (.int .i64 a3)] H fun v h'=>v=.tup [.d (Sl.d 9 Z8.c none r.1),.d (.int .i64 r.2.1)]/\h'=(H.set c0 (some (.cells (Z3.c r.2.2)))):=by
 intro a0 a1 a2 a3 w1 oT c0 gT r hE H hc0 hgT hoT;rw [normal_maker_picks_n] at hE;refine AC.oW 69 [.tmp 8,.tmp 9] Tryz.call58 Tryz.func58 ?_;have ne_gT_c0:gT≠c0:=fun e_=>by subst e_; obtain⟨_,_,_,e2_,_⟩:=hoT; simp_all
 refine AWp.heqA (h':=(H.set c0 (some (.cells (Z3.c a0))))) (by funext n_; simp only [Heap.set]; (repeat' split)<;>simp_all) ?_;refine AWp.tok 9 fun tk1 htk1=>?_;obtain⟨ne_tk1_c0,htk1⟩:=Heap.set_fresh htk1;have ne_tk1_gT:tk1≠gT:=fun e_=>by subst e_; simp_all
 refine seqR ?_;refine s0 (assignNil (k':=9) rfl) rfl ?_;refine S As (nil ?_);refine seqR (S As (nil ?_));refine AWp.nilTok 10 9 tk1 rfl hpG ?_;refine seqK fun K3 hK3=>?_;refine seqR (S Mv ?_);refine sLen (f:=Z1.c) (s:=a1) (TK rfl) rfl rfl rfl rfl fun hL5=>?_;refine S BI (nil ?_);refine cE hE (fun hc6 hE=>?_) (fun hc6 hE=>?_)
 ·refine seqR ?_;refine s0 (assignNil (k':=9) rfl) rfl ?_;refine S As (nil ?_);refine AWp.ret ?_;repeat (first|refine xBlock_ret ?_|refine xThen_ret ?_)
  obtain rfl:=oJ hE;refine retQ.retF (H.set c0 (some (.cells (Z3.c a0)))) rfl ⟨rfl,rfl⟩ ?_;intro id_ o_ he_;have e_tk1:id_≠tk1:=fun e_=>by subst e_; simp_all [Heap.set]
  rw [<- he_];simp only [Heap.set] at he_ ⊢
  (repeat' split)<;>simp_all
 refine sk hK3 ?_;clear hK3 K3;refine seqJH kN (fun(z:(Sl Z8)×Z3)=>[(10,.a (.d (Sl.d 9 Z8.c (some tk1) z.1)))]) (fun z=>((H.set c0 (some (.cells (Z3.c z.2)))).set tk1 (some (.tok 9 z.1.l.length)))) (fun z=>normal_maker_picks_j8 z.1 z.2=some r) ?_ ?_
 ·intro K8 hK8;refine seqR (S Mv (S NP ?_));refine s0 (fieldP (TK rfl) rfl rfl (TK rfl) rfl rfl) rfl ?_;refine s0 (loadP (TK rfl) rfl rfl hpG rfl) rfl ?_;refine S Mv ?_;obtain⟨x13,gx13,hE⟩:=bO hE;refine Sc rfl rfl (Z12_walk gx13) ?_;refine sLen (f:=strE) (s:=x13) (TK rfl) rfl rfl rfl rfl fun hL14=>?_;refine S Mv (nil ?_);refine block ?_;refine loopH (TA 0 (TA 1 (TA 3 (TA 25 (TA 26 kN))))) (fun(z:Nat×(Sl Z8)×Nat×Z3)=>[(10,.a (.d (Sl.d 9 Z8.c (some tk1) z.2.1))),(27,.a (.d (.int .i64 ((z.2.2.1:Nat):Int))))]) (fun z=>((H.set c0 (some (.cells (Z3.c z.2.2.2)))).set tk1 (some (.tok 9 z.2.1.l.length)))) (fun z=>z.1) (fun z=>normal_maker_picks_l15 a1 a3 x13 (Z56_n n) z.1 z.2.1 z.2.2.1 z.2.2.2=some r) ((x13.l.length+1),(Sl.nil:Sl Z8),0,a0) hE wA ?_
  rintro ⟨n15,s10_16,s27_17,y18_c0⟩ hE K15 hK15;try dsimp only at hE
  cases n15 with
  | zero=>cases hE
  | succ n15 =>
    rw [normal_maker_picks_l15] at hE;refine seqR (S BI (nil ?_));refine seqK fun K20 hK20=>?_;refine cE hE (fun hc21 hE=>?_) (fun hc21 hE=>?_)
    ·try dsimp only at hc21
     have hf21:=oD hc21;refine sk hK20 ?_;clear hK20 K20;refine seqJH (TA 0 (TA 1 (TA 3 (TA 25 (TA 26 (TA 27 kN)))))) (fun(z:(Sl Z8)×Z3)=>[(10,.a (.d (Sl.d 9 Z8.c (some tk1) z.1)))]) (fun z=>((H.set c0 (some (.cells (Z3.c z.2)))).set tk1 (some (.tok 9 z.1.l.length)))) (fun z=>normal_maker_picks_j22 s27_17 ((normal_maker_picks_l15 a1 a3 x13 (Z56_n n) n15)) z.1 z.2=some r) ?_ ?_
     ·intro K22 hK22;refine block ?_;refine seqR ?_;obtain⟨x26,gx26,hE⟩:=bO hE;refine S (ix strE s27_17 gx26) (S Ld (S As (nil ?_)));refine AWp.seqD (Sd Mv (Sd NP ?_));refine DOps.s0 (fieldP (TK rfl) rfl rfl (TK rfl) rfl rfl) rfl ?_;refine DOps.s0 (loadP (TK rfl) rfl rfl hpG rfl) rfl ?_;refine Sd Mv (Sd NP ?_);refine DOps.s0 (fieldP (TK rfl) rfl rfl (TK rfl) rfl rfl) rfl ?_;refine DOps.s0 (loadP (TK rfl) rfl rfl hpG rfl) rfl ?_
      refine Sd Mv (Sd Mv (Sd Mv (Sd NP ?_)));refine DOps.s0 (fieldP (TK rfl) rfl rfl (TK rfl) rfl rfl) rfl ?_;refine DOps.s0 (loadP (TK rfl) rfl rfl hpG rfl) rfl ?_;obtain⟨x28,gx28,hE⟩:=bO hE;refine Scd rfl rfl (Z30_walk gx28) ?_;refine DOps.s0 (lenM' (f:=Z2.c) (s:=x28) (TK rfl) rfl rfl rfl) rfl ?_;refine Sd Mv ?_;refine DOps.nil (by decide +kernel) ?_;refine block ?_;refine loopH (TA 0 (TA 1 (TA 3 (TA 12 (TA 25 (TA 26 (TA 27 (TA 45 (TA 46 kN))))))))) (fun(z:Nat×(Sl Z8)×Int×Z3)=>[(10,.a (.d (Sl.d 9 Z8.c (some tk1) z.2.1))),(47,.a (.d (.int .i64 z.2.2.1)))]) (fun z=>((H.set c0 (some (.cells (Z3.c z.2.2.2)))).set tk1 (some (.tok 9 z.2.1.l.length)))) (fun z=>z.1) (fun z=>normal_maker_picks_l29 a3 s27_17 x26 x28 ((normal_maker_picks_l15 a1 a3 x13 (Z56_n n) n15)) (Z56_n n) z.1 z.2.1 z.2.2.1 z.2.2.2=some r) (F0,s10_16,(0:Int),y18_c0) hE wA ?_
      rintro ⟨n29,s10_30,s47_31,y32_c0⟩ hE K29 hK29;try dsimp only at hE
      cases n29 with
      | zero=>cases hE
      | succ n29 =>
        rw [normal_maker_picks_l29] at hE;refine seqR (S BI (nil ?_));refine seqK fun K34 hK34=>?_;refine cE hE (fun hc35 hE=>?_) (fun hc35 hE=>?_)
        ·refine sk hK34 ?_;clear hK34 K34;refine seqK fun K36 hK36=>?_;refine block ?_;refine seqR ?_;obtain⟨x38,gx38,hE⟩:=bO hE;refine s0 (idxM (f:=Z2.c) (TK rfl) rfl (TK rfl) rfl rfl rfl gx38) rfl ?_;refine S Ld ?_;refine Sl ?_;refine Sf ?_;refine nil ?_;refine freezeA 14 _ rfl (KA 0 (KA 1 (KA 3 (KA 10 (KA 12 (KA 25 (KA 26 (KA 27 (KA 45 (KA 46 (KA 47 Keeps.nil))))))))))) ?_;refine seqR (S Mv (S Ld (S Mv (S Mv ?_))))
         obtain⟨x40,gx40,hE⟩:=bO hE;refine sH (callH rfl rfl (ih_104 (gT:=gT) (oT:=oT) gx40 _ hpG hpG (by assumption))) rfl ?_;refine hq ((H.set c0 (some (.cells (Z3.c x40.2.2)))).set tk1 (some (.tok 9 s10_30.l.length))) ?_;refine S Mv (S EX (S EX ?_));refine Sl ?_;refine Sf ?_;refine S As (nil ?_);refine freezeA 15 _ rfl (KA 0 (KA 1 (KA 3 (KA 10 (KA 12 (KA 16 (KA 25 (KA 26 (KA 27 (KA 45 (KA 46 (KA 47 Keeps.nil)))))))))))) ?_
         refine seqK fun K41 hK41=>?_;refine seqR (S Mv (S BI (nil ?_)));refine cE hE (fun hc43 hE=>?_) (fun hc43 hE=>?_)
         ·refine seqR (S Mv ?_);refine s0 (assignNil (k':=9) rfl) rfl ?_;refine S As (nil ?_);refine AWp.ret ?_;repeat (first|refine xBlock_ret ?_|refine xThen_ret ?_)
          obtain rfl:=oJ hE;refine retQ.retF (H.set c0 (some (.cells (Z3.c x40.2.2)))) rfl ⟨rfl,rfl⟩ ?_;intro id_ o_ he_;have e_tk1:id_≠tk1:=fun e_=>by subst e_; simp_all [Heap.set]
          rw [<- he_];simp only [Heap.set] at he_ ⊢
          (repeat' split)<;>simp_all
         refine sk hK41 ?_;clear hK41 K41;refine region ?_;refine S Mv (S Ld (S BV ?_));obtain⟨x45,gx45,hE⟩:=bO hE;refine SH (am Z8.c (TK rfl) rfl (TK rfl) (TK rfl) gx45) ?_;refine hq ((H.set c0 (some (.cells (Z3.c x40.2.2)))).set tk1 (some (.tok 9 x45.l.length))) ?_;refine S As (nil ?_);refine hK36 _ ?_;clear hK36 K36;refine region ?_;obtain⟨x46,gx46,hE⟩:=bO hE;refine s0 (addM rfl rfl gx46) rfl ?_
         refine S Mv (nil ?_);exact hK29 _ (n29,x45,x46,x40.2.2) wA hE (nS _)
        refine AWp.exit ?_;exact hK22 _ (s10_30,y32_c0) wA hE
     rintro ⟨s10_23,y24_c0⟩ hE;try dsimp only at hE
     unfold normal_maker_picks_j22 at hE;refine region ?_;refine SI ?_;refine S Mv (nil ?_);exact hK15 _ (n15,s10_23,(s27_17+1),y24_c0) wA hE (nS _)
    refine AWp.exit ?_;exact hK8 _ (s10_16,y18_c0) wA hE
 rintro ⟨s10_9,y10_c0⟩ hE;try dsimp only at hE
 unfold normal_maker_picks_j8 at hE;refine seqR (S Mv (S As (S As (nil ?_))));refine AWp.dropTok 8 rfl ?_;refine AWp.ret ?_;repeat (first|refine xBlock_ret ?_|refine xThen_ret ?_)
 obtain rfl:=oJ hE;refine retQ.retF (H.set c0 (some (.cells (Z3.c y10_c0)))) rfl ⟨rfl,rfl⟩ ?_;intro id_ o_ he_;have e_tk1:id_≠tk1:=fun e_=>by subst e_; simp_all [Heap.set]
 rw [<- he_];simp only [Heap.set] at he_ ⊢
 (repeat' split)<;>simp_all
theorem Z56_step (n:Nat) (ih_58:∀{a0:Z3}{a1:Sl Z1}{a2:Bs}{a3:Int}{w1:Option Nat}{oT:Ab.Obj}{c0 gT:Nat}{r:((Sl Z8)×Int×Z3)},normal_maker_picks_n n a0 a1 a2 a3=some r->∀(H:Heap) (hc0:H c0=some (.cells (Z3.c a0))) (hgT:H gT=some oT) (hoT:IsTab Tryz.prog oT),AC Tryz.prog 58 [.d (.ptr c0 0),.d (Sl.d 8 Z1.c w1 a1),.d (.str a2),.d (.int .i64 a3)] H fun v h'=>v=.tup [.d (Sl.d 9 Z8.c none r.1),.d (.int .i64 r.2.1)]/\h'=(H.set c0 (some (.cells (Z3.c r.2.2))))) (ih_104:∀{a0:Z3}{a1:Z2}{a2:Bs}{a3:Int}{oT:Ab.Obj}{c0 gT:Nat}{r:Z8×Int×Z3},Z56_n n a0 a1 a2 a3=some r->∀(H:Heap) (hc0:H c0=some (.cells (Z3.c a0))) (hgT:H gT=some oT) (hoT:IsTab Tryz.prog oT),AC Tryz.prog 104 [.d (.ptr c0 0),.agg (Z2.c a1),.d (.str a2),.d (.int .i64 a3)] H fun v h'=>v=.tup [.agg (Z8.c r.1),.d (.int .i64 r.2.1)]/\h'=(H.set c0 (some (.cells (Z3.c r.2.2))))):∀{a0:Z3}{a1:Z2}{a2:Bs}{a3:Int}{oT:Ab.Obj}{c0 gT:Nat}{r:Z8×Int×Z3},Z56_n (n+1) a0 a1 a2 a3=some r->∀(H:Heap) (hc0:H c0=some (.cells (Z3.c a0))) (hgT:H gT=some oT) (hoT:IsTab Tryz.prog oT),AC Tryz.prog 104 [.d (.ptr c0 0),.agg (Z2.c a1),.d (.str a2),.d (.int .i64 a3)] H fun v h'=>v=.tup [.agg (Z8.c r.1),.d (.int .i64 r.2.1)]/\h'=(H.set c0 (some (.cells (Z3.c r.2.2)))):=by
 intro a0 a1 a2 a3 oT c0 gT r hE H hc0 hgT hoT;rw [Z56_n] at hE;refine AC.oW 143 [.cell 8 52,.tmp 9] Tryz.call104 Tryz.func104 ?_;have ne_gT_c0:gT≠c0:=fun e_=>by subst e_; obtain⟨_,_,_,e2_,_⟩:=hoT; simp_all
 refine AWp.heqA (h':=(H.set c0 (some (.cells (Z3.c a0))))) (by funext n_; simp only [Heap.set]; (repeat' split)<;>simp_all) ?_;refine AWp.tok 8 fun tk1 htk1=>?_;obtain⟨ne_tk1_c0,htk1⟩:=Heap.set_fresh htk1;have ne_tk1_gT:tk1≠gT:=fun e_=>by subst e_; simp_all
 refine seqR (S BX ?_);refine Sl ?_;refine S As (nil ?_);refine seqK fun K2 hK2=>?_;refine seqR (S Mv (S BI (nil ?_)));refine cE hE (fun hc4 hE=>?_) (fun hc4 hE=>?_)
 ·refine seqR (S BU ?_);refine Sf ?_;refine S As (nil ?_);refine AWp.ret ?_;repeat (first|refine xBlock_ret ?_|refine xThen_ret ?_)
  obtain rfl:=oJ hE;refine retQ.retF (H.set c0 (some (.cells (Z3.c a0)))) rfl ⟨rfl,rfl⟩ ?_;intro id_ o_ he_;have e_tk1:id_≠tk1:=fun e_=>by subst e_; simp_all [Heap.set]
  rw [<- he_];simp only [Heap.set] at he_ ⊢
  (repeat' split)<;>simp_all
 refine sk hK2 ?_;clear hK2 K2;refine seqR (S Mv (S NP ?_));refine s0 (fieldP (TK rfl) rfl rfl (TK rfl) rfl rfl) rfl ?_;refine s0 (loadP (TK rfl) rfl rfl hpG rfl) rfl ?_;obtain⟨x7,gx7,hE⟩:=bO hE;refine s0 (addM rfl rfl gx7) rfl ?_;refine S NP ?_;refine s0 (fieldP (TK rfl) rfl rfl (TK rfl) rfl rfl) rfl ?_;refine sHn (storeP1 (TK rfl) rfl rfl hpG rfl (by repeat (first|exact SetAt.zero|apply SetAt.succ))) rfl rfl ?_
 refine hq ((H.set c0 (some (.cells (Z3.c (Z3.mk a0.Fd a0.Fq a0.Fvars x7))))).set tk1 (some (.tok 8 0))) ?_;refine nil ?_;refine seqK fun K8 hK8=>?_;refine seqR (S Mv (S NP ?_));refine s0 (fieldP (TK rfl) rfl rfl (TK rfl) rfl rfl) rfl ?_;refine s0 (loadP (TK rfl) rfl rfl hpG rfl) rfl ?_;refine S BI (nil ?_);refine cE hE (fun hc10 hE=>?_) (fun hc10 hE=>?_)
 ·refine seqR (S BU ?_);refine Sf ?_;refine S As (nil ?_);refine AWp.ret ?_;repeat (first|refine xBlock_ret ?_|refine xThen_ret ?_)
  obtain rfl:=oJ hE;refine retQ.retF (H.set c0 (some (.cells (Z3.c (Z3.mk a0.Fd a0.Fq a0.Fvars x7))))) rfl ⟨rfl,rfl⟩ ?_;intro id_ o_ he_;have e_tk1:id_≠tk1:=fun e_=>by subst e_; simp_all [Heap.set]
  rw [<- he_];simp only [Heap.set] at he_ ⊢
  (repeat' split)<;>simp_all
 refine sk hK8 ?_;clear hK8 K8;refine seqR (S Fv (S Ld ?_));obtain⟨x13,gx13,hE⟩:=bO hE;refine S (ix Z1.c 0 gx13) (S Fv (S Ld ?_));refine Sl ?_;refine Sf ?_;refine nil ?_;refine freezeA 10 _ rfl (KA 0 (KA 2 (KA 3 (KA 5 (KA 8 Keeps.nil))))) ?_;refine AWp.seqD (Sd Fv (Sd Ld (Sd Mv (Sd Fv (Sd Ld ?_)))));obtain⟨x15,gx15,hE⟩:=bO hE;refine Scd rfl rfl (Z57_walk gx15) ?_;refine Sd Ld ?_;obtain⟨x16,gx16,hE⟩:=bO hE
 refine Scd rfl rfl (Z32_walk gx16) ?_;refine Sd Fv (Sd Ld ?_);obtain⟨x17,gx17,hE⟩:=bO hE;refine Scd rfl rfl (Z52_walk gx17) ?_;refine Sd BU ?_;refine DOps.sB (TK rfl) rfl rfl ?_ (by repeat (first|exact Snoc.nil|apply Snoc.cons));refine DOps.sLn (storeLFA (TK rfl) rfl rfl rfl rfl rfl) ?_;refine DOps.nil (by decide +kernel) ?_;refine seqJ (TA 0 (TA 3 (TA 5 (TA 8 (TA 11 kN))))) (fun(z:Z8×Z8)=>[]) (fun z=>[Z8.c z.1,Z8.c z.2]) (fun z=>((H.set c0 (some (.cells (Z3.c (Z3.mk a0.Fd a0.Fq a0.Fvars x7))))).set tk1 (some (.tok 8 0)))) (fun z=>Z56_j18 a0 a1 a3 x7 (normal_maker_picks_n n) z.1 z.2=some r) ?_ ?_
 ·intro K18 hK18;refine seqR (S Fv (S Ld (S BS (nil ?_))));refine cE hE (fun hc54 hE=>?_) (fun hc54 hE=>?_)
  ·refine seqR (S Mv (S NP ?_));refine s0 (fieldP (TK rfl) rfl rfl (TK rfl) rfl rfl) rfl ?_;refine s0 (loadP (TK rfl) rfl rfl hpG rfl) rfl ?_;refine S Mv ?_;obtain⟨x56,gx56,hE⟩:=bO hE;refine Sc rfl rfl (Z79_walk gx56) ?_;refine S Mv (S EX (S EX ?_));refine Sl ?_;refine Sf ?_;refine S As (nil ?_);refine freezeA 12 _ rfl (KA 0 (KA 3 (KA 5 (KA 8 (KA 10 (KA 11 Keeps.nil)))))) ?_;refine seqR (S Ld (S Fv (S Ld ?_)))
   obtain⟨x58,gx58,hE⟩:=bO hE;refine Sc rfl rfl (Z78_walk gx58) ?_;refine S Mv (S EX (S EX ?_));refine Sl ?_;refine Sf ?_;refine S As (nil ?_);refine freezeA 14 _ rfl (KA 0 (KA 3 (KA 5 (KA 8 (KA 10 (KA 11 Keeps.nil)))))) ?_;refine seqK fun K59 hK59=>?_;refine AWp.relocal 1 (Z8.cu (Z8.mk a1.FKey a2 x13.FSel.FName (Sl.nil:Sl TArg) x15 x16 x17 true ([]))) rfl (fun j w cs hh hx=>by rw [<- Z8.cu_eq]; exact hx) ?_
   refine AWp.draw rfl ?_;refine Sd Fv (Sd Fv (Sd Ld (Sd Fv (Sd Fv (Sd Ld ?_)))));obtain⟨x60,gx60,hE⟩:=bO hE;refine Scd rfl rfl (Z86_walk gx60) ?_;refine Sd BU (Sd FL ?_);refine DOps.sLn (storeLM (xs':=Z8.cu (Z8.mk ((Z8.mk a1.FKey a2 x13.FSel.FName (Sl.nil:Sl TArg) x15 x16 x17 true ([])).FKey) ((Z8.mk a1.FKey a2 x13.FSel.FName (Sl.nil:Sl TArg) x15 x16 x17 true ([])).FOn) ((Z8.mk a1.FKey a2 x13.FSel.FName (Sl.nil:Sl TArg) x15 x16 x17 true ([])).FName) ((Z8.mk a1.FKey a2 x13.FSel.FName (Sl.nil:Sl TArg) x15 x16 x17 true ([])).FArgs) (TRef.mk x58.1.FType.FName x60) ((Z8.mk a1.FKey a2 x13.FSel.FName (Sl.nil:Sl TArg) x15 x16 x17 true ([])).FLabel) ((Z8.mk a1.FKey a2 x13.FSel.FName (Sl.nil:Sl TArg) x15 x16 x17 true ([])).FInitial) ((Z8.mk a1.FKey a2 x13.FSel.FName (Sl.nil:Sl TArg) x15 x16 x17 true ([])).FPicks).nl ((Z8.mk a1.FKey a2 x13.FSel.FName (Sl.nil:Sl TArg) x15 x16 x17 true ([])).FPicks).l)) (TK rfl) rfl rfl rfl rfl (Nat.le_of_ble_eq_true rfl) rfl (by repeat (first|exact SetAt.zero|apply SetAt.succ))) ?_
   refine DOps.nil (by decide +kernel) ?_;refine hK59 _ ?_;clear hK59 K59;refine AWp.relocal 1 (Z8.c (Z8.mk ((Z8.mk a1.FKey a2 x13.FSel.FName (Sl.nil:Sl TArg) x15 x16 x17 true ([])).FKey) ((Z8.mk a1.FKey a2 x13.FSel.FName (Sl.nil:Sl TArg) x15 x16 x17 true ([])).FOn) ((Z8.mk a1.FKey a2 x13.FSel.FName (Sl.nil:Sl TArg) x15 x16 x17 true ([])).FName) ((Z8.mk a1.FKey a2 x13.FSel.FName (Sl.nil:Sl TArg) x15 x16 x17 true ([])).FArgs) (TRef.mk x58.1.FType.FName x60) ((Z8.mk a1.FKey a2 x13.FSel.FName (Sl.nil:Sl TArg) x15 x16 x17 true ([])).FLabel) ((Z8.mk a1.FKey a2 x13.FSel.FName (Sl.nil:Sl TArg) x15 x16 x17 true ([])).FInitial) ((Z8.mk a1.FKey a2 x13.FSel.FName (Sl.nil:Sl TArg) x15 x16 x17 true ([])).FPicks).nl ((Z8.mk a1.FKey a2 x13.FSel.FName (Sl.nil:Sl TArg) x15 x16 x17 true ([])).FPicks).l)) rfl (fun j w cs hh hx=>by rw [Z8.cu_eq]; exact hx) ?_
   refine seqR (S As (nil ?_));refine seqK fun K62 hK62=>?_;refine AWp.relocal 1 (Z8.cu (Z8.mk ((Z8.mk a1.FKey a2 x13.FSel.FName (Sl.nil:Sl TArg) x15 x16 x17 true ([])).FKey) ((Z8.mk a1.FKey a2 x13.FSel.FName (Sl.nil:Sl TArg) x15 x16 x17 true ([])).FOn) ((Z8.mk a1.FKey a2 x13.FSel.FName (Sl.nil:Sl TArg) x15 x16 x17 true ([])).FName) ((Z8.mk a1.FKey a2 x13.FSel.FName (Sl.nil:Sl TArg) x15 x16 x17 true ([])).FArgs) (TRef.mk x58.1.FType.FName x60) ((Z8.mk a1.FKey a2 x13.FSel.FName (Sl.nil:Sl TArg) x15 x16 x17 true ([])).FLabel) ((Z8.mk a1.FKey a2 x13.FSel.FName (Sl.nil:Sl TArg) x15 x16 x17 true ([])).FInitial) ((Z8.mk a1.FKey a2 x13.FSel.FName (Sl.nil:Sl TArg) x15 x16 x17 true ([])).FPicks).nl ((Z8.mk a1.FKey a2 x13.FSel.FName (Sl.nil:Sl TArg) x15 x16 x17 true ([])).FPicks).l)) rfl (fun j w cs hh hx=>by rw [<- Z8.cu_eq]; exact hx) ?_
   refine AWp.draw rfl ?_;refine Sd Mv (Sd NP ?_);refine DOps.s0 (fieldP (TK rfl) rfl rfl (TK rfl) rfl rfl) rfl ?_;refine DOps.s0 (loadP (TK rfl) rfl rfl hpG rfl) rfl ?_;refine Sd Fv (Sd Ld (Sd Fv (Sd Ld (Sd Mv (Sd NP ?_)))));refine DOps.s0 (fieldP (TK rfl) rfl rfl (TK rfl) rfl rfl) rfl ?_;refine DOps.s0 (loadP (TK rfl) rfl rfl hpG rfl) rfl ?_;obtain⟨x63,gx63,hE⟩:=bO hE;refine DOps.s0 (callR rfl rfl (Z16_walk (gT:=gT) (oT:=oT) gx63 _ hpG (by assumption))) rfl ?_
   refine Sd Mv (Sd EX (Sd EX (Sd FL ?_)));refine DOps.sLn (storeL1 (TK rfl) rfl rfl rfl rfl (by repeat (first|exact SetAt.zero|apply SetAt.succ)) (by repeat (first|exact SetAt.zero|apply SetAt.succ))) ?_;refine Sd As ?_;refine DOps.nil (by decide +kernel) ?_;refine hK62 _ ?_;clear hK62 K62;refine AWp.relocal 1 (Z8.c (Z8.mk ((Z8.mk a1.FKey a2 x13.FSel.FName (Sl.nil:Sl TArg) x15 x16 x17 true ([])).FKey) ((Z8.mk a1.FKey a2 x13.FSel.FName (Sl.nil:Sl TArg) x15 x16 x17 true ([])).FOn) ((Z8.mk a1.FKey a2 x13.FSel.FName (Sl.nil:Sl TArg) x15 x16 x17 true ([])).FName) x63.1 (TRef.mk x58.1.FType.FName x60) ((Z8.mk a1.FKey a2 x13.FSel.FName (Sl.nil:Sl TArg) x15 x16 x17 true ([])).FLabel) ((Z8.mk a1.FKey a2 x13.FSel.FName (Sl.nil:Sl TArg) x15 x16 x17 true ([])).FInitial) ((Z8.mk a1.FKey a2 x13.FSel.FName (Sl.nil:Sl TArg) x15 x16 x17 true ([])).FPicks).nl ((Z8.mk a1.FKey a2 x13.FSel.FName (Sl.nil:Sl TArg) x15 x16 x17 true ([])).FPicks).l)) rfl (fun j w cs hh hx=>by rw [Z8.cu_eq]; exact hx) ?_
   refine seqR (S Mv (S BI (nil ?_)));refine cE hE (fun hc65 hE=>?_) (fun hc65 hE=>?_)
   ·refine seqR (S BU (S Mv ?_));refine Sf ?_;refine S As (nil ?_);refine AWp.ret ?_;repeat (first|refine xBlock_ret ?_|refine xThen_ret ?_)
    obtain rfl:=oJ hE;refine retQ.retF (H.set c0 (some (.cells (Z3.c (Z3.mk a0.Fd a0.Fq a0.Fvars x7))))) rfl ⟨rfl,rfl⟩ ?_;intro id_ o_ he_;have e_tk1:id_≠tk1:=fun e_=>by subst e_; simp_all [Heap.set]
    rw [<- he_];simp only [Heap.set] at he_ ⊢
    (repeat' split)<;>simp_all
   refine AWp.skip ?_;exact hK18 _ (Z8.zero,(Z8.mk ((Z8.mk a1.FKey a2 x13.FSel.FName (Sl.nil:Sl TArg) x15 x16 x17 true ([])).FKey) ((Z8.mk a1.FKey a2 x13.FSel.FName (Sl.nil:Sl TArg) x15 x16 x17 true ([])).FOn) ((Z8.mk a1.FKey a2 x13.FSel.FName (Sl.nil:Sl TArg) x15 x16 x17 true ([])).FName) x63.1 (TRef.mk x58.1.FType.FName x60) ((Z8.mk a1.FKey a2 x13.FSel.FName (Sl.nil:Sl TArg) x15 x16 x17 true ([])).FLabel) ((Z8.mk a1.FKey a2 x13.FSel.FName (Sl.nil:Sl TArg) x15 x16 x17 true ([])).FInitial) ((Z8.mk a1.FKey a2 x13.FSel.FName (Sl.nil:Sl TArg) x15 x16 x17 true ([])).FPicks).nl ((Z8.mk a1.FKey a2 x13.FSel.FName (Sl.nil:Sl TArg) x15 x16 x17 true ([])).FPicks).l)) wA hE
  refine AWp.skip ?_;exact hK18 _ (Z8.zero,(Z8.mk a1.FKey a2 x13.FSel.FName (Sl.nil:Sl TArg) x15 x16 x17 true ([]))) wA hE
 rintro ⟨y19_l0,y20_l1⟩ hE;try dsimp only at hE
 unfold Z56_j18 at hE;refine seqR (S As (nil ?_));refine AWp.nilTok 17 8 tk1 rfl hpG ?_;refine seqJH (TA 0 (TA 3 (TA 8 (TA 11 kN)))) (fun(z:(Sl Z1))=>[(17,.a (.d (Sl.d 8 Z1.c (some tk1) z)))]) (fun z=>((H.set c0 (some (.cells (Z3.c (Z3.mk a0.Fd a0.Fq a0.Fvars x7))))).set tk1 (some (.tok 8 z.l.length)))) (fun z=>Z56_j22 a0 a3 x7 y20_l1 (normal_maker_picks_n n) z=some r) ?_ ?_
 ·intro K22 hK22;refine seqR (S Fv (S Ld ?_));refine sLen (f:=Z1.c) (s:=a1.FList) (TK rfl) rfl rfl rfl rfl fun hL30=>?_;refine S Mv (nil ?_);refine block ?_;refine loopH (TA 0 (TA 3 (TA 8 (TA 11 (TA 107 (TA 108 kN)))))) (fun(z:Nat×(Sl Z1)×Nat)=>[(17,.a (.d (Sl.d 8 Z1.c (some tk1) z.2.1))),(109,.a (.d (.int .i64 ((z.2.2:Nat):Int))))]) (fun z=>((H.set c0 (some (.cells (Z3.c (Z3.mk a0.Fd a0.Fq a0.Fvars x7))))).set tk1 (some (.tok 8 z.2.1.l.length)))) (fun z=>z.1) (fun z=>Z56_l31 a0 a1 a3 x7 y20_l1 (normal_maker_picks_n n) z.1 z.2.1 z.2.2=some r) ((a1.FList.l.length+1),(Sl.nil:Sl Z1),0) hE wA ?_
  rintro ⟨n31,s17_32,s109_33⟩ hE K31 hK31;try dsimp only at hE
  cases n31 with
  | zero=>cases hE
  | succ n31 =>
    rw [Z56_l31] at hE;refine seqR (S BI (nil ?_));refine seqK fun K35 hK35=>?_;refine cE hE (fun hc36 hE=>?_) (fun hc36 hE=>?_)
    ·try dsimp only at hc36
     have hf36:=oD hc36;refine sk hK35 ?_;clear hK35 K35;refine seqJH (TA 0 (TA 3 (TA 8 (TA 11 (TA 107 (TA 108 (TA 109 kN))))))) (fun(z:(Sl Z1))=>[(17,.a (.d (Sl.d 8 Z1.c (some tk1) z)))]) (fun z=>((H.set c0 (some (.cells (Z3.c (Z3.mk a0.Fd a0.Fq a0.Fvars x7))))).set tk1 (some (.tok 8 z.l.length)))) (fun z=>Z56_j37 s109_33 ((Z56_l31 a0 a1 a3 x7 y20_l1 (normal_maker_picks_n n) n31)) z=some r) ?_ ?_
     ·intro K37 hK37;refine block ?_;refine seqR ?_;obtain⟨x40,gx40,hE⟩:=bO hE;refine S (ix Z1.c s109_33 gx40) (S Ld ?_);refine Sl ?_;refine Sf ?_;refine nil ?_;refine freezeA 19 _ rfl (KA 0 (KA 3 (KA 8 (KA 11 (KA 17 (KA 107 (KA 108 (KA 109 Keeps.nil)))))))) ?_;refine seqR (S Fv (S Fv ?_));refine s0 (loadV (TK rfl) rfl rfl (congrArg (fun x=>some (A.d x)) (TSel.FSelsD_eq _))) rfl ?_;refine sLen (f:=TSel.c) (s:=x40.FSel.FSels) (TK rfl) rfl rfl rfl rfl fun hL42=>?_
      refine S Mv (nil ?_);refine block ?_;refine loopH (TA 0 (TA 3 (TA 8 (TA 11 (TA 107 (TA 108 (TA 109 (TA 115 (TA 116 kN))))))))) (fun(z:Nat×(Sl Z1)×Nat)=>[(17,.a (.d (Sl.d 8 Z1.c (some tk1) z.2.1))),(117,.a (.d (.int .i64 ((z.2.2:Nat):Int))))]) (fun z=>((H.set c0 (some (.cells (Z3.c (Z3.mk a0.Fd a0.Fq a0.Fvars x7))))).set tk1 (some (.tok 8 z.2.1.l.length)))) (fun z=>z.1) (fun z=>Z56_l43 s109_33 x40 ((Z56_l31 a0 a1 a3 x7 y20_l1 (normal_maker_picks_n n) n31)) z.1 z.2.1 z.2.2=some r) ((x40.FSel.FSels.l.length+1),s17_32,0) hE wA ?_
      rintro ⟨n43,s17_44,s117_45⟩ hE K43 hK43;try dsimp only at hE
      cases n43 with
      | zero=>cases hE
      | succ n43 =>
        rw [Z56_l43] at hE;refine seqR (S BI (nil ?_));refine seqK fun K47 hK47=>?_;refine cE hE (fun hc48 hE=>?_) (fun hc48 hE=>?_)
        ·try dsimp only at hc48
         have hf48:=oD hc48;refine sk hK47 ?_;clear hK47 K47;refine seqK fun K49 hK49=>?_;refine block ?_;refine seqR ?_;obtain⟨x51,gx51,hE⟩:=bO hE;refine S (ix TSel.c s117_45 gx51) (S Ld ?_);refine Sl ?_;refine Sf ?_;refine nil ?_;refine freezeA 21 _ rfl (KA 0 (KA 3 (KA 8 (KA 11 (KA 17 (KA 107 (KA 108 (KA 109 (KA 115 (KA 116 (KA 117 Keeps.nil))))))))))) ?_;refine region ?_;refine S Mv (S Ld (S BU (S BV ?_)))
         obtain⟨x52,gx52,hE⟩:=bO hE;refine SH (am Z1.c (TK rfl) rfl (TK rfl) (TK rfl) gx52) ?_;refine hq ((H.set c0 (some (.cells (Z3.c (Z3.mk a0.Fd a0.Fq a0.Fvars x7))))).set tk1 (some (.tok 8 x52.l.length))) ?_;refine S As (nil ?_);refine hK49 _ ?_;clear hK49 K49;refine region ?_;refine SI ?_;refine S Mv (nil ?_);exact hK43 _ (n43,x52,(s117_45+1)) wA hE (nS _)
        refine AWp.exit ?_;exact hK37 _ s17_44 wA hE
     rintro s17_38 hE;try dsimp only at hE
     unfold Z56_j37 at hE;refine region ?_;refine SI ?_;refine S Mv (nil ?_);exact hK31 _ (n31,s17_38,(s109_33+1)) wA hE (nS _)
    refine AWp.exit ?_;exact hK22 _ s17_32 wA hE
 rintro s17_23 hE;try dsimp only at hE
 unfold Z56_j22 at hE;refine seqR (S Mv (S Mv (S FL (S FL (S LL (S Mv ?_))))));obtain⟨x25,gx25,hE⟩:=bO hE;refine s0 (addM rfl rfl gx25) rfl ?_;obtain⟨x26,gx26,hE⟩:=bO hE;refine sH (callH rfl rfl (ih_58 (gT:=gT) (oT:=oT) gx26 _ hpG hpG (by assumption))) rfl ?_;refine hq ((H.set c0 (some (.cells (Z3.c x26.2.2)))).set tk1 (some (.tok 8 s17_23.l.length))) ?_;refine S Mv (S EX (S EX (S As (S As (nil ?_)))))
 refine seqR (S Mv (S FL ?_));refine AOps.relocal 1 (Z8.cu y20_l1) rfl (fun j w cs hh hx=>by rw [<- Z8.cu_eq]; exact hx) ?_;refine Sf ?_;refine AOps.relocal 1 (Z8.c (Z8.mk y20_l1.FKey y20_l1.FOn y20_l1.FName y20_l1.FArgs y20_l1.FType y20_l1.FLabel y20_l1.FInitial x26.1.nl x26.1.l)) rfl (fun j w cs hh hx=>by rw [Z8.cu_eq]; exact hx) ?_;refine nil ?_;refine seqR (S LL (S Mv ?_));refine Sf ?_;refine S As (nil ?_)
 refine AWp.ret ?_;repeat (first|refine xBlock_ret ?_|refine xThen_ret ?_)
 obtain rfl:=oJ hE;refine retQ.retF (H.set c0 (some (.cells (Z3.c x26.2.2)))) rfl ⟨rfl,rfl⟩ ?_;intro id_ o_ he_;have e_tk1:id_≠tk1:=fun e_=>by subst e_; simp_all [Heap.set]
 rw [<- he_];simp only [Heap.set] at he_ ⊢
 (repeat' split)<;>simp_all
theorem normal_maker_picks_all:∀(n:Nat),(∀{a0:Z3}{a1:Sl Z1}{a2:Bs}{a3:Int}{w1:Option Nat}{oT:Ab.Obj}{c0 gT:Nat}{r:((Sl Z8)×Int×Z3)},normal_maker_picks_n n a0 a1 a2 a3=some r->∀(H:Heap) (hc0:H c0=some (.cells (Z3.c a0))) (hgT:H gT=some oT) (hoT:IsTab Tryz.prog oT),AC Tryz.prog 58 [.d (.ptr c0 0),.d (Sl.d 8 Z1.c w1 a1),.d (.str a2),.d (.int .i64 a3)] H fun v h'=>v=.tup [.d (Sl.d 9 Z8.c none r.1),.d (.int .i64 r.2.1)]/\h'=(H.set c0 (some (.cells (Z3.c r.2.2)))))/\(∀{a0:Z3}{a1:Z2}{a2:Bs}{a3:Int}{oT:Ab.Obj}{c0 gT:Nat}{r:Z8×Int×Z3},Z56_n n a0 a1 a2 a3=some r->∀(H:Heap) (hc0:H c0=some (.cells (Z3.c a0))) (hgT:H gT=some oT) (hoT:IsTab Tryz.prog oT),AC Tryz.prog 104 [.d (.ptr c0 0),.agg (Z2.c a1),.d (.str a2),.d (.int .i64 a3)] H fun v h'=>v=.tup [.agg (Z8.c r.1),.d (.int .i64 r.2.1)]/\h'=(H.set c0 (some (.cells (Z3.c r.2.2)))))
 | 0=>⟨fun hE=>by first|cases hE|(rw [normal_maker_picks_n] at hE; cases hE),fun hE=>by first|cases hE|(rw [Z56_n] at hE; cases hE)⟩
 | n+1=>⟨normal_maker_picks_step n (normal_maker_picks_all n).1 (normal_maker_picks_all n).2,Z56_step n (normal_maker_picks_all n).1 (normal_maker_picks_all n).2⟩
def normal_maker_picks (a0:Z3) (a1:(Sl Z1)) (a2:Bs) (a3:Int):Option ((Sl Z8)×Int×Z3):=normal_maker_picks_n F0 a0 a1 a2 a3
theorem normal_maker_picks_walk {a0:Z3}{a1:Sl Z1}{a2:Bs}{a3:Int}{w1:Option Nat}{oT:Ab.Obj}{c0 gT:Nat}{r:((Sl Z8)×Int×Z3)}(hE:normal_maker_picks a0 a1 a2 a3=some r) (H:Heap) (hc0:H c0=some (.cells (Z3.c a0))) (hgT:H gT=some oT) (hoT:IsTab Tryz.prog oT):AC Tryz.prog 58 [.d (.ptr c0 0),.d (Sl.d 8 Z1.c w1 a1),.d (.str a2),.d (.int .i64 a3)] H fun v h'=>v=.tup [.d (Sl.d 9 Z8.c none r.1),.d (.int .i64 r.2.1)]/\h'=(H.set c0 (some (.cells (Z3.c r.2.2)))):=(normal_maker_picks_all F0).1 hE H hc0 hgT hoT
end Go.Proofs

namespace Go.Proofs
open Go Go.Ab
open AOps Cert AWp Keeps KeepsT
variable {lou:Lou}
def Z44_j11 (a0:TDoc) (a1:Z10) (a3:Z11) (x9:TOp)  (s12_12:(Sl Z1)):Option (Z9×Int):=(Z83 x9.FKind).bind fun x14=>(normal_maker_picks (Z3.mk a0 a1 a3 (0:Int)) s12_12 x14 (1:Int)).bind fun x15=>bif (!decide (x15.2.1=(0:Int))) then(some ((Z9.mk (0:Int) (Sl.nil:Sl Z8)),x15.2.1)) else(some ((Z9.mk x9.FKind x15.1),(0:Int)))
def Z44_l23 (a0:TDoc) (a1:Z10) (a3:Z11) (x9:TOp) :Nat->(Sl Z1)->Nat->Option (Z9×Int)
 | 0,_,_=>none
 | n23+1,s12_24,s40_25=>bif (decide (((s40_25:Nat):Int)<((x9.FSels.l.length:Nat):Int))) then((x9.FSels.l[s40_25]?).bind fun x31=>(appC 144 s12_24 (⟨false,[(Z1.mk x31 ([]:Bs))]⟩:Sl Z1)).bind fun x32=>(Z44_l23 a0 a1 a3 x9 n23) x32 (s40_25+1)) else(Z44_j11 a0 a1 a3 x9  s12_24)
def Z44 (a0:TDoc) (a1:Z10) (a2:Int) (a3:Z11):Option (Z9×Int):=bif ((decide (a2<(0:Int)))||(decide (((a1.FOps.l.length:Nat):Int)<=a2))) then(some ((Z9.mk (0:Int) (Sl.nil:Sl Z8)),(2:Int))) else((idxC a1.FOps.l a2).bind fun x9=>Z44_l23 a0 a1 a3 x9 (x9.FSels.l.length+1) (Sl.nil:Sl Z1) 0)
theorem Z44_walk {a0:TDoc}{a1:Z10}{a2:Int}{a3:Z11}{oT:Ab.Obj}{gT:Nat}{r:Z9×Int}(hE:Z44 a0 a1 a2 a3=some r) (H:Heap) (hgT:H gT=some oT) (hoT:IsTab Tryz.prog oT):AC Tryz.prog 25 [.agg (TDoc.c a0),.agg (Z10.c a1),.d (.int .i64 a2),.agg (Z11.c a3)] H fun v h'=>v=.tup [.agg (Z9.c r.1),.d (.int .i64 r.2)]/\h'=H:=by
 unfold Z44 at hE;refine AC.oW 67 [.cell 8 27,.tmp 9] Tryz.call25 Tryz.func25 ?_;refine AWp.tok 8 fun tk1 htk1=>?_;have ne_tk1_gT:tk1≠gT:=fun e_=>by subst e_; simp_all
 refine seqR (S BX (S BX (S BX ?_)));refine Sl ?_;refine S As (nil ?_);refine seqK fun K2 hK2=>?_;refine seqR (S Mv (S BI (S Mv (G0 Mv (G0 Fv ?_)))));refine G1 21 rfl Ld ?_;refine gC rfl rfl (fun hC=>ungdA (k:=22) rfl (lenM' (f:=TOp.c) (s:=a1.FOps) (TK rfl) rfl rfl rfl)) rfl ?_;refine G2 20 23 rfl rfl BI ?_;refine S PO (nil ?_);refine cE hE (fun hc4 hE=>?_) (fun hc4 hE=>?_)
 ·refine seqR (S BU ?_);refine Sf ?_;refine S As (nil ?_);refine AWp.ret ?_;repeat (first|refine xBlock_ret ?_|refine xThen_ret ?_)
  obtain rfl:=oJ hE;refine retQ.retF H rfl ⟨rfl,rfl⟩ ?_
  first|exact Heap.sub_set htk1|(simp only [Heap.set_set]; exact Heap.sub_set htk1)
 refine sk hK2 ?_;clear hK2 K2;refine seqR (S Ld (S Ld (S Ld (S BU ?_))));refine sE (StepE.boxO rfl) rfl (fun _ _ _ ⟨id31_7,hid31_7,e1,e2,e3⟩=>?_); subst e1 e2 e3;obtain⟨ne_id31_7_tk1,hid31_7⟩:=Heap.set_fresh hid31_7;have ne_id31_7_gT:id31_7≠gT:=fun e_=>by subst e_; simp_all
 refine hq ((H.set tk1 (some (.tok 8 0))).set id31_7 (some (.cells (Z3.c (Z3.mk a0 a1 a3 (0:Int)))))) ?_;refine S As (nil ?_);refine seqR (S Fv (S Ld (S Mv ?_)));obtain⟨x9,gx9,hE⟩:=bO hE;refine s0 (idxM (f:=TOp.c) (TK rfl) rfl (TK rfl) rfl rfl rfl gx9) rfl ?_;refine S Ld ?_;refine Sl ?_;refine Sf ?_;refine nil ?_;refine freezeA 11 _ rfl (KA 8 (KA 10 Keeps.nil)) ?_;refine seqR (S As (nil ?_));refine AWp.nilTok 12 8 tk1 rfl hpG ?_
 refine seqJH (TA 8 (TA 10 (TA 11 kN))) (fun(z:(Sl Z1))=>[(12,.a (.d (Sl.d 8 Z1.c (some tk1) z)))]) (fun z=>((H.set tk1 (some (.tok 8 z.l.length))).set id31_7 (some (.cells (Z3.c (Z3.mk a0 a1 a3 (0:Int))))))) (fun z=>Z44_j11 a0 a1 a3 x9 z=some r) ?_ ?_
 ·intro K11 hK11;refine seqR (S Fv (S Ld ?_));refine sLen (f:=TSel.c) (s:=x9.FSels) (TK rfl) rfl rfl rfl rfl fun hL22=>?_;refine S Mv (nil ?_);refine block ?_;refine loopH (TA 8 (TA 10 (TA 11 (TA 38 (TA 39 kN))))) (fun(z:Nat×(Sl Z1)×Nat)=>[(12,.a (.d (Sl.d 8 Z1.c (some tk1) z.2.1))),(40,.a (.d (.int .i64 ((z.2.2:Nat):Int))))]) (fun z=>((H.set tk1 (some (.tok 8 z.2.1.l.length))).set id31_7 (some (.cells (Z3.c (Z3.mk a0 a1 a3 (0:Int))))))) (fun z=>z.1) (fun z=>Z44_l23 a0 a1 a3 x9 z.1 z.2.1 z.2.2=some r) ((x9.FSels.l.length+1),(Sl.nil:Sl Z1),0) hE wA ?_
  rintro ⟨n23,s12_24,s40_25⟩ hE K23 hK23;try dsimp only at hE
  cases n23 with
  | zero=>cases hE
  | succ n23 =>
    rw [Z44_l23] at hE;refine seqR (S BI (nil ?_));refine seqK fun K27 hK27=>?_;refine cE hE (fun hc28 hE=>?_) (fun hc28 hE=>?_)
    ·try dsimp only at hc28
     have hf28:=oD hc28;refine sk hK27 ?_;clear hK27 K27;refine seqK fun K29 hK29=>?_;refine block ?_;refine seqR ?_;obtain⟨x31,gx31,hE⟩:=bO hE;refine S (ix TSel.c s40_25 gx31) (S Ld ?_);refine Sl ?_;refine Sf ?_;refine nil ?_;refine freezeA 14 _ rfl (KA 8 (KA 10 (KA 11 (KA 12 (KA 38 (KA 39 (KA 40 Keeps.nil))))))) ?_;refine region ?_;refine S Mv (S Ld (S BU (S BV ?_)));obtain⟨x32,gx32,hE⟩:=bO hE
     refine SH (am Z1.c (TK rfl) rfl (TK rfl) (TK rfl) gx32) ?_;refine hq ((H.set tk1 (some (.tok 8 x32.l.length))).set id31_7 (some (.cells (Z3.c (Z3.mk a0 a1 a3 (0:Int)))))) ?_;refine S As (nil ?_);refine hK29 _ ?_;clear hK29 K29;refine region ?_;refine SI ?_;refine S Mv (nil ?_);exact hK23 _ (n23,x32,(s40_25+1)) wA hE (nS _)
    refine AWp.exit ?_;exact hK11 _ s12_24 wA hE
 rintro s12_12 hE;try dsimp only at hE
 unfold Z44_j11 at hE;refine seqR (S Mv (S Mv (S Fv (S Ld ?_))));obtain⟨x14,gx14,hE⟩:=bO hE;refine Sc rfl rfl (Z83_walk gx14) ?_;obtain⟨x15,gx15,hE⟩:=bO hE;refine sH (callH rfl rfl (normal_maker_picks_walk (gT:=gT) (oT:=oT) gx15 _ hpG hpG (by assumption))) rfl ?_;refine hq ((H.set tk1 (some (.tok 8 s12_12.l.length))).set id31_7 (some (.cells (Z3.c x15.2.2)))) ?_;refine S Mv (S EX (S EX (S As (S As (nil ?_)))))
 refine seqK fun K16 hK16=>?_;refine seqR (S Mv (S BI (nil ?_)));refine cE hE (fun hc18 hE=>?_) (fun hc18 hE=>?_)
 ·refine seqR (S BU (S Mv ?_));refine Sf ?_;refine S As (nil ?_);refine AWp.ret ?_;repeat (first|refine xBlock_ret ?_|refine xThen_ret ?_)
  obtain rfl:=oJ hE;refine retQ.retF H rfl ⟨rfl,rfl⟩ ?_;intro id_ o_ he_;have e_tk1:id_≠tk1:=fun e_=>by subst e_; simp_all [Heap.set]
  have e_id31_7:id_≠id31_7:=fun e_=>by subst e_; simp_all [Heap.set]
  rw [<- he_];simp only [Heap.set] at he_ ⊢
  (repeat' split)<;>simp_all
 refine sk hK16 ?_;clear hK16 K16;refine seqR (S Fv (S Ld (S Mv (S BU ?_))));refine Sf ?_;refine S As (nil ?_);refine AWp.ret ?_;repeat (first|refine xBlock_ret ?_|refine xThen_ret ?_)
 obtain rfl:=oJ hE;refine retQ.retF H rfl ⟨rfl,rfl⟩ ?_;intro id_ o_ he_;have e_tk1:id_≠tk1:=fun e_=>by subst e_; simp_all [Heap.set]
 have e_id31_7:id_≠id31_7:=fun e_=>by subst e_; simp_all [Heap.set]
 rw [<- he_];simp only [Heap.set] at he_ ⊢
 (repeat' split)<;>simp_all
section
variable [IsLoud lou]
def Z40 :Option Bool:=(Z39 ).bind fun x3=>(Z44 x3.1 x3.2.1 (0:Int) (Z11.mk (6:Int) (0:Int) ([]:Bs) true ([]) (Sl.nil:Sl Bs))).bind fun x6=>(Z44 x3.1 x3.2.1 (1:Int) (Z11.mk (6:Int) (0:Int) ([]:Bs) true ([]) (Sl.nil:Sl Bs))).bind fun x8=>guardO ((((decide (x6.2=(0:Int)))&&(decide (x8.2=(2:Int))))&&(decide (x6.1.FKind=(1:Int))))) (Z75 x6.1.FPicks x3.2.2.FPicks) false fun x10=>guardO (((((decide (x6.2=(0:Int)))&&(decide (x8.2=(2:Int))))&&(decide (x6.1.FKind=(1:Int))))&&x10)) (normal_Same x6.1.FPicks x3.2.2.FPicks) false fun x11=>guardO ((((((decide (x6.2=(0:Int)))&&(decide (x8.2=(2:Int))))&&(decide (x6.1.FKind=(1:Int))))&&x10)&&x11)) (Z46 x3.1 x3.2.2) false fun x12=>guardO (((((((decide (x6.2=(0:Int)))&&(decide (x8.2=(2:Int))))&&(decide (x6.1.FKind=(1:Int))))&&x10)&&x11)&&x12)) (Z46 x3.1 (Z9.mk (2:Int) (Sl.nil:Sl Z8))) false fun x13=>guardO ((((((((decide (x6.2=(0:Int)))&&(decide (x8.2=(2:Int))))&&(decide (x6.1.FKind=(1:Int))))&&x10)&&x11)&&x12)&&(!x13))) (Z43 x3.2.2.FPicks) (0:Int) fun x14=>guardO (((((((((decide (x6.2=(0:Int)))&&(decide (x8.2=(2:Int))))&&(decide (x6.1.FKind=(1:Int))))&&x10)&&x11)&&x12)&&(!x13))&&(decide (x14=(2:Int))))) (Z49 x3.2.2) ([]:Bs) fun x15=>guardO ((((((((((decide (x6.2=(0:Int)))&&(decide (x8.2=(2:Int))))&&(decide (x6.1.FKind=(1:Int))))&&x10)&&x11)&&x12)&&(!x13))&&(decide (x14=(2:Int))))&&((x15==([113,117,101,114,121,32,123,32,81,117,101,114,121,46,109,101,58,32,109,101,32,123,32,85,115,101,114,46,110,97,109,101,58,32,110,97,109,101,32,125,32,125]:Bs))))) (Z45 x3.2.2) Z10.zero fun x16=>guardO ((((((((((decide (x6.2=(0:Int)))&&(decide (x8.2=(2:Int))))&&(decide (x6.1.FKind=(1:Int))))&&x10)&&x11)&&x12)&&(!x13))&&(decide (x14=(2:Int))))&&((x15==([113,117,101,114,121,32,123,32,81,117,101,114,121,46,109,101,58,32,109,101,32,123,32,85,115,101,114,46,110,97,109,101,58,32,110,97,109,101,32,125,32,125]:Bs))))) (Z68 x16 x3.2.1) false fun x17=>some ((((((((((decide (x6.2=(0:Int)))&&(decide (x8.2=(2:Int))))&&(decide (x6.1.FKind=(1:Int))))&&x10)&&x11)&&x12)&&(!x13))&&(decide (x14=(2:Int))))&&((x15==([113,117,101,114,121,32,123,32,81,117,101,114,121,46,109,101,58,32,109,101,32,123,32,85,115,101,114,46,110,97,109,101,58,32,110,97,109,101,32,125,32,125]:Bs))))&&x17)
theorem Z40_walk  {oT:Ab.Obj}{gT:Nat}{r:Bool}(hE:Z40 =some r) (H:Heap) (hgT:H gT=some oT) (hoT:IsTab Tryz.prog oT):AC Tryz.prog 8 [] H fun v h'=>v=.a (.d (.bool r))/\h'=H:=by
 unfold Z40 at hE;refine AC.oW 82 [.tmp 0] Tryz.call8 Tryz.func8 ?_;refine seqR (S As (nil ?_));refine seqR ?_;obtain⟨x3,gx3,hE⟩:=bO hE;refine Sc rfl rfl (Z39_walk gx3) ?_;refine S Mv (S EX (S EX (S EX ?_)));refine Sl ?_;refine Sl ?_;refine Sl ?_;refine Sf ?_;refine Sf ?_;refine Sf ?_;refine nil ?_;refine freezeA 3 _ rfl (KA 1 (KA 2 Keeps.nil)) ?_;refine freezeA 2 _ rfl (KA 1 (KA 3 Keeps.nil)) ?_
 refine freezeA 1 _ rfl (KA 2 (KA 3 Keeps.nil)) ?_;refine seqR (S BU ?_);refine Sl ?_;refine Sf ?_;refine nil ?_;refine freezeA 4 _ rfl (KA 1 (KA 2 (KA 3 Keeps.nil))) ?_;refine seqR (S Ld (S Ld (S Ld ?_)));obtain⟨x6,gx6,hE⟩:=bO hE;refine s0 (callR rfl rfl (Z44_walk (gT:=gT) (oT:=oT) gx6 _ hpG (by assumption))) rfl ?_;refine S Mv (S EX (S EX ?_));refine Sl ?_;refine Sf ?_;refine S As (nil ?_);refine freezeA 5 _ rfl (KA 1 (KA 2 (KA 3 (KA 4 (KA 6 Keeps.nil))))) ?_
 refine seqR (S Ld (S Ld (S Ld ?_)));obtain⟨x8,gx8,hE⟩:=bO hE;refine s0 (callR rfl rfl (Z44_walk (gT:=gT) (oT:=oT) gx8 _ hpG (by assumption))) rfl ?_;refine S Mv (S EX (S EX ?_));refine Sl ?_;refine Sf ?_;refine S As (nil ?_);refine freezeA 7 _ rfl (KA 1 (KA 2 (KA 3 (KA 5 (KA 6 (KA 8 Keeps.nil)))))) ?_;refine AWp.seqD (Sd Mv (Sd BI (Sd Mv (G0d Mv ?_))));refine G1d 32 rfl BI ?_;refine Sd PA (Sd Mv (G0d Fv ?_))
 refine G1d 36 rfl Ld ?_;refine G1d 37 rfl BI ?_;refine Sd PA (Sd Mv (G0d Fv ?_));refine G1d 41 rfl Ld ?_;refine G0d Fv ?_;refine G1d 43 rfl Ld ?_;obtain⟨x10,gx10,hE⟩:=gO hE;refine Gc2d 42 44 rfl rfl rfl rfl rfl rfl (fun hC=>Z75_walk (gx10 hC)) ?_;refine Sd PA (Sd Mv (G0d Fv ?_));refine G1d 48 rfl Ld ?_;refine G0d Fv ?_;refine G1d 50 rfl Ld ?_;obtain⟨x11,gx11,hE⟩:=gO hE;refine Gc2d 49 51 rfl rfl rfl rfl rfl rfl (fun hC=>normal_Same_walk (gx11 hC)) ?_
 refine Sd PA (Sd Mv (G0d Ld (G0d Ld ?_)));obtain⟨x12,gx12,hE⟩:=gO hE;refine DOps.gC rfl rfl (fun hC=>ungdA (k:=55) rfl (ungdA (k:=56) rfl (callR rfl rfl (Z46_walk (gT:=gT) (oT:=oT) (gx12 hC) _ hpG (by assumption))))) rfl ?_;refine Sd PA (Sd Mv (G0d Ld (G0d BU ?_)));obtain⟨x13,gx13,hE⟩:=gO hE;refine DOps.gC rfl rfl (fun hC=>ungdA (k:=60) rfl (ungdA (k:=61) rfl (callR rfl rfl (Z46_walk (gT:=gT) (oT:=oT) (gx13 hC) _ hpG (by assumption))))) rfl ?_
 refine G1d 62 rfl NB ?_;refine Sd PA (Sd Mv (G0d Fv ?_));refine G1d 66 rfl Ld ?_;obtain⟨x14,gx14,hE⟩:=gO hE;refine Gc1d 67 rfl rfl rfl rfl rfl (fun hC=>Z43_walk (gx14 hC)) ?_;refine G1d 68 rfl BI ?_;refine Sd PA (Sd Mv (G0d Ld ?_));obtain⟨x15,gx15,hE⟩:=gO hE;refine DOps.gC rfl rfl (fun hC=>ungdA (k:=72) rfl (callR rfl rfl (Z49_walk (gT:=gT) (oT:=oT) (gx15 hC) _ hpG (by assumption)))) rfl ?_;refine G1d 73 rfl BS ?_
 refine Sd PA (Sd Mv (G0d Ld ?_));obtain⟨x16,gx16,hE⟩:=gO hE;refine Gc1d 77 rfl rfl rfl rfl rfl (fun hC=>Z45_walk (gx16 hC)) ?_;refine G0d Ld ?_;obtain⟨x17,gx17,hE⟩:=gO hE;refine Gc2d 78 79 rfl rfl rfl rfl rfl rfl (fun hC=>Z68_walk (gx17 hC)) ?_;refine Sd PA (Sd As ?_);refine DOps.nil (by decide +kernel) ?_;exact rt hE
end
def Z73 (a0:Int):Option Bs:=bif (decide (a0=(1:Int))) then(some ([81,117,101,114,121]:Bs)) else(bif (decide (a0=(2:Int))) then(some ([77,117,116,97,116,105,111,110]:Bs)) else(bif (decide (a0=(3:Int))) then(some ([83,117,98,115,99,114,105,112,116,105,111,110]:Bs)) else(some ([]:Bs))))
theorem Z73_walk {a0:Int}{r:Bs}(hE:Z73 a0=some r) (H:Heap) :AC Tryz.prog 31 [.d (.int .i64 a0)] H fun v h'=>v=.a (.d (.str r))/\h'=H:=by
 unfold Z73 at hE;refine AC.oW 10 [.tmp 2] Tryz.call31 Tryz.func31 ?_;refine seqR (S As (nil ?_));refine seqK fun K2 hK2=>?_;refine seqR (S Mv (nil ?_));refine block ?_;refine seqR (S BI (S As (nil ?_)));refine cE hE (fun hc5 hE=>?_) (fun hc5 hE=>?_)
 ·refine seqR (S As (nil ?_));exact rt hE
 refine seqR (S BI (S As (nil ?_)));refine cE hE (fun hc8 hE=>?_) (fun hc8 hE=>?_)
 ·refine seqR (S As (nil ?_));exact rt hE
 refine seqR (S BI (S As (nil ?_)));refine cE hE (fun hc11 hE=>?_) (fun hc11 hE=>?_)
 ·refine seqR (S As (nil ?_));exact rt hE
 refine sk hK2 ?_;clear hK2 K2;refine seqR (S As (nil ?_));exact rt hE
def Z77 (a0:Bs):Option Z11:=some (Z11.mk (3:Int) (0:Int) a0 true ([]) (Sl.nil:Sl Bs))
theorem Z77_walk {a0:Bs}{r:Z11}(hE:Z77 a0=some r) (H:Heap) :AC Tryz.prog 90 [.d (.str a0)] H fun v h'=>v=.a (.agg (Z11.c r))/\h'=H:=by
 unfold Z77 at hE;refine AC.oW 5 [.cell 2 58] Tryz.call90 Tryz.func90 ?_;refine seqR ?_;refine Sl ?_;refine nil ?_;refine seqR (S Mv (S BU ?_));refine Sf ?_;refine nil ?_;exact rt hE
end Go.Proofs
