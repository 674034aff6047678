import Derived.Test.YtbghdiaepdaaeaaGreatDoorV6
set_option maxRecDepth 100000
set_option maxHeartbeats 2000000
set_option linter.unusedVariables false
set_option linter.unusedSimpArgs false
namespace Go.Proofs
open Go Go.Ab
open aS aq ah aU dV
variable {an:bf}
-- @uses supergraph/collect.Included slices.IndexFunc[[]supergraph/collect.Group,supergraph/collect.Group] (*supergraph/collect.collector).field$1
def fZ (e:Z1):Bs:=bif (e.bS.gq==([]:Bs)) then e.bS.ai else e.bS.gq
noncomputable def gV (d:ar) (q:dK) (on:Bs) (vars:af) (out m:D):List D:=ar.c d++dK.c q++aM on++af.c vars++[out]++[m]
set_option maxRecDepth 100000 in
set_option maxHeartbeats 4000000 in
theorem Se {d:ar}{q:dK}{on:Bs}{vars:af}{m:D}{e:Z1}{c:Nat}(H:ag) (hc:H c=some (.cells (gV d q on vars (.slice 2 none true []) m))) :
  AC Tryz.prog 205 [.d (.ptr c 0),.agg (Z1.c e)] H fun v h'=>v=.dM []/\∃id,H id=none/\h'=(H.set id (some (.arr 2 (([⟨fZ e,⟨false,[e]⟩⟩]:List Z2).map Z2.c)))).set c (some (.cells (gV d q on vars (.arr 2 id false 1) m))):=by
 refine AC.oW 56 [] Tryz.call205 Tryz.func205 ?_;refine aa (S BX (nil ?_));refine aa (S Fv (S Fv (S Ld ?_)));refine Sl ?_;refine Sf ?_;refine nil ?_;refine fO (TA 0 (TA 3 (TA 4 kN))) (fun(z:Unit)=>[]) (fun z=>[[.str (fZ e)]]) (fun z=>H) (fun z=>True) ?_ ?_
 ·intro K g;refine aa (S LL (S BS (nil ?_)));cases hk:(e.bS.gq==([]:Bs)) with
  | true =>
   refine ah.py rfl rfl ?_;refine region ?_;refine S Fv (S Fv (S Ld ?_));refine Sf ?_;refine nil ?_;have B:fZ e=e.bS.ai:=by unfold fZ; rw [hk]; rfl
   rw [B] at g;exact g _ () wA trivial
  | false =>
   refine ah.mg rfl rfl ?_;refine ah.skip ?_;have B:fZ e=e.bS.gq:=by unfold fZ; rw [hk]; rfl
   rw [B] at g;exact g _ () wA trivial
 rintro ⟨⟩ -;refine bH 4 _ rfl (KA 0 (KA 3 aU.nil)) ?_;refine aa (S Mv (S NP ?_));refine s0 (dr (TK rfl) rfl rfl (TK rfl) rfl rfl) rfl ?_;refine s0 (ew (v:=.d (Sl.d 2 Z2.c none Sl.nil)) (TK rfl) rfl rfl hc rfl) rfl ?_;refine s0 (makeFunc rfl) rfl ?_;refine s0 (fh rfl rfl (fun H=>Sa (r := -1) (a1:=fun y=>CQ y (fZ e)) rfl H (fun _ _ hx=>Sb hx))) rfl ?_;refine S As (nil ?_)
 refine ay fun I F=>?_;refine aa (S Mv (S BI (nil ?_)));refine ah.py rfl (by decide) ?_;refine aa (S Mv (S NP ?_));refine s0 (dr (TK rfl) rfl rfl (TK rfl) rfl rfl) rfl ?_;refine s0 (ew (v:=.d (Sl.d 2 Z2.c none Sl.nil)) (TK rfl) rfl rfl hc rfl) rfl ?_;refine sLen (f:=Z2.c) (s:=Sl.nil) (TK rfl) rfl rfl rfl rfl fun Q=>?_;refine S As (nil ?_);refine ah.Nr 2 fun id hid=>?_;have k:c≠id:=fun e=>by rw [<- e,hc] at hid; cases hid
 have J:(H.set id (some (.arr 2 []))) c=some (.cells (gV d q on vars (.slice 2 none true []) m)):=by simp only [ag.set,if_neg k]; exact hc
 refine ah.lC c (gV d q on vars (.arr 2 id true 0) m) J (fun j w cs hr L=>(L.Oc 9 (x:=.slice 2 none true []) (y:=.arr 2 id true 0) rfl (fun b M=>Ns hr (ag.cn ..) M))) ?_;have N:((H.set id (some (.arr 2 []))).set c (some (.cells (gV d q on vars (.arr 2 id true 0) m)))) id=some (.arr 2 (([]:List Z2).map Z2.c)):=by simp [ag.set,Ne.symm k]
 have O:((H.set id (some (.arr 2 []))).set c (some (.cells (gV d q on vars (.arr 2 id true 0) m)))) c=some (.cells (gV d q on vars (.arr 2 id true 0) m)):=ag.cn ..;refine ah.draw rfl ?_;refine Sd Mv (Sd Mv (Sd NP ?_));refine au.s0 (dr (TK rfl) rfl rfl (TK rfl) rfl rfl) rfl ?_;refine au.s0 (ew (v:=.d (.arr 2 id true 0)) (TK rfl) rfl rfl O rfl) rfl ?_;refine Sd Ld (Sd BU (Sd BV ?_))
 refine au.sH (Nq (f:=Z2.c) (s:=Sl.nil) (r:=⟨false,[⟨fZ e,Sl.nil⟩]⟩) (v:=⟨false,[⟨fZ e,Sl.nil⟩]⟩) (TK rfl) rfl (TK rfl) (TK rfl) ⟨_,rfl⟩ rfl rfl rfl rfl rfl rfl N rfl rfl rfl) rfl ?_;refine Sd NP ?_;refine au.s0 (dr (TK rfl) rfl rfl (TK rfl) rfl rfl) rfl ?_;have P:(((H.set id (some (.arr 2 []))).set c (some (.cells (gV d q on vars (.arr 2 id true 0) m)))).set id (some (.arr 2 ((⟨false,[⟨fZ e,Sl.nil⟩]⟩:Sl Z2).l.map Z2.c)))) c=some (Ab.Obj.cells (gV d q on vars (.arr 2 id true 0) m)):=by simp [ag.set,k]
 refine au.iK (qP (TK rfl) rfl rfl P rfl (by repeat (first|exact dG.zero|apply dG.succ))) rfl rfl ?_;refine au.nil (by decide +kernel) ?_;refine F _ ?_;clear F I;obtain⟨C,p⟩:∃x,x=(H.set id (some (.arr 2 (([⟨fZ e,Sl.nil⟩]:List Z2).map Z2.c)))).set c (some (.cells (gV d q on vars (.arr 2 id false 1) m))):=⟨_,rfl⟩;refine ah.ga (h':=C) ?_ ?_
 ·rw [p]
  funext n
  by_cases h1:n=c
  ·subst h1; simp only [ag.set,if_true]; rfl
  by_cases E:n=id
  ·subst E; simp only [ag.set,if_neg h1,if_true]
  simp only [ag.set,if_neg h1,if_neg E]
 have t:C id=some (.arr 2 (([⟨fZ e,Sl.nil⟩]:List Z2).map Z2.c)):=by rw [p]; simp [ag.set,Ne.symm k]
 have G:C c=some (.cells (gV d q on vars (.arr 2 id false 1) m)):=by rw [p]; exact ag.cn ..
 refine ah.draw rfl ?_;refine Sd Mv (Sd NP ?_);refine au.s0 (dr (TK rfl) rfl rfl (TK rfl) rfl rfl) rfl ?_;refine au.s0 (ew (v:=.d (.arr 2 id false 1)) (TK rfl) rfl rfl G rfl) rfl ?_;refine Sd Mv (Sd Mv (Sd NP ?_));refine au.s0 (dr (TK rfl) rfl rfl (TK rfl) rfl rfl) rfl ?_;refine au.s0 (ew (v:=.d (.arr 2 id false 1)) (TK rfl) rfl rfl G rfl) rfl ?_;refine Sd Mv ?_;refine au.s0 (Fu (f:=Z2.c) (l:=[⟨fZ e,Sl.nil⟩]) (TK rfl) rfl (TK rfl) rfl rfl rfl t rfl rfl) rfl ?_
 refine au.s0 (Fs (TK rfl) rfl rfl (TK rfl) rfl rfl) rfl ?_;refine au.s0 (Nn (f:=Z2.c) (l:=[⟨fZ e,Sl.nil⟩]) (i:=0) (o:=1) (v:=.d (Sl.d 8 Z1.c none Sl.nil)) (TK rfl) rfl rfl t rfl rfl rfl rfl) rfl ?_;refine Sd Ld ?_;refine au.s0 (pG (TK rfl) rfl (TK rfl) rfl rfl rfl rfl rfl rfl) rfl ?_;refine au.s0 (Ob (TK rfl) rfl (TK rfl) (TK rfl) (.inl ⟨_,rfl⟩) rfl rfl (by decide) rfl rfl rfl rfl (by simp only [List.length_set,List.length_replicate]; decide) (by simp only [List.length_set,List.length_replicate]; decide)) rfl ?_
 refine au.s0 (Fu (f:=Z2.c) (l:=[⟨fZ e,Sl.nil⟩]) (TK rfl) rfl (TK rfl) rfl rfl rfl t rfl rfl) rfl ?_;refine au.s0 (Fs (TK rfl) rfl rfl (TK rfl) rfl rfl) rfl ?_;refine au.iK (No (f:=Z2.c) (l:=[⟨fZ e,Sl.nil⟩]) (u:=⟨fZ e,Sl.nil⟩) (u':=⟨fZ e,⟨false,[e]⟩⟩) (i:=0) (o:=1) (TK rfl) rfl rfl t rfl rfl rfl rfl (by decide) rfl rfl) rfl rfl ?_;refine au.nil (by decide +kernel) ?_
 refine bF.normal rfl ⟨rfl,id,hid, ?_⟩;rw [p]; funext n; simp only [ag.set]; by_cases h1:n=c<;>by_cases E:n=id<;>simp_all
set_option maxRecDepth 100000 in
set_option maxHeartbeats 4000000 in
theorem Sg {d:ar}{q:dK}{on:Bs}{vars:af}{m:D}{e:Z1}{c:Nat}(g:decide (e.bS.ak=(3:Int))=false) (i:decide (e.bS.ak=(2:Int))=false) (b:e.bS.ct.l=[]) (H:ag) (hc:H c=some (.cells (gV d q on vars (.slice 2 none true []) m))) :
  AC Tryz.prog 159 [.d (.ptr c 0),.agg (Z1.c e)] H fun v h'=>v=.dM []/\∃id,H id=none/\h'=(H.set id (some (.arr 2 (([⟨fZ e,⟨false,[e]⟩⟩]:List Z2).map Z2.c)))).set c (some (.cells (gV d q on vars (.arr 2 id false 1) m))):=by
 refine AC.oW 110 [] Tryz.call159 Tryz.func159 ?_;refine aa (S BX (nil ?_));refine ay fun j f=>?_;refine ah.cH (Sd Fv (Sd Fv (Sd Ld (Sd Mv (Sd NP ?_)))));refine au.s0 (dr (TK rfl) rfl rfl (TK rfl) rfl rfl) rfl ?_;refine au.s0 (ew (v:=.agg (af.c vars)) (TK rfl) rfl rfl hc rfl) rfl ?_;have k:CO e.bS.ct vars=some true:=by
  cases hx:e.bS.ct with
  | mk nl l=>rw [hx] at b; subst b; rfl
 refine au.s0 (fh rfl rfl (fun H=>R_ (w0:=none) k H)) rfl ?_;refine Sd NB ?_;refine au.nil (by decide +kernel) ?_;refine ah.mg rfl rfl ?_;refine sk f ?_;clear f j;refine aa (S Fv (S Fv (S Ld (nil ?_))));refine block ?_;refine aa (S BI (S As (nil ?_)));refine ah.mg rfl g ?_;refine aa (S BI (S As (nil ?_)));refine ah.mg rfl i ?_;refine region ?_;refine S Mv (S Ld ?_)
 refine sE (dZ.call rfl rfl (Se _ hc)) rfl (fun v aH h' hv=>?_);obtain⟨⟨rfl,id,hid,o⟩,rfl⟩:=hv;refine nil ?_;unfold vh;exact bF.normal rfl ⟨rfl,id,hid,o⟩
def CR (f:ar) (g:dK) (i:Bs) (b:Sl Z1) (j:af):Option (Sl Z2):=match b.l with
 | [e]=>bif (decide (e.bS.ak=(3:Int))||decide (e.bS.ak=(2:Int)))||!e.bS.ct.l.isEmpty then none else some ⟨false,[⟨fZ e,⟨false,[e]⟩⟩]⟩
 | _=>none
set_option maxRecDepth 100000 in
set_option maxHeartbeats 4000000 in
theorem Sh {j:ar}{m:dK}{p:Bs}{u:Sl Z1}{q:af}{I:Option Nat}{r:Sl Z2}(b:CR j m p u q=some r) (H:ag) :
  AC Tryz.prog 103 [.agg (ar.c j),.agg (dK.c m),.d (.str p),.d (Sl.d 8 Z1.c I u),.agg (af.c q)] H fun v h'=>v=.a (.d (Sl.d 2 Z2.c none r))/\h'=H:=by
 obtain⟨e,hl,J,K,L,hr⟩:∃e,u.l=[e]/\decide (e.bS.ak=(3:Int))=false/\decide (e.bS.ak=(2:Int))=false/\e.bS.ct.l=[]/\r=⟨false,[⟨fZ e,⟨false,[e]⟩⟩]⟩:=by
  unfold CR at b
  split at b
  ·rename_i e he
   cases hc:((decide (e.bS.ak=(3:Int))||decide (e.bS.ak=(2:Int)))||!e.bS.ct.l.isEmpty) with
   | true=>rw [hc] at b; cases b
   | false =>
    rw [hc] at b;simp only [Bool.or_eq_false_iff,Bool.not_eq_false'] at hc;exact⟨e,he,hc.1.1,hc.1.2,List.isEmpty_iff.1 hc.2,(oJ b).symm⟩
  cases b
 subst hr;refine AC.oW 35 [.tmp 10] Tryz.call103 Tryz.func103 ?_;refine aa (S BX (S BX (S BX (S As (nil ?_)))));refine aa (S Ld (S Ld (S Mv (S Ld ?_))));refine sE (dZ.makeMap) rfl (fun _ _ _ ⟨g,M,t,B,C⟩=>?_); subst t B C;refine S BU ?_;refine sE (dZ.tA rfl) rfl (fun _ _ _ ⟨c,F,t,B,C⟩=>?_); subst t B C;refine S As (nil ?_);have hc:((H.set g (some (.map []))).set c (some (.cells (gV j m p q (.slice 2 none true []) (.map g))))) c=some (.cells (gV j m p q (.slice 2 none true []) (.map g))):=ag.cn ..
 obtain⟨H1,w⟩:∃x,x=(H.set g (some (.map []))).set c (some (.cells (gV j m p q (.slice 2 none true []) (.map g)))):=⟨_,rfl⟩;refine ah.ga (h':=H1) w.symm ?_;rw [<- w] at hc;refine ay fun R N=>?_;refine aa (S Mv ?_);refine sLen (f:=Z1.c) (s:=u) (TK rfl) rfl rfl rfl rfl fun U=>?_;refine S Mv (nil ?_);refine block ?_;refine bD (TA 11 (TA 21 (TA 22 kN))) (fun(z:Option Nat)=>[(23,.a (.d (.int .i64 (match z with|none=>0|some _=>1))))])
  (fun z=>match z with|none=>H1|some id=>(H1.set id (some (.arr 2 (([⟨fZ e,⟨false,[e]⟩⟩]:List Z2).map Z2.c)))).set c (some (.cells (gV j m p q (.arr 2 id false 1) (.map g))))) (fun z=>match z with|none=>1|some _=>0) (fun z=>match z with|none=>True|some id=>H1 id=none) none trivial wA ?_
 rintro z O W P;cases z with
 | none =>
  refine aa (S BI (nil ?_));refine ay fun y i=>?_;refine ah.py rfl (by rw [hl]; rfl) ?_;refine sk i ?_;clear i y;refine ay fun y i=>?_;refine block ?_;refine aa ?_;refine s0 (eO (f:=Z1.c) (n:=0) (TK rfl) rfl (TK rfl) rfl rfl rfl (show u.l[0]?=some e by rw [hl]; rfl)) rfl ?_;refine S Ld ?_;refine Sl ?_;refine Sf ?_;refine nil ?_;refine bH 13 _ rfl (KA 11 (KA 21 (KA 22 (KA 23 aU.nil)))) ?_
  refine region ?_;refine S Mv (S Ld ?_);refine sE (dZ.call rfl rfl (Sg J K L _ hc)) rfl (fun v aH h' hv=>?_);obtain⟨⟨rfl,id,hid,t⟩,rfl⟩:=hv;subst t;refine nil ?_;refine i _ ?_;clear i y;refine region ?_;refine s0 (dc rfl rfl (r:=1) rfl) rfl ?_;refine S Mv (nil ?_);exact P _ (some id) wA hid (Nat.zero_lt_one)
 | some id =>
  refine aa (S BI (nil ?_));refine ay fun y i=>?_;refine ah.mg rfl (by rw [hl]; rfl) ?_;refine ah.exit ?_;have hid:H1 id=none:=O;have Q:c≠id:=fun e=>by rw [<- e,hc] at hid; cases hid
  refine N _ ?_;refine aa (S Mv (S NP ?_));refine s0 (dr (TK rfl) rfl rfl (TK rfl) rfl rfl) rfl ?_;refine s0 (ew (v:=.d (.arr 2 id false 1)) (TK rfl) rfl rfl (ag.cn ..) rfl) rfl ?_;refine S As (nil ?_);refine ah.zk 10 id rfl (ag.bV _ _ (Ne.symm Q) |>.trans (ag.cn ..)) rfl ?_;refine ah.ret ?_;refine bF.bK H rfl ⟨rfl,rfl⟩ ?_;intro k o hk;have E:k≠g:=fun e=>by subst e; rw [M] at hk; cases hk
  have k2:k≠c:=fun e=>by
   subst e;rw [ag.bV _ _ E,hk] at F;cases F
  have G:k≠id:=fun e=>by
   subst e;rw [w,ag.bV _ _ k2,ag.bV _ _ E,hk] at hid;cases hid
  show (ag.set (ag.set (ag.set H1 id _) c _) id none) k=some o;rw [ag.bV _ _ G,ag.bV _ _ k2,ag.bV _ _ G,w,ag.bV _ _ k2,ag.bV _ _ E];exact hk
def xO (b:aB):Option aB:=(wU b).bind fun f=>bif f then(none) else((bp 8 (⟨false,[(1:Int)]⟩:Sl Int) b.aX).bind fun g=>some (aB.mk b.ai g))
theorem Si {i r:aB}(b:xO i=some r) (H:ag) :AC Tryz.prog 166 [.agg (aB.c i)] H fun v h'=>v=.a (.agg (aB.c r))/\h'=H:=by
 unfold xO at b;refine AC.oW 18 [.cell 2 50] Tryz.call166 Tryz.func166 ?_;refine aa (S BX ?_);refine Sl ?_;refine nil ?_;refine ay fun j g=>?_;refine aa (S Ld ?_);obtain⟨o,k,b⟩:=bO b;refine Sc rfl rfl (HS k) ?_;refine nil ?_;refine cE b (fun l b=>?_) (fun l b=>?_)
 ·cases b
 refine sk g ?_;clear g j;refine ah.cH (Sd Fv (Sd Ld ?_));refine au.s0 (pG (TK rfl) rfl (TK rfl) rfl rfl rfl rfl rfl rfl) rfl ?_;refine Sd Fv (Sd Ld ?_);obtain⟨p,m,b⟩:=bO b;refine au.s0 (tI (f:=(bE .i64)) (TK rfl) rfl (TK rfl) (TK rfl) ⟨_,rfl⟩ rfl rfl (by decide) rfl rfl rfl (by intro q h; cases h<;>decide) rfl rfl m) rfl ?_;refine Sd BU ?_;refine au.dU (eA (TK rfl) rfl rfl rfl rfl rfl) ?_
 refine au.nil (by decide +kernel) ?_;exact rt b
def IW (b:aB):Option aB:=xO b
theorem Sj (a0:aB):xO a0=IW a0:=rfl
def xP (b:Bs):aB:=(aB.mk b (Sl.nil:Sl Int))
def CS (b:Bs):Option aB:=some (xP b)
theorem Sk (a0:Bs):CS a0=some (xP a0):=rfl
theorem Sn {f:Bs}{r:aB}(b:CS f=some r) (H:ag) :AC Tryz.prog 167 [.d (.str f)] H fun v h'=>v=.a (.agg (aB.c r))/\h'=H:=by
 unfold CS xP at b;refine AC.oW 5 [.cell 2 50] Tryz.call167 Tryz.func167 ?_;refine aa ?_;refine Sl ?_;refine nil ?_;refine aa (S Mv (S BU ?_));refine Sf ?_;refine nil ?_;exact rt b
def IX :Option aB:=on (xP ([83,116,114,105,110,103]:Bs)) fun b=>(IW b).bind fun f=>some f
def CT :Option aB:=IX 
theorem Sq    {r:aB}(b:CT =some r) (H:ag) :AC Tryz.prog 107 [] H fun v h'=>v=.a (.agg (aB.c r))/\h'=H:=by
 unfold CT IX at b;refine AC.oW 3 [.cell 0 50] Tryz.call107 Tryz.func107 ?_;refine aa ?_;refine Sl ?_;refine nil ?_;refine aa ?_;obtain⟨i,f,b⟩:=vT (Sk _) b;refine Sc rfl rfl (Sn f) ?_;obtain⟨j,g,b⟩:=qT (Sj _) b;refine Sc rfl rfl (Si g) ?_;refine Sf ?_;refine nil ?_;exact rt b
def IY  :Option Int:=some (-1:Int)
def CU (f:(Sl Z1)) (j:(Z1->Option Bool)) :Nat->Nat->Option Int
 | 0,_=>none
 | k+1,b=>bif (decide (((b:Nat):Int)<((f.l.length:Nat):Int))) then((f.l[b]?).bind fun g=>(j g).bind fun i=>bif i then(some ((b:Nat):Int)) else(none)) else(none)
def CV (b:(Sl Z1)) (f:(Z1->Option Bool)):Option Int:=CU b f (b.l.length+1) 0
theorem Sr {g:Sl Z1}{j:Z1->Option Bool}{w0:Option Nat}{k:List D}{m:Nat}{r:Int}(b:CV g j=some r) (H:ag) (t:∀o r,j o=some r->∀H,AC Tryz.prog m ([.agg (Z1.c o)]++k.map A.d) H fun v h'=>v=.a (.d (.bool r))/\h'=H):AC Tryz.prog 236 [.d (Sl.d 8 Z1.c w0 g),.d (.func m k)] H fun v h'=>v=.a (.d (.int .i64 r))/\h'=H:=by
 unfold CV at b;refine AC.oW 19 [.tmp 4] Tryz.call236 Tryz.func236 ?_;refine aa (S As (nil ?_));refine aP kN (fun(z:Unit)=>[]) (fun z=>H) (fun z=>IY =some r) ?_ ?_
 ·intro C E;refine aa (S Mv ?_);refine sLen (f:=Z1.c) (s:=g) (TK rfl) rfl rfl rfl rfl fun F=>?_;refine S Mv (nil ?_);refine block ?_;refine bD (TA 0 (TA 1 (TA 7 kN))) (fun(z:Nat×Nat)=>[(8,.a (.d (.int .i64 ((z.2:Nat):Int))))]) (fun z=>H) (fun z=>z.1) (fun z=>CU g j z.1 z.2=some r) ((g.l.length+1),0) b wA ?_;rintro ⟨p,u⟩ b G I;try dsimp only at b
  cases p with
  | zero=>cases b
  | succ p =>
    rw [CU] at b;refine aa (S BI (nil ?_));refine ay fun w q=>?_;refine cE b (fun i b=>?_) (fun i b=>?_)
    ·try dsimp only at i
     have J:=oD i;refine sk q ?_;clear q w;refine ay fun K L=>?_;refine block ?_;refine aa (S Mv (S As (nil ?_)));refine aa (S Mv (S Mv (S Mv ?_)));obtain⟨M,x,b⟩:=bO b;refine S (ix Z1.c u x) (S Ld ?_);obtain⟨N,y,b⟩:=bO b;refine s0 (fh rfl rfl (t _ _ y)) rfl ?_;refine nil ?_;refine cE b (fun B b=>?_) (fun B b=>?_)
     ·refine aa (S Mv (S As (nil ?_)));exact rt b
     cases b
    cases b
 rintro _ b;try dsimp only at b
 unfold IY at b;refine aa (S As (nil ?_));exact rt b
def CW (f:(Sl Z1)) (g:(Z1->Option Bool)):Option Bool:=(CV f g).bind fun b=>some (decide ((0:Int)<=b))
theorem Ss {j:Sl Z1}{k:Z1->Option Bool}{w0:Option Nat}{f:List D}{g:Nat}{r:Bool}(b:CW j k=some r) (H:ag) (l:∀i r,k i=some r->∀H,AC Tryz.prog g ([.agg (Z1.c i)]++f.map A.d) H fun v h'=>v=.a (.d (.bool r))/\h'=H):AC Tryz.prog 206 [.d (Sl.d 8 Z1.c w0 j),.d (.func g f)] H fun v h'=>v=.a (.d (.bool r))/\h'=H:=by
 unfold CW at b;refine AC.oW 9 [.tmp 4] Tryz.call206 Tryz.func206 ?_;refine aa (S As (nil ?_));refine aa (S Mv (S Mv ?_));obtain⟨o,m,b⟩:=bO b;refine s0 (fh rfl rfl (fun H=>Sr m H l)) rfl ?_;refine S BI (S As (nil ?_));exact rt b
def IZ (b:Z1):Bool:=((b.bZ==([]:Bs)))
def CX (b:Z1):Option Bool:=some (IZ b)
theorem Su {f:Z1}{r:Bool}(b:CX f=some r) (H:ag) :AC Tryz.prog 207 [.agg (Z1.c f)] H fun v h'=>v=.a (.d (.bool r))/\h'=H:=by
 unfold CX IZ at b;refine AC.oW 6 [.tmp 2] Tryz.call207 Tryz.func207 ?_;refine aa (S BX (S As (nil ?_)));refine aa (S Fv (S Ld (S BS (S As (nil ?_)))));exact rt b
def CY (b:Z2):Option Bs:=aQ (!(decide (((b.jJ.l.length:Nat):Int)=(0:Int)))) (CW b.jJ CX) false fun f=>bif ((decide (((b.jJ.l.length:Nat):Int)=(0:Int)))||f) then(some ([]:Bs)) else(none)
theorem Sv {g:Z2}{r:Bs}(b:CY g=some r) (H:ag) :AC Tryz.prog 160 [.agg (Z2.c g)] H fun v h'=>v=.a (.d (.str r))/\h'=H:=by
 unfold CY at b;refine AC.oW 17 [.tmp 2] Tryz.call160 Tryz.func160 ?_;refine aa (S BX (S As (nil ?_)));refine ay fun l m=>?_;refine aa (S Fv (S Ld ?_));refine sLen (f:=Z1.c) (s:=g.jJ) (TK rfl) rfl rfl rfl rfl fun o=>?_;refine S BI (S Mv (G0 Fv ?_));refine G1 8 rfl Ld ?_;obtain⟨p,i,b⟩:=gO b;refine gC rfl rfl (fun hC=>aI (k:=9) rfl (fh rfl rfl (fun H=>Ss (i hC) H (fun _ _ hx=>Su hx)))) rfl ?_
 refine S PO (nil ?_);refine cE b (fun j b=>?_) (fun j b=>?_)
 ·refine aa (S As (nil ?_));exact rt b
 cases b
def CZ  :Option Int:=some (-1:Int)
def C0 (b:Nat) (f:Nat->Option Int) :Option Int:=f (b+1)
def C1 (b:Nat) (f:Z1) (g:Nat->Option Int):Nat->Nat->Option Int
 | 0,_=>none
 | j+1,i=>bif (decide (((i:Nat):Int)<((f.bS.ct.l.length:Nat):Int))) then(none) else(C0 b g )
def sU (f:(Sl Z1)) :Nat->Nat->Option Int
 | 0,_=>none
 | i+1,b=>bif (decide (((b:Nat):Int)<((f.l.length:Nat):Int))) then((f.l[b]?).bind fun g=>C1 b g ((sU f i)) (g.bS.ct.l.length+1) 0) else(CZ   )
def C2 (b:(Sl Z1)):Option Int:=sU b (b.l.length+1) 0
theorem Sw {g:Sl Z1}{w0:Option Nat}{r:Int}(b:C2 g=some r) (H:ag) :AC Tryz.prog 161 [.d (Sl.d 8 Z1.c w0 g)] H fun v h'=>v=.a (.d (.int .i64 r))/\h'=H:=by
 unfold C2 at b;refine AC.oW 43 [.tmp 2] Tryz.call161 Tryz.func161 ?_;refine aa (S As (nil ?_));refine aP kN (fun(z:Unit)=>[]) (fun z=>H) (fun z=>CZ =some r) ?_ ?_
 ·intro B t;refine aa (S Mv ?_);refine sLen (f:=Z1.c) (s:=g) (TK rfl) rfl rfl rfl rfl fun C=>?_;refine S Mv (nil ?_);refine block ?_;refine bD (TA 9 (TA 10 kN)) (fun(z:Nat×Nat)=>[(11,.a (.d (.int .i64 ((z.2:Nat):Int))))]) (fun z=>H) (fun z=>z.1) (fun z=>sU g z.1 z.2=some r) ((g.l.length+1),0) b wA ?_;rintro ⟨i,j⟩ b E u;try dsimp only at b
  cases i with
  | zero=>cases b
  | succ i =>
    rw [sU] at b;refine aa (S BI (nil ?_));refine ay fun w p=>?_;refine cE b (fun k b=>?_) (fun k b=>?_)
    ·try dsimp only at k
     have F:=oD k;refine sk p ?_;clear p w;refine aP (TA 9 (TA 10 (TA 11 kN))) (fun(z:Unit)=>[]) (fun z=>H) (fun z=>C0 j ((sU g i)) =some r) ?_ ?_
     ·intro G x;refine block ?_;refine aa ?_;obtain⟨m,y,b⟩:=bO b;refine S (ix Z1.c j y) (S Ld ?_);refine Sl ?_;refine Sf ?_;refine nil ?_;refine bH 4 _ rfl (KA 9 (KA 10 (KA 11 aU.nil))) ?_;refine aa (S Fv (S Fv (S Ld ?_)));refine sLen (f:=aN.c) (s:=m.bS.ct) (TK rfl) rfl rfl rfl rfl fun I=>?_;refine S Mv (nil ?_);refine block ?_;refine bD (TA 9 (TA 10 (TA 11 (TA 17 (TA 18 kN))))) (fun(z:Nat×Nat)=>[(19,.a (.d (.int .i64 ((z.2:Nat):Int))))]) (fun z=>H) (fun z=>z.1) (fun z=>C1 j m ((sU g i)) z.1 z.2=some r) ((m.bS.ct.l.length+1),0) b wA ?_
      rintro ⟨q,J⟩ b K L;try dsimp only at b
      cases q with
      | zero=>cases b
      | succ q =>
        rw [C1] at b;refine aa (S BI (nil ?_));refine ay fun M N=>?_;refine cE b (fun o b=>?_) (fun o b=>?_)
        ·try dsimp only at o
         have O:=oD o;cases b
        refine ah.exit ?_;exact x _ () wA b
     rintro _ b;try dsimp only at b
     unfold C0 at b;refine region ?_;refine SI ?_;refine S Mv (nil ?_);exact u _ (i,(j+1)) wA b (nS _)
    refine ah.exit ?_;exact t _ () wA b
 rintro _ b;try dsimp only at b
 unfold CZ at b;refine aa (S As (nil ?_));exact rt b
def C3  (b:(Sl ax)):Option ((Sl ax)×Int):=some (b,(0:Int))
def C4 (g:(Sl Z8)) :Nat->(Sl ax)->Nat->Option ((Sl ax)×Int)
 | 0,_,_=>none
 | i+1,b,f=>bif (decide (((f:Nat):Int)<((g.l.length:Nat):Int))) then(none) else(C3   b)
def C5 (b:(Sl Z8))  :Option ((Sl ax)×Int):=C4 b (b.l.length+1) (Sl.nil:Sl ax) 0
def C6 (f:(Sl Z8)) (g:(Sl ax)) :Nat->Nat->Option ((Sl ax)×Int)
 | 0,_=>none
 | i+1,b=>bif (decide (((b:Nat):Int)<((g.l.length:Nat):Int))) then(none) else(C5 f  )
def C7 (g:ar) (f:(Sl Z8)) (b:(Sl ax)) (i:af):Option ((Sl ax)×Int):=C6 f b (b.l.length+1) 0
theorem Sx {j:ar}{i:Sl Z8}{k:Sl ax}{m:af}{C E:Option Nat}{r:((Sl ax)×Int)}(b:C7 j i k m=some r) (H:ag) :AC Tryz.prog 163 [.agg (ar.c j),.d (Sl.d 10 Z8.c C i),.d (Sl.d 6 ax.c E k),.agg (af.c m)] H fun v h'=>v=.dM [.d (Sl.d 6 ax.c none r.1),.d (.int .i64 r.2)]/\h'=H:=by
 unfold C7 at b;refine AC.oW 128 [.tmp 8,.tmp 9] Tryz.call163 Tryz.func163 ?_;refine ah.tok 6 fun g M=>?_;refine aa (S BX (S BX ?_));refine s0 (fJ (k':=6) rfl) rfl ?_;refine S As (nil ?_);refine aP (TA 1 (TA 2 (TA 4 (TA 7 kN)))) (fun(z:Unit)=>[]) (fun z=>(H.set g (some (.tok 6 0)))) (fun z=>C5 i =some r) ?_ ?_
 ·intro N F;refine aa (S Mv ?_);refine sLen (f:=ax.c) (s:=k) (TK rfl) rfl rfl rfl rfl fun O=>?_;refine S Mv (nil ?_);refine block ?_;refine bD (TA 1 (TA 2 (TA 4 (TA 7 (TA 25 (TA 26 kN)))))) (fun(z:Nat×Nat)=>[(27,.a (.d (.int .i64 ((z.2:Nat):Int))))]) (fun z=>(H.set g (some (.tok 6 0)))) (fun z=>z.1) (fun z=>C6 i k z.1 z.2=some r) ((k.l.length+1),0) b wA ?_;rintro ⟨u,P⟩ b Q R
  try dsimp only at b
  cases u with
  | zero=>cases b
  | succ u =>
    rw [C6] at b;refine aa (S BI (nil ?_));refine ay fun U W=>?_;refine cE b (fun p b=>?_) (fun p b=>?_)
    ·try dsimp only at p
     have X:=oD p;cases b
    refine ah.exit ?_;exact F _ () wA b
 rintro _ b;try dsimp only at b
 unfold C5 at b;refine aa (S Ld (S Ld (S BU ?_)));refine sE (dZ.tA rfl) rfl (fun _ _ _ ⟨o,w,G,I,J⟩=>?_); subst G I J;obtain⟨Y,w⟩:=ag.hG w;refine hq ((H.set g (some (.tok 6 0))).set o (some (.cells (Z0.c (Z0.mk j m true (0:Int)))))) ?_;refine S As (nil ?_);refine aa (S As (nil ?_));refine ah.fH 17 6 g rfl aJ ?_;refine aP kN (fun(z:(Sl ax))=>[(17,.a (.d (Sl.d 6 ax.c (some g) z)))]) (fun z=>((H.set g (some (.tok 6 z.l.length))).set o (some (.cells (Z0.c (Z0.mk j m true (0:Int))))))) (fun z=>C3 z=some r) ?_ ?_
 ·intro Z K;refine aa (S Mv ?_);refine sLen (f:=Z8.c) (s:=i) (TK rfl) rfl rfl rfl rfl fun ab=>?_;refine S Mv (nil ?_);refine block ?_;refine bD (TA 1 (TA 2 (TA 4 (TA 7 (TA 16 (TA 58 (TA 59 kN))))))) (fun(z:Nat×(Sl ax)×Nat)=>[(17,.a (.d (Sl.d 6 ax.c (some g) z.2.1))),(60,.a (.d (.int .i64 ((z.2.2:Nat):Int))))]) (fun z=>((H.set g (some (.tok 6 z.2.1.l.length))).set o (some (.cells (Z0.c (Z0.mk j m true (0:Int))))))) (fun z=>z.1) (fun z=>C4 i z.1 z.2.1 z.2.2=some r) ((i.l.length+1),(Sl.nil:Sl ax),0) b wA ?_
  rintro ⟨x,L,ad⟩ b ae ai;try dsimp only at b
  cases x with
  | zero=>cases b
  | succ x =>
    rw [C4] at b;refine aa (S BI (nil ?_));refine ay fun aj ak=>?_;refine cE b (fun q b=>?_) (fun q b=>?_)
    ·try dsimp only at q
     have al:=oD q;cases b
    refine ah.exit ?_;exact K _ L wA b
 rintro am b;try dsimp only at b
 unfold C3 at b;refine aa (S Mv (S As (S As (nil ?_))));refine ah.f_ 8 rfl ?_;refine ah.ret ?_;repeat (first|refine bM ?_|refine bN ?_)
 obtain rfl:=oJ b;refine bF.bK H rfl ⟨rfl,rfl⟩ ?_;intro y an B;have ao:y≠g:=fun t=>by subst t; simp_all [ag.set]
 have ap:y≠o:=fun t=>by subst t; simp_all [ag.set]
 rw [<- B];simp only [ag.set] at B ⊢
 (repeat' split)<;>simp_all
def C8  (b:(Sl aj)) (f:Z3):Option ((Sl aj)×Int×Z3):=some (b,(0:Int),f)
def C9 (b:Nat) (f:(Sl aj)->Nat->Z3->Option ((Sl aj)×Int×Z3)) (g:(Sl aj)) (i:Z3):Option ((Sl aj)×Int×Z3):=f g (b+1) i
def xQ (q:Int) (i:Nat) (j:Bs) (b:(Sl Z2)) (k:(Sl aj)->Nat->Z3->Option ((Sl aj)×Int×Z3)) (m:Z3->Z2->Bs->Int->Option (aj×Int×Z3)):Nat->(Sl aj)->Int->Z3->Option ((Sl aj)×Int×Z3)
 | 0,_,_,_=>none
 | r+1,o,f,p=>bif (decide (f<((b.l.length:Nat):Int))) then((cq b.l f).bind fun s=>(m p s j q).bind fun g=>bif (!decide (g.2.1=(0:Int))) then(none) else((bp 160 o (⟨false,[g.1]⟩:Sl aj)).bind fun t=>(bY f (1:Int)).bind fun u=>(xQ q i j b k m r) t u g.2.2)) else(C9 i k o p)
def sV (m:(Sl Z1)) (o:Int) (f:(Sl Bs)) (i:Z3->Z2->Bs->Int->Option (aj×Int×Z3)):Nat->(Sl aj)->Nat->Z3->Option ((Sl aj)×Int×Z3)
 | 0,_,_,_=>none
 | p+1,j,g,b=>bif (decide (((g:Nat):Int)<((f.l.length:Nat):Int))) then((f.l[g]?).bind fun k=>(CR b.Fd b.Fq k m b.en).bind fun q=>xQ o g k q ((sV m o f i p)) i F0 j (0:Int) b) else(C8   j b)
def C_ (g:Z3) (o:Int) (i:Int) (b:aj) (j:Z3->(Sl Z1)->Bs->Int->Option ((Sl aj)×Int×Z3)) (k:(Sl Z1)):Option (aj×Int×Z3):=(bY o (1:Int)).bind fun m=>(j (Z3.mk g.Fd g.Fq g.en i) k b.aO.ai m).bind fun f=>some ((aj.mk b.bn b.bz b.ai b.aG b.aO b.bZ b.bW f.1.nl f.1.l),f.2.1,f.2.2)
def C' (b:Nat) (f:(Sl Z1)->Nat->Option (aj×Int×Z3)) (g:(Sl Z1)):Option (aj×Int×Z3):=f g (b+1)
def xR (g:Nat) (b:Z1) (i:(Sl Z1)->Nat->Option (aj×Int×Z3)):Nat->(Sl Z1)->Nat->Option (aj×Int×Z3)
 | 0,_,_=>none
 | k+1,j,f=>bif (decide (((f:Nat):Int)<((b.bS.fL.l.length:Nat):Int))) then((b.bS.fL.l[f]?).bind fun m=>(bp 144 j (⟨false,[(Z1.mk m ([]:Bs))]⟩:Sl Z1)).bind fun o=>(xR g b i k) o (f+1)) else(C' g i j)
def sW (o:Z3) (f:Z2) (p:Int) (g:Int) (i:aj) (j:Z3->(Sl Z1)->Bs->Int->Option ((Sl aj)×Int×Z3)):Nat->(Sl Z1)->Nat->Option (aj×Int×Z3)
 | 0,_,_=>none
 | q+1,k,b=>bif (decide (((b:Nat):Int)<((f.jJ.l.length:Nat):Int))) then((f.jJ.l[b]?).bind fun m=>xR b m ((sW o f p g i j q)) (m.bS.fL.l.length+1) k 0) else(C_ o p g i j k)
def Da (j:Z3) (b:Z2) (k:Int) (f:Int) (g:Z3->(Sl Z1)->Bs->Int->Option ((Sl aj)×Int×Z3)) (m:aj) (i:aj):Option (aj×Int×Z3):=sW j b k f i g (b.jJ.l.length+1) (Sl.nil:Sl Z1) 0
mutual
def lW:Nat->Z3->(Sl Z1)->Bs->Int->Option ((Sl aj)×Int×Z3)
 | 0,_,_,_,_=>none
 | n+1,b,g,i,j=>bif (decide (((g.l.length:Nat):Int)=(0:Int))) then(some ((Sl.nil:Sl aj),(0:Int),b)) else((wQ b.Fd i).bind fun f=>sV g j f (oH n) (f.l.length+1) (Sl.nil:Sl aj) 0 b)
def oH:Nat->Z3->Z2->Bs->Int->Option (aj×Int×Z3)
 | 0,_,_,_,_=>none
 | n+1,m,b,g,r=>bif (decide ((24:Int)<r)) then(none) else((bY m.Fn (1:Int)).bind fun p=>bif (decide ((2048:Int)<p)) then(none) else((b.jJ.l[0]?).bind fun f=>(CT ).bind fun i=>(CY b).bind fun j=>(C2 b.jJ).bind fun k=>bif (!(f.bS.ai==([95,95,116,121,112,101,110,97,109,101]:Bs))) then((ou m.Fd g).bind fun s=>(wY s.1 f.bS.ai).bind fun o=>(wS o.1.aO.aX).bind fun t=>(C7 m.Fd o.1.aG f.bS.aG m.en).bind fun q=>bif (!decide (q.2=(0:Int))) then(none) else(Da m b r p (lW n) aj.zero (aj.mk ((aj.mk b.bn g f.bS.ai (Sl.nil:Sl ax) i j k true ([])).bn) ((aj.mk b.bn g f.bS.ai (Sl.nil:Sl ax) i j k true ([])).bz) ((aj.mk b.bn g f.bS.ai (Sl.nil:Sl ax) i j k true ([])).ai) q.1 (aB.mk o.1.aO.ai t) ((aj.mk b.bn g f.bS.ai (Sl.nil:Sl ax) i j k true ([])).bZ) ((aj.mk b.bn g f.bS.ai (Sl.nil:Sl ax) i j k true ([])).bW) ((aj.mk b.bn g f.bS.ai (Sl.nil:Sl ax) i j k true ([])).aK).nl ((aj.mk b.bn g f.bS.ai (Sl.nil:Sl ax) i j k true ([])).aK).l))) else(none)))
end
def xS (n:Nat):Prop:=∀{a0:Z3}{a1:(Sl Z1)}{a2:Bs}{a3:Int}{f:Option Nat}{b:Nat}{r:((Sl aj)×Int×Z3)},lW n a0 a1 a2 a3=some r->∀(H:ag) (g:H b=some (.cells (Z3.c a0))),AC Tryz.prog 58 [.d (.ptr b 0),.d (Sl.d 8 Z1.c f a1),.d (.str a2),.d (.int .i64 a3)] H fun v h'=>v=.dM [.d (Sl.d 9 aj.c none r.1),.d (.int .i64 r.2.1)]/\h'=(H.set b (some (.cells (Z3.c r.2.2))))
def xT (n:Nat):Prop:=∀{a0:Z3}{a1:Z2}{a2:Bs}{a3:Int}  {b:Nat}{r:(aj×Int×Z3)},oH n a0 a1 a2 a3=some r->∀(H:ag) (f:H b=some (.cells (Z3.c a0))),AC Tryz.prog 104 [.d (.ptr b 0),.agg (Z2.c a1),.d (.str a2),.d (.int .i64 a3)] H fun v h'=>v=.dM [.agg (aj.c r.1),.d (.int .i64 r.2.1)]/\h'=(H.set b (some (.cells (Z3.c r.2.2))))
theorem Sy (n:Nat) (aF:xS (an:=an) n) (O:xT (an:=an) n):xS (an:=an) (n+1):=by
 intro y p aX q aG i r b H aH;rw [lW] at b;refine AC.oW 69 [.tmp 8,.tmp 9] Tryz.call58 Tryz.func58 ?_;refine ah.ga (h':=(H.set i (some (.cells (Z3.c y))))) (by funext n_; simp only [ag.set]; (repeat' split)<;>simp_all) ?_;refine ah.tok 9 fun g B=>?_;obtain⟨aI,B⟩:=ag.hG B;refine aa ?_;refine s0 (fJ (k':=9) rfl) rfl ?_;refine S As (nil ?_)
 refine aa (S As (nil ?_));refine ah.fH 10 9 g rfl aJ ?_;refine ay fun P C=>?_;refine aa (S Mv ?_);refine sLen (f:=Z1.c) (s:=p) (TK rfl) rfl rfl rfl rfl fun aK=>?_;refine S BI (nil ?_);refine cE b (fun Q b=>?_) (fun Q b=>?_)
 ·refine aa ?_;refine s0 (fJ (k':=9) rfl) rfl ?_;refine S As (nil ?_);refine ah.ret ?_;repeat (first|refine bM ?_|refine bN ?_)
  obtain rfl:=oJ b;refine bF.bK (H.set i (some (.cells (Z3.c y)))) rfl ⟨rfl,rfl⟩ ?_;intro t R j;have U:t≠g:=fun u=>by subst u; simp_all [ag.set]
  rw [<- j];simp only [ag.set] at j ⊢
  (repeat' split)<;>simp_all
 refine sk C ?_;clear C P;refine aP kN (fun(z:(Sl aj)×Z3)=>[(10,.a (.d (Sl.d 9 aj.c (some g) z.1)))]) (fun z=>((H.set i (some (.cells (Z3.c z.2)))).set g (some (.tok 9 z.1.l.length)))) (fun z=>C8 z.1 z.2=some r) ?_ ?_
 ·intro aL W;refine aa (S Mv (S NP ?_));refine s0 (dr (TK rfl) rfl rfl (TK rfl) rfl rfl) rfl ?_;refine s0 (ew (TK rfl) rfl rfl aJ rfl) rfl ?_;refine S Mv ?_;obtain⟨k,X,b⟩:=bO b;refine Sc rfl rfl (HP X) ?_;refine sLen (f:=aM) (s:=k) (TK rfl) rfl rfl rfl rfl fun aN=>?_;refine S Mv (nil ?_);refine block ?_;refine bD (TA 0 (TA 1 (TA 3 (TA 25 (TA 26 kN))))) (fun(z:Nat×(Sl aj)×Nat×Z3)=>[(10,.a (.d (Sl.d 9 aj.c (some g) z.2.1))),(27,.a (.d (.int .i64 ((z.2.2.1:Nat):Int))))]) (fun z=>((H.set i (some (.cells (Z3.c z.2.2.2)))).set g (some (.tok 9 z.2.1.l.length)))) (fun z=>z.1) (fun z=>sV p q k (oH n) z.1 z.2.1 z.2.2.1 z.2.2.2=some r) ((k.l.length+1),(Sl.nil:Sl aj),0,y) b wA ?_
  rintro ⟨m,E,o,F⟩ b aO Y;try dsimp only at b
  cases m with
  | zero=>cases b
  | succ m =>
    rw [sV] at b;refine aa (S BI (nil ?_));refine ay fun Z G=>?_;refine cE b (fun v b=>?_) (fun v b=>?_)
    ·try dsimp only at v
     have aQ:=oD v;refine sk G ?_;clear G Z;refine aP (TA 0 (TA 1 (TA 3 (TA 25 (TA 26 (TA 27 kN)))))) (fun(z:(Sl aj)×Z3)=>[(10,.a (.d (Sl.d 9 aj.c (some g) z.1)))]) (fun z=>((H.set i (some (.cells (Z3.c z.2)))).set g (some (.tok 9 z.1.l.length)))) (fun z=>C9 o ((sV p q k (oH n) m)) z.1 z.2=some r) ?_ ?_
     ·intro aR ab;refine block ?_;refine aa ?_;obtain⟨ad,ae,b⟩:=bO b;refine S (ix aM o ae) (S Ld (S As (nil ?_)));refine ah.cH (Sd Mv (Sd NP ?_));refine au.s0 (dr (TK rfl) rfl rfl (TK rfl) rfl rfl) rfl ?_;refine au.s0 (ew (TK rfl) rfl rfl aJ rfl) rfl ?_;refine Sd Mv (Sd NP ?_);refine au.s0 (dr (TK rfl) rfl rfl (TK rfl) rfl rfl) rfl ?_;refine au.s0 (ew (TK rfl) rfl rfl aJ rfl) rfl ?_
      refine Sd Mv (Sd Mv (Sd Mv (Sd NP ?_)));refine au.s0 (dr (TK rfl) rfl rfl (TK rfl) rfl rfl) rfl ?_;refine au.s0 (ew (TK rfl) rfl rfl aJ rfl) rfl ?_;obtain⟨I,af,b⟩:=bO b;refine cN rfl rfl (Sh af) ?_;refine au.s0 (dx (f:=Z2.c) (s:=I) (TK rfl) rfl rfl rfl) rfl ?_;refine Sd Mv ?_;refine au.nil (by decide +kernel) ?_;refine block ?_;refine bD (TA 0 (TA 1 (TA 3 (TA 12 (TA 25 (TA 26 (TA 27 (TA 45 (TA 46 kN))))))))) (fun(z:Nat×(Sl aj)×Int×Z3)=>[(10,.a (.d (Sl.d 9 aj.c (some g) z.2.1))),(47,.a (.d (.int .i64 z.2.2.1)))]) (fun z=>((H.set i (some (.cells (Z3.c z.2.2.2)))).set g (some (.tok 9 z.2.1.l.length)))) (fun z=>z.1) (fun z=>xQ q o ad I ((sV p q k (oH n) m)) (oH n) z.1 z.2.1 z.2.2.1 z.2.2.2=some r) (F0,E,(0:Int),F) b wA ?_
      rintro ⟨w,J,aS,ai⟩ b aT ak;try dsimp only at b
      cases w with
      | zero=>cases b
      | succ w =>
        rw [xQ] at b;refine aa (S BI (nil ?_));refine ay fun al K=>?_;refine cE b (fun ao b=>?_) (fun ao b=>?_)
        ·refine sk K ?_;clear K al;refine ay fun ap L=>?_;refine block ?_;refine aa ?_;obtain⟨aV,ar,b⟩:=bO b;refine s0 (fI (f:=Z2.c) (TK rfl) rfl (TK rfl) rfl rfl rfl ar) rfl ?_;refine S Ld ?_;refine Sl ?_;refine Sf ?_;refine nil ?_;refine bH 14 _ rfl (KA 0 (KA 1 (KA 3 (KA 10 (KA 12 (KA 25 (KA 26 (KA 27 (KA 45 (KA 46 (KA 47 aU.nil))))))))))) ?_;refine aa (S Mv (S Ld (S Mv (S Mv ?_))))
         obtain⟨x,av,b⟩:=bO b;refine sH (cU rfl rfl (O av _ aJ)) rfl ?_;refine hq ((H.set i (some (.cells (Z3.c x.2.2)))).set g (some (.tok 9 J.l.length))) ?_;refine S Mv (S EX (S EX ?_));refine Sl ?_;refine Sf ?_;refine S As (nil ?_);refine bH 15 _ rfl (KA 0 (KA 1 (KA 3 (KA 10 (KA 12 (KA 16 (KA 25 (KA 26 (KA 27 (KA 45 (KA 46 (KA 47 aU.nil)))))))))))) ?_;refine ay fun aw M=>?_
         refine aa (S Mv (S BI (nil ?_)));refine cE b (fun ax b=>?_) (fun ax b=>?_)
         ·cases b
         refine sk M ?_;clear M aw;refine region ?_;refine S Mv (S Ld (S BV ?_));obtain⟨N,az,b⟩:=bO b;refine SH (am aj.c (TK rfl) rfl (TK rfl) (TK rfl) az) ?_;refine hq ((H.set i (some (.cells (Z3.c x.2.2)))).set g (some (.tok 9 N.l.length))) ?_;refine S As (nil ?_);refine L _ ?_;clear L ap;refine region ?_;obtain⟨aA,aB,b⟩:=bO b;refine s0 (dc rfl rfl aB) rfl ?_
         refine S Mv (nil ?_);exact ak _ (w,N,aA,x.2.2) wA b (nS _)
        refine ah.exit ?_;exact ab _ (J,ai) wA b
     rintro ⟨aC,aD⟩ b;try dsimp only at b
     unfold C9 at b;refine region ?_;refine SI ?_;refine S Mv (nil ?_);exact Y _ (m,aC,(o+1),aD) wA b (nS _)
    refine ah.exit ?_;exact W _ (E,F) wA b
 rintro ⟨aW,aE⟩ b;try dsimp only at b
 unfold C8 at b;refine aa (S Mv (S As (S As (nil ?_))));refine ah.f_ 8 rfl ?_;refine ah.ret ?_;repeat (first|refine bM ?_|refine bN ?_)
 obtain rfl:=oJ b;refine bF.bK (H.set i (some (.cells (Z3.c aE)))) rfl ⟨rfl,rfl⟩ ?_;intro t R j;have U:t≠g:=fun u=>by subst u; simp_all [ag.set]
 rw [<- j];simp only [ag.set] at j ⊢
 (repeat' split)<;>simp_all
theorem Sz (n:Nat) (af:xS (an:=an) n) (a_:xT (an:=an) n):xT (an:=an) (n+1):=by
 intro q g p F  y r b H a';rw [oH] at b;refine AC.oW 143 [.cell 8 52,.tmp 9] Tryz.call104 Tryz.func104 ?_;refine ah.ga (h':=(H.set y (some (.cells (Z3.c q))))) (by funext n_; simp only [ag.set]; (repeat' split)<;>simp_all) ?_;refine ah.tok 8 fun t N=>?_;obtain⟨ba,N⟩:=ag.hG N;refine aa (S BX ?_);refine Sl ?_;refine S As (nil ?_);refine ay fun ak O=>?_
 refine aa (S Mv (S BI (nil ?_)));refine cE b (fun al b=>?_) (fun al b=>?_)
 ·cases b
 refine sk O ?_;clear O ak;refine aa (S Mv (S NP ?_));refine s0 (dr (TK rfl) rfl rfl (TK rfl) rfl rfl) rfl ?_;refine s0 (ew (TK rfl) rfl rfl aJ rfl) rfl ?_;obtain⟨u,ao,b⟩:=bO b;refine s0 (dc rfl rfl ao) rfl ?_;refine S NP ?_;refine s0 (dr (TK rfl) rfl rfl (TK rfl) rfl rfl) rfl ?_;refine iK (qP (TK rfl) rfl rfl aJ rfl (by repeat (first|exact dG.zero|apply dG.succ))) rfl rfl ?_
 refine hq ((H.set y (some (.cells (Z3.c (Z3.mk q.Fd q.Fq q.en u))))).set t (some (.tok 8 0))) ?_;refine nil ?_;refine ay fun ap P=>?_;refine aa (S Mv (S NP ?_));refine s0 (dr (TK rfl) rfl rfl (TK rfl) rfl rfl) rfl ?_;refine s0 (ew (TK rfl) rfl rfl aJ rfl) rfl ?_;refine S BI (nil ?_);refine cE b (fun ar b=>?_) (fun ar b=>?_)
 ·cases b
 refine sk P ?_;clear P ap;refine aa (S Fv (S Ld ?_));obtain⟨i,av,b⟩:=bO b;refine S (ix Z1.c 0 av) (S Fv (S Ld ?_));refine Sl ?_;refine Sf ?_;refine nil ?_;refine bH 10 _ rfl (KA 0 (KA 2 (KA 3 (KA 5 (KA 8 aU.nil))))) ?_;refine ah.cH (Sd Fv (Sd Ld (Sd Mv (Sd Fv (Sd Ld ?_)))));obtain⟨k,aw,b⟩:=bO b;refine cN rfl rfl (Sq aw) ?_;refine Sd Ld ?_;obtain⟨m,az,b⟩:=bO b
 refine cN rfl rfl (Sv az) ?_;refine Sd Fv (Sd Ld ?_);obtain⟨o,aA,b⟩:=bO b;refine cN rfl rfl (Sw aA) ?_;refine Sd BU ?_;refine au.sB (TK rfl) rfl rfl ?_ (by repeat (first|exact bT.nil|apply bT.cons));refine au.dU (eA (TK rfl) rfl rfl rfl rfl rfl) ?_;refine au.nil (by decide +kernel) ?_;refine fO (TA 0 (TA 3 (TA 5 (TA 8 (TA 11 kN))))) (fun(z:aj×aj)=>[]) (fun z=>[aj.c z.1,aj.c z.2]) (fun z=>((H.set y (some (.cells (Z3.c (Z3.mk q.Fd q.Fq q.en u))))).set t (some (.tok 8 0)))) (fun z=>Da q g F u (lW n) z.1 z.2=some r) ?_ ?_
 ·intro bb aC;refine aa (S Fv (S Ld (S BS (nil ?_))));refine cE b (fun aD b=>?_) (fun aD b=>?_)
  ·refine aa (S Mv (S NP ?_));refine s0 (dr (TK rfl) rfl rfl (TK rfl) rfl rfl) rfl ?_;refine s0 (ew (TK rfl) rfl rfl aJ rfl) rfl ?_;refine S Mv ?_;obtain⟨bc,aE,b⟩:=bO b;refine Sc rfl rfl (rY aE) ?_;refine S Mv (S EX (S EX ?_));refine Sl ?_;refine Sf ?_;refine S As (nil ?_);refine bH 12 _ rfl (KA 0 (KA 3 (KA 5 (KA 8 (KA 10 (KA 11 aU.nil)))))) ?_;refine aa (S Ld (S Fv (S Ld ?_)))
   obtain⟨B,aF,b⟩:=bO b;refine Sc rfl rfl (HY aF) ?_;refine S Mv (S EX (S EX ?_));refine Sl ?_;refine Sf ?_;refine S As (nil ?_);refine bH 14 _ rfl (KA 0 (KA 3 (KA 5 (KA 8 (KA 10 (KA 11 aU.nil)))))) ?_;refine ay fun aH Q=>?_;refine ah.dX 1 (aj.cu (aj.mk g.bn p i.bS.ai (Sl.nil:Sl ax) k m o true ([]))) rfl (fun j w cs hh hx=>by rw [<- aj.gm]; exact hx) ?_
   refine ah.draw rfl ?_;refine Sd Fv (Sd Fv (Sd Ld (Sd Fv (Sd Fv (Sd Ld ?_)))));obtain⟨C,aI,b⟩:=bO b;refine cN rfl rfl (HR aI) ?_;refine Sd BU (Sd FL ?_);refine au.dU (Mx (xs':=aj.cu (aj.mk ((aj.mk g.bn p i.bS.ai (Sl.nil:Sl ax) k m o true ([])).bn) ((aj.mk g.bn p i.bS.ai (Sl.nil:Sl ax) k m o true ([])).bz) ((aj.mk g.bn p i.bS.ai (Sl.nil:Sl ax) k m o true ([])).ai) ((aj.mk g.bn p i.bS.ai (Sl.nil:Sl ax) k m o true ([])).aG) (aB.mk B.1.aO.ai C) ((aj.mk g.bn p i.bS.ai (Sl.nil:Sl ax) k m o true ([])).bZ) ((aj.mk g.bn p i.bS.ai (Sl.nil:Sl ax) k m o true ([])).bW) ((aj.mk g.bn p i.bS.ai (Sl.nil:Sl ax) k m o true ([])).aK).nl ((aj.mk g.bn p i.bS.ai (Sl.nil:Sl ax) k m o true ([])).aK).l)) (TK rfl) rfl rfl rfl rfl (Nat.le_of_ble_eq_true rfl) rfl (by repeat (first|exact dG.zero|apply dG.succ))) ?_
   refine au.nil (by decide +kernel) ?_;refine Q _ ?_;clear Q aH;refine ah.dX 1 (aj.c (aj.mk ((aj.mk g.bn p i.bS.ai (Sl.nil:Sl ax) k m o true ([])).bn) ((aj.mk g.bn p i.bS.ai (Sl.nil:Sl ax) k m o true ([])).bz) ((aj.mk g.bn p i.bS.ai (Sl.nil:Sl ax) k m o true ([])).ai) ((aj.mk g.bn p i.bS.ai (Sl.nil:Sl ax) k m o true ([])).aG) (aB.mk B.1.aO.ai C) ((aj.mk g.bn p i.bS.ai (Sl.nil:Sl ax) k m o true ([])).bZ) ((aj.mk g.bn p i.bS.ai (Sl.nil:Sl ax) k m o true ([])).bW) ((aj.mk g.bn p i.bS.ai (Sl.nil:Sl ax) k m o true ([])).aK).nl ((aj.mk g.bn p i.bS.ai (Sl.nil:Sl ax) k m o true ([])).aK).l)) rfl (fun j w cs hh hx=>by rw [aj.gm]; exact hx) ?_
   refine aa (S As (nil ?_));refine ay fun aL R=>?_;refine ah.dX 1 (aj.cu (aj.mk ((aj.mk g.bn p i.bS.ai (Sl.nil:Sl ax) k m o true ([])).bn) ((aj.mk g.bn p i.bS.ai (Sl.nil:Sl ax) k m o true ([])).bz) ((aj.mk g.bn p i.bS.ai (Sl.nil:Sl ax) k m o true ([])).ai) ((aj.mk g.bn p i.bS.ai (Sl.nil:Sl ax) k m o true ([])).aG) (aB.mk B.1.aO.ai C) ((aj.mk g.bn p i.bS.ai (Sl.nil:Sl ax) k m o true ([])).bZ) ((aj.mk g.bn p i.bS.ai (Sl.nil:Sl ax) k m o true ([])).bW) ((aj.mk g.bn p i.bS.ai (Sl.nil:Sl ax) k m o true ([])).aK).nl ((aj.mk g.bn p i.bS.ai (Sl.nil:Sl ax) k m o true ([])).aK).l)) rfl (fun j w cs hh hx=>by rw [<- aj.gm]; exact hx) ?_
   refine ah.draw rfl ?_;refine Sd Mv (Sd NP ?_);refine au.s0 (dr (TK rfl) rfl rfl (TK rfl) rfl rfl) rfl ?_;refine au.s0 (ew (TK rfl) rfl rfl aJ rfl) rfl ?_;refine Sd Fv (Sd Ld (Sd Fv (Sd Ld (Sd Mv (Sd NP ?_)))));refine au.s0 (dr (TK rfl) rfl rfl (TK rfl) rfl rfl) rfl ?_;refine au.s0 (ew (TK rfl) rfl rfl aJ rfl) rfl ?_;obtain⟨U,aM,b⟩:=bO b;refine cN rfl rfl (Sx aM) ?_
   refine Sd Mv (Sd EX (Sd EX (Sd FL ?_)));refine au.dU (EY (TK rfl) rfl rfl rfl rfl (by repeat (first|exact dG.zero|apply dG.succ)) (by repeat (first|exact dG.zero|apply dG.succ))) ?_;refine Sd As ?_;refine au.nil (by decide +kernel) ?_;refine R _ ?_;clear R aL;refine ah.dX 1 (aj.c (aj.mk ((aj.mk g.bn p i.bS.ai (Sl.nil:Sl ax) k m o true ([])).bn) ((aj.mk g.bn p i.bS.ai (Sl.nil:Sl ax) k m o true ([])).bz) ((aj.mk g.bn p i.bS.ai (Sl.nil:Sl ax) k m o true ([])).ai) U.1 (aB.mk B.1.aO.ai C) ((aj.mk g.bn p i.bS.ai (Sl.nil:Sl ax) k m o true ([])).bZ) ((aj.mk g.bn p i.bS.ai (Sl.nil:Sl ax) k m o true ([])).bW) ((aj.mk g.bn p i.bS.ai (Sl.nil:Sl ax) k m o true ([])).aK).nl ((aj.mk g.bn p i.bS.ai (Sl.nil:Sl ax) k m o true ([])).aK).l)) rfl (fun j w cs hh hx=>by rw [aj.gm]; exact hx) ?_
   refine aa (S Mv (S BI (nil ?_)));refine cE b (fun aN b=>?_) (fun aN b=>?_)
   ·cases b
   refine ah.skip ?_;exact aC _ (aj.zero,(aj.mk ((aj.mk g.bn p i.bS.ai (Sl.nil:Sl ax) k m o true ([])).bn) ((aj.mk g.bn p i.bS.ai (Sl.nil:Sl ax) k m o true ([])).bz) ((aj.mk g.bn p i.bS.ai (Sl.nil:Sl ax) k m o true ([])).ai) U.1 (aB.mk B.1.aO.ai C) ((aj.mk g.bn p i.bS.ai (Sl.nil:Sl ax) k m o true ([])).bZ) ((aj.mk g.bn p i.bS.ai (Sl.nil:Sl ax) k m o true ([])).bW) ((aj.mk g.bn p i.bS.ai (Sl.nil:Sl ax) k m o true ([])).aK).nl ((aj.mk g.bn p i.bS.ai (Sl.nil:Sl ax) k m o true ([])).aK).l)) wA b
  cases b
 rintro ⟨bd,v⟩ b;try dsimp only at b
 unfold Da at b;refine aa (S As (nil ?_));refine ah.fH 17 8 t rfl aJ ?_;refine aP (TA 0 (TA 3 (TA 8 (TA 11 kN)))) (fun(z:(Sl Z1))=>[(17,.a (.d (Sl.d 8 Z1.c (some t) z)))]) (fun z=>((H.set y (some (.cells (Z3.c (Z3.mk q.Fd q.Fq q.en u))))).set t (some (.tok 8 z.l.length)))) (fun z=>C_ q F u v (lW n) z=some r) ?_ ?_
 ·intro be aQ;refine aa (S Fv (S Ld ?_));refine sLen (f:=Z1.c) (s:=g.jJ) (TK rfl) rfl rfl rfl rfl fun bf=>?_;refine S Mv (nil ?_);refine block ?_;refine bD (TA 0 (TA 3 (TA 8 (TA 11 (TA 107 (TA 108 kN)))))) (fun(z:Nat×(Sl Z1)×Nat)=>[(17,.a (.d (Sl.d 8 Z1.c (some t) z.2.1))),(109,.a (.d (.int .i64 ((z.2.2:Nat):Int))))]) (fun z=>((H.set y (some (.cells (Z3.c (Z3.mk q.Fd q.Fq q.en u))))).set t (some (.tok 8 z.2.1.l.length)))) (fun z=>z.1) (fun z=>sW q g F u v (lW n) z.1 z.2.1 z.2.2=some r) ((g.jJ.l.length+1),(Sl.nil:Sl Z1),0) b wA ?_
  rintro ⟨E,W,G⟩ b bg aR;try dsimp only at b
  cases E with
  | zero=>cases b
  | succ E =>
    rw [sW] at b;refine aa (S BI (nil ?_));refine ay fun aT X=>?_;refine cE b (fun J b=>?_) (fun J b=>?_)
    ·try dsimp only at J
     have bh:=oD J;refine sk X ?_;clear X aT;refine aP (TA 0 (TA 3 (TA 8 (TA 11 (TA 107 (TA 108 (TA 109 kN))))))) (fun(z:(Sl Z1))=>[(17,.a (.d (Sl.d 8 Z1.c (some t) z)))]) (fun z=>((H.set y (some (.cells (Z3.c (Z3.mk q.Fd q.Fq q.en u))))).set t (some (.tok 8 z.l.length)))) (fun z=>C' G ((sW q g F u v (lW n) E)) z=some r) ?_ ?_
     ·intro bi aV;refine block ?_;refine aa ?_;obtain⟨K,aW,b⟩:=bO b;refine S (ix Z1.c G aW) (S Ld ?_);refine Sl ?_;refine Sf ?_;refine nil ?_;refine bH 19 _ rfl (KA 0 (KA 3 (KA 8 (KA 11 (KA 17 (KA 107 (KA 108 (KA 109 aU.nil)))))))) ?_;refine aa (S Fv (S Fv ?_));refine s0 (ck (TK rfl) rfl rfl (congrArg (fun x=>some (A.d x)) (aY.vR _))) rfl ?_;refine sLen (f:=aY.c) (s:=K.bS.fL) (TK rfl) rfl rfl rfl rfl fun bj=>?_
      refine S Mv (nil ?_);refine block ?_;refine bD (TA 0 (TA 3 (TA 8 (TA 11 (TA 107 (TA 108 (TA 109 (TA 115 (TA 116 kN))))))))) (fun(z:Nat×(Sl Z1)×Nat)=>[(17,.a (.d (Sl.d 8 Z1.c (some t) z.2.1))),(117,.a (.d (.int .i64 ((z.2.2:Nat):Int))))]) (fun z=>((H.set y (some (.cells (Z3.c (Z3.mk q.Fd q.Fq q.en u))))).set t (some (.tok 8 z.2.1.l.length)))) (fun z=>z.1) (fun z=>xR G K ((sW q g F u v (lW n) E)) z.1 z.2.1 z.2.2=some r) ((K.bS.fL.l.length+1),W,0) b wA ?_
      rintro ⟨L,aX,Y⟩ b bk aZ;try dsimp only at b
      cases L with
      | zero=>cases b
      | succ L =>
        rw [xR] at b;refine aa (S BI (nil ?_));refine ay fun a0 Z=>?_;refine cE b (fun M b=>?_) (fun M b=>?_)
        ·try dsimp only at M
         have bl:=oD M;refine sk Z ?_;clear Z a0;refine ay fun a1 ab=>?_;refine block ?_;refine aa ?_;obtain⟨bm,a2,b⟩:=bO b;refine S (ix aY.c Y a2) (S Ld ?_);refine Sl ?_;refine Sf ?_;refine nil ?_;refine bH 21 _ rfl (KA 0 (KA 3 (KA 8 (KA 11 (KA 17 (KA 107 (KA 108 (KA 109 (KA 115 (KA 116 (KA 117 aU.nil))))))))))) ?_;refine region ?_;refine S Mv (S Ld (S BU (S BV ?_)))
         obtain⟨ad,a3,b⟩:=bO b;refine SH (am Z1.c (TK rfl) rfl (TK rfl) (TK rfl) a3) ?_;refine hq ((H.set y (some (.cells (Z3.c (Z3.mk q.Fd q.Fq q.en u))))).set t (some (.tok 8 ad.l.length))) ?_;refine S As (nil ?_);refine ab _ ?_;clear ab a1;refine region ?_;refine SI ?_;refine S Mv (nil ?_);exact aZ _ (L,ad,(Y+1)) wA b (nS _)
        refine ah.exit ?_;exact aV _ aX wA b
     rintro a4 b;try dsimp only at b
     unfold C' at b;refine region ?_;refine SI ?_;refine S Mv (nil ?_);exact aR _ (E,a4,(G+1)) wA b (nS _)
    refine ah.exit ?_;exact aQ _ W wA b
 rintro a5 b;try dsimp only at b
 unfold C_ at b;refine aa (S Mv (S Mv (S FL (S FL (S LL (S Mv ?_))))));obtain⟨bo,a6,b⟩:=bO b;refine s0 (dc rfl rfl a6) rfl ?_;obtain⟨I,a7,b⟩:=bO b;refine sH (cU rfl rfl (af a7 _ aJ)) rfl ?_;refine hq ((H.set y (some (.cells (Z3.c I.2.2)))).set t (some (.tok 8 a5.l.length))) ?_;refine S Mv (S EX (S EX (S As (S As (nil ?_)))));refine aa (S Mv (S FL ?_));refine aS.dX 1 (aj.cu v) rfl (fun j w cs hh hx=>by rw [<- aj.gm]; exact hx) ?_
 refine Sf ?_;refine aS.dX 1 (aj.c (aj.mk v.bn v.bz v.ai v.aG v.aO v.bZ v.bW I.1.nl I.1.l)) rfl (fun j w cs hh hx=>by rw [aj.gm]; exact hx) ?_;refine nil ?_;refine aa (S LL (S Mv ?_));refine Sf ?_;refine S As (nil ?_);refine ah.ret ?_;repeat (first|refine bM ?_|refine bN ?_)
 obtain rfl:=oJ b;refine bF.bK (H.set y (some (.cells (Z3.c I.2.2)))) rfl ⟨rfl,rfl⟩ ?_;intro a8 bp ae;have bq:a8≠t:=fun a9=>by subst a9; simp_all [ag.set]
 rw [<- ae];simp only [ag.set] at ae ⊢
 (repeat' split)<;>simp_all
theorem uD:∀(n:Nat),(xS (an:=an) n)/\(xT (an:=an) n)
 | 0=>⟨fun b=>by first|cases b|(rw [lW] at b; cases b),fun b=>by first|cases b|(rw [oH] at b; cases b)⟩
 | n+1=>⟨Sy n (uD n).1 (uD n).2,Sz n (uD n).1 (uD n).2⟩
def I1 (a0:Z3) (a1:(Sl Z1)) (a2:Bs) (a3:Int):Option ((Sl aj)×Int×Z3):=lW F0 a0 a1 a2 a3
theorem SA {f:Z3}{g:Sl Z1}{i:Bs}{j:Int}{k:Option Nat}{b:Nat}{r:((Sl aj)×Int×Z3)}(l:I1 f g i j=some r) (H:ag) (m:H b=some (.cells (Z3.c f))):AC Tryz.prog 58 [.d (.ptr b 0),.d (Sl.d 8 Z1.c k g),.d (.str i),.d (.int .i64 j)] H fun v h'=>v=.dM [.d (Sl.d 9 aj.c none r.1),.d (.int .i64 r.2.1)]/\h'=(H.set b (some (.cells (Z3.c r.2.2)))):=(uD F0).1 l H m
def Db (j:ar) (k:dK) (l:af) (b:fV)  (g:(Sl Z1)):Option (bU×Int):=(rW b.ak).bind fun i=>(I1 (Z3.mk j k l (0:Int)) g i (1:Int)).bind fun f=>bif (!decide (f.2.1=(0:Int))) then(none) else(some ((bU.mk b.ak f.1),(0:Int)))
def xU (i:ar) (j:dK) (k:af) (b:fV) :Nat->(Sl Z1)->Nat->Option (bU×Int)
 | 0,_,_=>none
 | m+1,g,f=>bif (decide (((f:Nat):Int)<((b.fL.l.length:Nat):Int))) then((b.fL.l[f]?).bind fun o=>(bp 144 g (⟨false,[(Z1.mk o ([]:Bs))]⟩:Sl Z1)).bind fun p=>(xU i j k b m) p (f+1)) else(Db i j k b  g)
def xV (i:ar) (b:dK) (f:Int) (j:af):Option (bU×Int):=bif ((decide (f<(0:Int)))||(decide (((b.iO.l.length:Nat):Int)<=f))) then(some ((bU.mk (0:Int) (Sl.nil:Sl aj)),(2:Int))) else((cq b.iO.l f).bind fun g=>xU i b j g (g.fL.l.length+1) (Sl.nil:Sl Z1) 0)
theorem I2 {j:ar}{i:dK}{K:Int}{m:af}{r:bU×Int}(b:xV j i K m=some r) (H:ag) :AC Tryz.prog 25 [.agg (ar.c j),.agg (dK.c i),.d (.int .i64 K),.agg (af.c m)] H fun v h'=>v=.dM [.agg (bU.c r.1),.d (.int .i64 r.2)]/\h'=H:=by
 unfold xV at b;refine AC.oW 67 [.cell 8 27,.tmp 9] Tryz.call25 Tryz.func25 ?_;refine ah.tok 8 fun g w=>?_;refine aa (S BX (S BX (S BX ?_)));refine Sl ?_;refine S As (nil ?_);refine ay fun L x=>?_;refine aa (S Mv (S BI (S Mv (G0 Mv (G0 Fv ?_)))));refine G1 21 rfl Ld ?_;refine gC rfl rfl (fun hC=>aI (k:=22) rfl (dx (f:=fV.c) (s:=i.iO) (TK rfl) rfl rfl rfl)) rfl ?_;refine G2 20 23 rfl rfl BI ?_
 refine S PO (nil ?_);refine cE b (fun M b=>?_) (fun M b=>?_)
 ·refine aa (S BU ?_);refine Sf ?_;refine S As (nil ?_);refine ah.ret ?_;repeat (first|refine bM ?_|refine bN ?_)
  obtain rfl:=oJ b;refine bF.bK H rfl ⟨rfl,rfl⟩ ?_
  first|exact ag.bX w|(simp only [ag.set_set]; exact ag.bX w)
 refine sk x ?_;clear x L;refine aa (S Ld (S Ld (S Ld (S BU ?_))));refine sE (dZ.tA rfl) rfl (fun _ _ _ ⟨o,y,N,O,P⟩=>?_); subst N O P;obtain⟨an,y⟩:=ag.hG y;refine hq ((H.set g (some (.tok 8 0))).set o (some (.cells (Z3.c (Z3.mk j i m (0:Int)))))) ?_;refine S As (nil ?_);refine aa (S Fv (S Ld (S Mv ?_)));obtain⟨p,Q,b⟩:=bO b
 refine s0 (fI (f:=fV.c) (TK rfl) rfl (TK rfl) rfl rfl rfl Q) rfl ?_;refine S Ld ?_;refine Sl ?_;refine Sf ?_;refine nil ?_;refine bH 11 _ rfl (KA 8 (KA 10 aU.nil)) ?_;refine aa (S As (nil ?_));refine ah.fH 12 8 g rfl aJ ?_;refine aP (TA 8 (TA 10 (TA 11 kN))) (fun(z:(Sl Z1))=>[(12,.a (.d (Sl.d 8 Z1.c (some g) z)))]) (fun z=>((H.set g (some (.tok 8 z.l.length))).set o (some (.cells (Z3.c (Z3.mk j i m (0:Int))))))) (fun z=>Db j i m p z=some r) ?_ ?_
 ·intro ao R;refine aa (S Fv (S Ld ?_));refine sLen (f:=aY.c) (s:=p.fL) (TK rfl) rfl rfl rfl rfl fun ap=>?_;refine S Mv (nil ?_);refine block ?_;refine bD (TA 8 (TA 10 (TA 11 (TA 38 (TA 39 kN))))) (fun(z:Nat×(Sl Z1)×Nat)=>[(12,.a (.d (Sl.d 8 Z1.c (some g) z.2.1))),(40,.a (.d (.int .i64 ((z.2.2:Nat):Int))))]) (fun z=>((H.set g (some (.tok 8 z.2.1.l.length))).set o (some (.cells (Z3.c (Z3.mk j i m (0:Int))))))) (fun z=>z.1) (fun z=>xU j i m p z.1 z.2.1 z.2.2=some r) ((p.fL.l.length+1),(Sl.nil:Sl Z1),0) b wA ?_
  rintro ⟨q,U,B⟩ b au W;try dsimp only at b
  cases q with
  | zero=>cases b
  | succ q =>
    rw [xU] at b;refine aa (S BI (nil ?_));refine ay fun X C=>?_;refine cE b (fun t b=>?_) (fun t b=>?_)
    ·try dsimp only at t
     have av:=oD t;refine sk C ?_;clear C X;refine ay fun Y E=>?_;refine block ?_;refine aa ?_;obtain⟨aw,Z,b⟩:=bO b;refine S (ix aY.c B Z) (S Ld ?_);refine Sl ?_;refine Sf ?_;refine nil ?_;refine bH 14 _ rfl (KA 8 (KA 10 (KA 11 (KA 12 (KA 38 (KA 39 (KA 40 aU.nil))))))) ?_;refine region ?_;refine S Mv (S Ld (S BU (S BV ?_)));obtain⟨F,ab,b⟩:=bO b
     refine SH (am Z1.c (TK rfl) rfl (TK rfl) (TK rfl) ab) ?_;refine hq ((H.set g (some (.tok 8 F.l.length))).set o (some (.cells (Z3.c (Z3.mk j i m (0:Int)))))) ?_;refine S As (nil ?_);refine E _ ?_;clear E Y;refine region ?_;refine SI ?_;refine S Mv (nil ?_);exact W _ (q,F,(B+1)) wA b (nS _)
    refine ah.exit ?_;exact R _ U wA b
 rintro ad b;try dsimp only at b
 unfold Db at b;refine aa (S Mv (S Mv (S Fv (S Ld ?_))));obtain⟨ax,ae,b⟩:=bO b;refine Sc rfl rfl (wK ae) ?_;obtain⟨ai,aj,b⟩:=bO b;refine sH (cU rfl rfl (SA aj _ aJ)) rfl ?_;refine hq ((H.set g (some (.tok 8 ad.l.length))).set o (some (.cells (Z3.c ai.2.2)))) ?_;refine S Mv (S EX (S EX (S As (S As (nil ?_)))));refine ay fun ak G=>?_
 refine aa (S Mv (S BI (nil ?_)));refine cE b (fun al b=>?_) (fun al b=>?_)
 ·cases b
 refine sk G ?_;clear G ak;refine aa (S Fv (S Ld (S Mv (S BU ?_))));refine Sf ?_;refine S As (nil ?_);refine ah.ret ?_;repeat (first|refine bM ?_|refine bN ?_)
 obtain rfl:=oJ b;refine bF.bK H rfl ⟨rfl,rfl⟩ ?_;intro I az J;have aA:I≠g:=fun u=>by subst u; simp_all [ag.set]
 have aB:I≠o:=fun u=>by subst u; simp_all [ag.set]
 rw [<- J];simp only [ag.set] at J ⊢
 (repeat' split)<;>simp_all
section
variable [gM an]
def uE :Option Bool:=(CK ).bind fun f=>(xV f.1 f.2.1 (0:Int) (af.mk (6:Int) (0:Int) ([]:Bs) true ([]) (Sl.nil:Sl Bs))).bind fun b=>(xV f.1 f.2.1 (1:Int) (af.mk (6:Int) (0:Int) ([]:Bs) true ([]) (Sl.nil:Sl Bs))).bind fun g=>aQ ((((decide (b.2=(0:Int)))&&(decide (g.2=(2:Int))))&&(decide (b.1.ak=(1:Int))))) (B4 b.1.aK f.2.2.aK) false fun i=>aQ (((((decide (b.2=(0:Int)))&&(decide (g.2=(2:Int))))&&(decide (b.1.ak=(1:Int))))&&i)) (Cl b.1.aK f.2.2.aK) false fun j=>aQ ((((((decide (b.2=(0:Int)))&&(decide (g.2=(2:Int))))&&(decide (b.1.ak=(1:Int))))&&i)&&j)) (xe f.1 f.2.2) false fun k=>aQ (((((((decide (b.2=(0:Int)))&&(decide (g.2=(2:Int))))&&(decide (b.1.ak=(1:Int))))&&i)&&j)&&k)) (xe f.1 (bU.mk (2:Int) (Sl.nil:Sl aj))) false fun l=>aQ ((((((((decide (b.2=(0:Int)))&&(decide (g.2=(2:Int))))&&(decide (b.1.ak=(1:Int))))&&i)&&j)&&k)&&(!l))) (sN f.2.2.aK) (0:Int) fun m=>aQ (((((((((decide (b.2=(0:Int)))&&(decide (g.2=(2:Int))))&&(decide (b.1.ak=(1:Int))))&&i)&&j)&&k)&&(!l))&&(decide (m=(2:Int))))) (xo f.2.2) ([]:Bs) fun o=>aQ ((((((((((decide (b.2=(0:Int)))&&(decide (g.2=(2:Int))))&&(decide (b.1.ak=(1:Int))))&&i)&&j)&&k)&&(!l))&&(decide (m=(2:Int))))&&((o==([113,117,101,114,121,32,123,32,81,117,101,114,121,46,109,101,58,32,109,101,32,123,32,85,115,101,114,46,110,97,109,101,58,32,110,97,109,101,32,125,32,125]:Bs))))) (CJ f.2.2) dK.zero fun p=>aQ ((((((((((decide (b.2=(0:Int)))&&(decide (g.2=(2:Int))))&&(decide (b.1.ak=(1:Int))))&&i)&&j)&&k)&&(!l))&&(decide (m=(2:Int))))&&((o==([113,117,101,114,121,32,123,32,81,117,101,114,121,46,109,101,58,32,109,101,32,123,32,85,115,101,114,46,110,97,109,101,58,32,110,97,109,101,32,125,32,125]:Bs))))) (CB p f.2.1) false fun q=>some ((((((((((decide (b.2=(0:Int)))&&(decide (g.2=(2:Int))))&&(decide (b.1.ak=(1:Int))))&&i)&&j)&&k)&&(!l))&&(decide (m=(2:Int))))&&((o==([113,117,101,114,121,32,123,32,81,117,101,114,121,46,109,101,58,32,109,101,32,123,32,85,115,101,114,46,110,97,109,101,58,32,110,97,109,101,32,125,32,125]:Bs))))&&q)
theorem I3  {oT:Ab.Obj}{gT:Nat}{r:Bool}(b:uE =some r) (H:ag) (u:H gT=some oT) (w:ia Tryz.prog oT):AC Tryz.prog 8 [] H fun v h'=>v=.a (.d (.bool r))/\h'=H:=by
 unfold uE at b;refine AC.oW 82 [.tmp 0] Tryz.call8 Tryz.func8 ?_;refine aa (S As (nil ?_));refine aa ?_;obtain⟨x,f,b⟩:=bO b;refine Sc rfl rfl (R5 f) ?_;refine S Mv (S EX (S EX (S EX ?_)));refine Sl ?_;refine Sl ?_;refine Sl ?_;refine Sf ?_;refine Sf ?_;refine Sf ?_;refine nil ?_;refine bH 3 _ rfl (KA 1 (KA 2 aU.nil)) ?_;refine bH 2 _ rfl (KA 1 (KA 3 aU.nil)) ?_
 refine bH 1 _ rfl (KA 2 (KA 3 aU.nil)) ?_;refine aa (S BU ?_);refine Sl ?_;refine Sf ?_;refine nil ?_;refine bH 4 _ rfl (KA 1 (KA 2 (KA 3 aU.nil))) ?_;refine aa (S Ld (S Ld (S Ld ?_)));obtain⟨y,g,b⟩:=bO b;refine Sc rfl rfl (I2 g) ?_;refine S Mv (S EX (S EX ?_));refine Sl ?_;refine Sf ?_;refine S As (nil ?_);refine bH 5 _ rfl (KA 1 (KA 2 (KA 3 (KA 4 (KA 6 aU.nil))))) ?_
 refine aa (S Ld (S Ld (S Ld ?_)));obtain⟨z,i,b⟩:=bO b;refine Sc rfl rfl (I2 i) ?_;refine S Mv (S EX (S EX ?_));refine Sl ?_;refine Sf ?_;refine S As (nil ?_);refine bH 7 _ rfl (KA 1 (KA 2 (KA 3 (KA 5 (KA 6 (KA 8 aU.nil)))))) ?_;refine ah.cH (Sd Mv (Sd BI (Sd Mv (cr Mv ?_))));refine cK 32 rfl BI ?_;refine Sd PA (Sd Mv (cr Fv ?_));refine cK 36 rfl Ld ?_;refine cK 37 rfl BI ?_
 refine Sd PA (Sd Mv (cr Fv ?_));refine cK 41 rfl Ld ?_;refine cr Fv ?_;refine cK 43 rfl Ld ?_;obtain⟨B,j,b⟩:=gO b;refine kG 42 44 rfl rfl rfl rfl rfl rfl (fun hC=>Ik (j hC)) ?_;refine Sd PA (Sd Mv (cr Fv ?_));refine cK 48 rfl Ld ?_;refine cr Fv ?_;refine cK 50 rfl Ld ?_;obtain⟨C,l,b⟩:=gO b;refine kG 49 51 rfl rfl rfl rfl rfl rfl (fun hC=>II (l hC)) ?_
 refine Sd PA (Sd Mv (cr Ld (cr Ld ?_)));obtain⟨E,m,b⟩:=gO b;refine kG 55 56 rfl rfl rfl rfl rfl rfl (fun hC=>Ia (m hC)) ?_;refine Sd PA (Sd Mv (cr Ld (cr BU ?_)));obtain⟨F,o,b⟩:=gO b;refine kG 60 61 rfl rfl rfl rfl rfl rfl (fun hC=>Ia (o hC)) ?_;refine cK 62 rfl NB ?_;refine Sd PA (Sd Mv (cr Fv ?_));refine cK 66 rfl Ld ?_;obtain⟨G,p,b⟩:=gO b;refine nN 67 rfl rfl rfl rfl rfl (fun hC=>IJ (p hC)) ?_
 refine cK 68 rfl BI ?_;refine Sd PA (Sd Mv (cr Ld ?_));obtain⟨I,q,b⟩:=gO b;refine au.gC rfl rfl (fun hC=>aI (k:=72) rfl (gD rfl rfl (Cf (gT:=gT) (oT:=oT) (q hC) _ aJ (by assumption)))) rfl ?_;refine cK 73 rfl BS ?_;refine Sd PA (Sd Mv (cr Ld ?_));obtain⟨J,s,b⟩:=gO b;refine nN 77 rfl rfl rfl rfl rfl (fun hC=>R4 (s hC)) ?_;refine cr Ld ?_;obtain⟨K,t,b⟩:=gO b
 refine kG 78 79 rfl rfl rfl rfl rfl rfl (fun hC=>RT (t hC)) ?_;refine Sd PA (Sd As ?_);refine au.nil (by decide +kernel) ?_;exact rt b
end
def oI (f:(Sl aj)->Option Int):List aj->Int->Option (Int)
 | [],b=>some b
 | g::i,b=>on (g) fun j=>(f j.aK).bind fun k=>(bY b k).bind fun l=>oI f (i) l
def j9:Nat->(Sl aj)->Option Int
 | 0,_=>none
 | n+1,b=>Option.bind (oI (j9 n) b.l ((b.l.length:Nat):Int)) fun f=>on (f) fun g=>some g
def Dc (n:Nat):Prop:=∀{a0:(Sl aj)}{w0:Option Nat}  {r:Int},j9 n a0=some r->∀(H:ag),AC Tryz.prog 16 [.d (Sl.d 9 aj.c w0 a0)] H fun v h'=>v=.a (.d (.int .i64 r))/\h'=H
theorem SB (n:Nat) (t:Dc (an:=an) n):Dc (an:=an) (n+1):=by
 intro g w0  r b H;rw [j9] at b;refine AC.oW 22 [.tmp 2] Tryz.call16 Tryz.func16 ?_;refine aa (S As (nil ?_));refine aa (S Mv ?_);refine sLen (f:=aj.c) (s:=g) (TK rfl) rfl rfl rfl rfl fun J=>?_;refine S As (nil ?_);refine aP kN (fun(z:Int)=>[(3,.a (.d (.int .i64 z)))]) (fun z=>H) (fun z=>(some z)=some r) ?_ ?_
 ·intro K u;refine aa (S As (nil ?_));refine block ?_;obtain⟨j,v,b⟩:=cG b;refine bD (TA 0 kN) (fun(z:Int×Nat)=>[(3,.a (.d (.int .i64 z.1))),(4,.a (.d (.int .i64 ((z.2:Nat):Int))))]) (fun z=>H) (fun z=>g.l.length-z.2) (fun z=>Option.bind (oI (j9 n) (g.l.drop z.2) z.1) j=some r) (((g.l.length:Nat):Int),0) b wA ?_;rintro ⟨k,m⟩ b L w;try dsimp only at b
  refine ay fun y o=>?_;refine aa (S Mv (S Mv ?_));refine sLen (f:=aj.c) (s:=g) (TK rfl) rfl rfl rfl rfl fun M=>?_;refine S BI (nil ?_);refine ah.cL (fun l=>Option.bind (oI (j9 n) l k) j=some r) b rfl (fun N p i b=>?_) (fun i b=>?_)
  ·rw [oI] at b;try dsimp only at i
   have O:=oD i;refine sk o ?_;clear o y;refine ay fun B q=>?_;refine block ?_;refine region ?_;refine S Mv (S Mv (S Mv ?_));obtain⟨P,C,b⟩:=vO p b;refine S (ix aj.c m C) (S Fv ?_);refine s0 (ck (TK rfl) rfl rfl (congrArg (fun x=>some (A.d x)) (aj.gp _))) rfl ?_;obtain⟨Q,E,b⟩:=qO rfl b;refine Sc rfl rfl (t E) ?_;obtain⟨F,G,b⟩:=qO rfl b
   refine s0 (dc rfl rfl G) rfl ?_;refine S As (nil ?_);refine q _ ?_;clear q B;refine region ?_;refine S Mv ?_;refine SI ?_;refine S As (nil ?_);exact w _ (F,(m+1)) wA b (dl p)
  rw [oI] at b;have b:=ku v b;refine ah.exit ?_;obtain⟨R,I,b⟩:=cC b;have b:=ku I b;exact u _ k wA b
 rintro U b;try dsimp only at b
 refine aa (S Mv (S As (nil ?_)));exact rt b
theorem I4:∀(n:Nat),(Dc (an:=an) n)
 | 0=>fun b=>by first|cases b|(rw [j9] at b; cases b)
 | n+1=>SB n (I4 n)
def I5 (b:(Sl aj)):Option Int:=j9 F0 b
theorem I6 {b:Sl aj}{w0:Option Nat}{r:Int}(f:I5 b=some r) (H:ag) :AC Tryz.prog 16 [.d (Sl.d 9 aj.c w0 b)] H fun v h'=>v=.a (.d (.int .i64 r))/\h'=H:=(I4 F0) f H 
def uF (b:(Sl aj)):Option Int:=j9 F0 b
theorem I7 (a0:(Sl aj)):I5 a0=uF a0:=rfl
def lX (b:Int):Bs:=bif (decide (b=(1:Int))) then(([81,117,101,114,121]:Bs)) else(bif (decide (b=(2:Int))) then(([77,117,116,97,116,105,111,110]:Bs)) else(bif (decide (b=(3:Int))) then(([83,117,98,115,99,114,105,112,116,105,111,110]:Bs)) else(([]:Bs))))
def Dd (b:Int):Option Bs:=some (lX b)
theorem SC (a0:Int):Dd a0=some (lX a0):=rfl
theorem SD {g:Int}{r:Bs}(b:Dd g=some r) (H:ag) :AC Tryz.prog 31 [.d (.int .i64 g)] H fun v h'=>v=.a (.d (.str r))/\h'=H:=by
 unfold Dd lX at b;refine AC.oW 10 [.tmp 2] Tryz.call31 Tryz.func31 ?_;refine aa (S As (nil ?_));refine ay fun i f=>?_;refine aa (S Mv (nil ?_));refine block ?_;refine aa (S BI (S As (nil ?_)));refine cP b (fun j b=>?_) (fun j b=>?_)
 ·refine aa (S As (nil ?_));exact rt b
 refine aa (S BI (S As (nil ?_)));refine cP b (fun k b=>?_) (fun k b=>?_)
 ·refine aa (S As (nil ?_));exact rt b
 refine aa (S BI (S As (nil ?_)));refine cP b (fun l b=>?_) (fun l b=>?_)
 ·refine aa (S As (nil ?_));exact rt b
 refine sk f ?_;clear f i;refine aa (S As (nil ?_));exact rt b
def oK (f:Bs):List Bs->Nat->Unit ⊕ Int
 | [],b=>Sum.inl ()
 | g::i,b=>on (g) fun j=>bif ((j==f)) then(Sum.inr ((b:Nat):Int)) else(oK f (i) (b+1) )
def oL (g:(Sl Bs)) (i:Bs):Int:=on (oK i g.l 0 ) fun b=>match b with|Sum.inl _=>(on (()) fun _=>(-1:Int))|Sum.inr f=>(f)
def De (b:(Sl Bs)) (f:Bs):Option Int:=some (oL b f)
theorem SE (a0:(Sl Bs)) (a1:Bs):De a0 a1=some (oL a0 a1):=rfl
theorem SF {g:Sl Bs}{i:Bs}{w0:Option Nat}{r:Int}(b:De g i=some r) (H:ag) :AC Tryz.prog 67 [.d (Sl.d 1 aM w0 g),.d (.str i)] H fun v h'=>v=.a (.d (.int .i64 r))/\h'=H:=by
 unfold De oL at b;refine AC.oW 19 [.tmp 4] Tryz.call67 Tryz.func67 ?_;refine aa (S As (nil ?_));refine aP kN (fun(z:Unit)=>[]) (fun z=>H) (fun z=>some ((-1:Int))=some r) ?_ ?_
 ·intro F u;refine aa (S As (nil ?_));refine block ?_;obtain⟨m,o,b⟩:=fo b;refine bD (TA 0 (TA 1 kN)) (fun(z:Nat)=>[(5,.a (.d (.int .i64 ((z:Nat):Int))))]) (fun z=>H) (fun z=>g.l.length-z) (fun z=>m (oK i (g.l.drop z) z )=some r) 0 b wA ?_;rintro j b G w;try dsimp only at b
  refine ay fun x p=>?_;refine aa (S Mv (S Mv ?_));refine sLen (f:=aM) (s:=g) (TK rfl) rfl rfl rfl rfl fun I=>?_;refine S BI (nil ?_);refine ah.cL (fun l=>m (oK i l j )=some r) b rfl (fun J q k b=>?_) (fun k b=>?_)
  ·rw [oK] at b;try dsimp only at k
   have K:=oD k;refine sk p ?_;clear p x;refine ay fun y t=>?_;refine block ?_;refine aa (S Mv (S Mv ?_));obtain⟨L,B,b⟩:=vP q b;refine S (ix aM j B) (S Ld (S Mv (S BS (nil ?_))));refine cP b (fun C b=>?_) (fun C b=>?_)
   ·refine aa (S Mv (S As (nil ?_)));refine ah.ret ?_;repeat (first|refine bM ?_|refine bN ?_)
    have b:=ku o b;obtain rfl:=oJ b;refine bF.bK H rfl ⟨rfl,rfl⟩ ?_;exact(fun _ _ h=>h)
   refine sk t ?_;clear t y;refine region ?_;refine S Mv ?_;refine SI ?_;refine S As (nil ?_);exact w _ (j+1) wA b (dl q)
  rw [oK] at b;have b:=ku o b;try dsimp only at b
  refine ah.exit ?_;obtain⟨M,E,b⟩:=fo b;have b:=ku E b;exact u _ () wA b
 rintro _ b;try dsimp only at b
 refine aa (S As (nil ?_));exact rt b
def uG :aB:=(aB.mk ([83,116,114,105,110,103]:Bs) (⟨false,[(1:Int)]⟩:Sl Int))
def Df :Option aB:=some (uG )
theorem SG :Df =some (uG ):=rfl
theorem SJ    {r:aB}(b:Df =some r) (H:ag) :AC Tryz.prog 118 [] H fun v h'=>v=.a (.agg (aB.c r))/\h'=H:=by
 unfold Df uG at b;refine AC.oW 3 [.cell 0 50] Tryz.call118 Tryz.func118 ?_;refine aa ?_;refine Sl ?_;refine nil ?_;refine aa (S BV (S BU ?_));refine Sf ?_;refine nil ?_;exact rt b
def ni (f:ar) (g:aB) (i:af):Option (af×Int):=(kW (Z4.mk f af.zero false (0:Int) (0:Int)) g i).bind fun b=>some (b.1,b.2.1)
def Dg (b:ar) (f:aB) (g:af):Option (af×Int):=ni b f g
theorem SK (a0:ar) (a1:aB) (a2:af):Dg a0 a1 a2=ni a0 a1 a2:=rfl
theorem SL {f:ar}{j:aB}{k:af}{r:af×Int}(b:Dg f j k=some r) (H:ag) :AC Tryz.prog 177 [.agg (ar.c f),.agg (aB.c j),.agg (af.c k)] H fun v h'=>v=.dM [.agg (af.c r.1),.d (.int .i64 r.2)]/\h'=H:=by
 unfold Dg ni at b;refine AC.oW 18 [.cell 6 58,.tmp 7] Tryz.call177 Tryz.func177 ?_;refine aa (S BX (S BX (S BX ?_)));refine Sl ?_;refine S As (nil ?_);refine aa (S Ld (S BU ?_));refine sE (dZ.tA rfl) rfl (fun _ _ _ ⟨g,i,l,m,o⟩=>?_); subst l m o;refine hq (H.set g (some (.cells (Z4.c (Z4.mk f af.zero false (0:Int) (0:Int)))))) ?_;refine S As (nil ?_);refine aa (S Mv (S Ld (S Ld ?_)))
 obtain⟨p,q,b⟩:=qT (HE _ _ _) b;refine sH (cU rfl rfl (HF q _ aJ)) rfl ?_;refine hq (H.set g (some (.cells (Z4.c p.2.2)))) ?_;refine S EX (S EX ?_);refine Sf ?_;refine S As (nil ?_);refine ah.ret ?_;repeat (first|refine bM ?_|refine bN ?_)
 obtain rfl:=oJ b;refine bF.bK H rfl ⟨rfl,rfl⟩ ?_
 first|exact ag.bX i|(simp only [ag.set_set]; exact ag.bX i)
def oM (f:af):Option Bool:=(vY f).bind fun b=>aQ ((decide (b<=(4096:Int)))) (vZ f) (0:Int) fun g=>aQ (((decide (b<=(4096:Int)))&&(decide (g<=(24:Int))))) (zZ f false) false fun i=>some (((decide (b<=(4096:Int)))&&(decide (g<=(24:Int))))&&i)
def Di (b:af):Option Bool:=oM b
theorem SM (a0:af):Di a0=oM a0:=rfl
theorem SN {f:af}{r:Bool}(b:Di f=some r) (H:ag) :AC Tryz.prog 178 [.agg (af.c f)] H fun v h'=>v=.a (.d (.bool r))/\h'=H:=by
 unfold Di oM at b;refine AC.oW 15 [.tmp 2] Tryz.call178 Tryz.func178 ?_;refine aa (S BX (S As (nil ?_)));refine aa (S Ld ?_);obtain⟨k,g,b⟩:=qT (Gu _) b;refine Sc rfl rfl (Gt g) ?_;refine S BI (S Mv (G0 Ld ?_));obtain⟨l,i,b⟩:=dB (Gy _) b;refine dH 7 rfl rfl rfl rfl rfl (fun hC=>Gx (i hC)) ?_;refine G1 8 rfl BI ?_;refine S PA (S Mv (G0 Ld ?_));obtain⟨m,j,b⟩:=dB (GC _ _) b
 refine dH 12 rfl rfl rfl rfl rfl (fun hC=>GB (j hC)) ?_;refine S PA (S As (nil ?_));exact rt b
end Go.Proofs
namespace Go.Proofs
open Go Go.Ab
open aS aq ah aU dV
variable {an:bf}
def lc (o:ar) (f:(Sl ax)):List Z8->Int->Option (Int ⊕ Bool)
 | [],b=>some (Sum.inl b)
 | i::p,b=>aQ ((decide (b<((f.l.length:Nat):Int)))) (cq f.l b) ax.zero fun q=>on (bif (decide (b<((f.l.length:Nat):Int))) then i else Z8.zero) fun r=>on (fun(s:Int)=>lc o f (p) s) fun m=>bif ((decide (b<((f.l.length:Nat):Int)))&&((q.ai==r.ai))) then(on (i) fun t=>(cq f.l b).bind fun u=>(ni o t.aO u.cB).bind fun g=>aQ (!(!decide (g.2=(0:Int)))) (cq f.l b) ax.zero fun v=>aQ (!(!decide (g.2=(0:Int)))) (oM v.cB) false fun j=>aQ (!((!decide (g.2=(0:Int)))||(!j))) (cq f.l b) ax.zero fun w=>aQ (!((!decide (g.2=(0:Int)))||(!j))) (qh g.1 w.cB) false fun x=>bif (((!decide (g.2=(0:Int)))||(!j))||(!x)) then(some (Sum.inr false)) else((bY b (1:Int)).bind fun y=>m y)) else(on (i) fun k=>on (bif !k.dO then i else Z8.zero) fun z=>on (bif !k.dO then fw z.aO else false) fun B=>bif (k.dO||B) then(some (Sum.inr false)) else(m b))
def qq (k:ar) (m:(Sl Z8)) (b:(Sl ax)):Option Bool:=Option.bind (lc k b m.l (0:Int)) fun f=>match f with|Sum.inl g=>(on (g) fun i=>some (decide (i=((b.l.length:Nat):Int))))|Sum.inr j=>(some j)
def Dj (b:ar) (f:(Sl Z8)) (g:(Sl ax)):Option Bool:=qq b f g
theorem SO (a0:ar) (a1:(Sl Z8)) (a2:(Sl ax)):Dj a0 a1 a2=qq a0 a1 a2:=rfl
theorem SQ {o:ar}{j:Sl Z8}{g:Sl ax}{B C:Option Nat}{r:Bool}(b:Dj o j g=some r) (H:ag) :AC Tryz.prog 120 [.agg (ar.c o),.d (Sl.d 10 Z8.c B j),.d (Sl.d 6 ax.c C g)] H fun v h'=>v=.a (.d (.bool r))/\h'=H:=by
 unfold Dj qq at b;refine AC.oW 89 [.tmp 6] Tryz.call120 Tryz.func120 ?_;refine aa (S BX (S As (nil ?_)));refine aa (S As (nil ?_));refine aP (TA 2 kN) (fun(z:Int)=>[(7,.a (.d (.int .i64 z)))]) (fun z=>H) (fun z=>(some (decide (z=((g.l.length:Nat):Int))))=some r) ?_ ?_
 ·intro aj E;refine aa (S As (nil ?_));refine block ?_;obtain⟨p,q,b⟩:=cG b;refine bD (TA 1 (TA 2 (TA 3 kN))) (fun(z:Int×Nat)=>[(7,.a (.d (.int .i64 z.1))),(8,.a (.d (.int .i64 ((z.2:Nat):Int))))]) (fun z=>H) (fun z=>j.l.length-z.2) (fun z=>Option.bind (lc o g (j.l.drop z.2) z.1) p=some r) ((0:Int),0) b wA ?_;rintro ⟨t,i⟩ b ak F;try dsimp only at b
  refine ay fun G w=>?_;refine aa (S Mv (S Mv ?_));refine sLen (f:=Z8.c) (s:=j) (TK rfl) rfl rfl rfl rfl fun al=>?_;refine S BI (nil ?_);refine ah.cL (fun l=>Option.bind (lc o g l t) p=some r) b rfl (fun am m u b=>?_) (fun u b=>?_)
  ·rw [lc] at b;try dsimp only at u
   have an:=oD u;refine sk w ?_;clear w G;refine aP (TA 1 (TA 2 (TA 3 (TA 8 kN)))) (fun(z:Int)=>[(7,.a (.d (.int .i64 z)))]) (fun z=>H) (fun z=>Option.bind (lc o g (j.l.drop (i+1)) z) p=some r) ?_ ?_
   ·intro ao x;refine block ?_;refine ah.cH (Sd Mv (Sd Mv ?_));refine au.s0 (dx (f:=ax.c) (s:=g) (TK rfl) rfl rfl rfl) rfl ?_;refine Sd BI (Sd Mv (cr Mv (cr Mv ?_)));obtain⟨ap,I,b⟩:=eR rfl b;refine au.gC rfl rfl (fun hC=>aI (k:=22) rfl (aI (k:=23) rfl (fI (f:=ax.c) (TK rfl) rfl (TK rfl) rfl rfl rfl (I hC)))) rfl ?_;refine cK 24 rfl Fv ?_;refine cK 25 rfl Ld ?_
    refine cr Mv (cr Mv ?_);obtain⟨av,J,b⟩:=eV (fun _=>m) b;refine au.gC rfl rfl (fun hC=>aI (k:=27) rfl (aI (k:=28) rfl (eO (f:=Z8.c) (n:=i) (TK rfl) rfl (TK rfl) rfl rfl rfl (J hC)))) rfl ?_;refine cK 29 rfl Fv ?_;refine cK 30 rfl Ld ?_;refine q_ 26 31 rfl rfl BS ?_;refine Sd PA ?_;refine au.nil (by decide +kernel) ?_;obtain⟨_,rfl,b⟩:=mO b;refine cO b (fun K b=>?_) (fun K b=>?_)
    ·refine ah.cH (Sd Ld (Sd Mv (Sd Mv ?_)));obtain⟨aw,L,b⟩:=vO m b;refine Sd (ix Z8.c i L) (Sd Fv (Sd Ld (Sd Mv (Sd Mv ?_))));obtain⟨az,M,b⟩:=qO rfl b;refine au.s0 (fI (f:=ax.c) (TK rfl) rfl (TK rfl) rfl rfl rfl M) rfl ?_;refine Sd Fv (Sd Ld ?_);obtain⟨aA,N,b⟩:=qO (SK _ _ _) b;refine cN rfl rfl (SL N) ?_;refine Sd Mv (Sd EX (Sd EX ?_));refine au.sB (TK rfl) rfl rfl ?_ (by repeat (first|exact bT.nil|apply bT.cons))
     refine au.dU (eA (TK rfl) rfl rfl rfl rfl rfl) ?_;refine Sd As ?_;refine au.nil (by decide +kernel) ?_;refine bH 9 _ rfl (KA 1 (KA 2 (KA 3 (KA 7 (KA 8 (KA 10 aU.nil)))))) ?_;refine ay fun O y=>?_;refine ah.cH (Sd Mv (Sd BI (Sd Mv (cr Mv (cr Mv ?_)))));obtain⟨aB,P,b⟩:=eR rfl b;refine au.gC rfl rfl (fun hC=>aI (k:=52) rfl (aI (k:=53) rfl (fI (f:=ax.c) (TK rfl) rfl (TK rfl) rfl rfl rfl (P hC)))) rfl ?_
     refine cK 54 rfl Fv ?_;refine cK 55 rfl Ld ?_;obtain⟨aC,Q,b⟩:=eR (SM _) b;refine nN 56 rfl rfl rfl rfl rfl (fun hC=>SN (Q hC)) ?_;refine cK 57 rfl NB ?_;refine Sd PO (Sd Mv (cr Ld (cr Mv (cr Mv ?_))));obtain⟨aD,R,b⟩:=eR rfl b;refine au.gC rfl rfl (fun hC=>aI (k:=62) rfl (aI (k:=63) rfl (fI (f:=ax.c) (TK rfl) rfl (TK rfl) rfl rfl rfl (R hC)))) rfl ?_
     refine cK 64 rfl Fv ?_;refine cK 65 rfl Ld ?_;obtain⟨aE,U,b⟩:=eR (Ih _ _) b;refine kG 61 66 rfl rfl rfl rfl rfl rfl (fun hC=>Ii (U hC)) ?_;refine cK 67 rfl NB ?_;refine Sd PO ?_;refine au.nil (by decide +kernel) ?_;refine cO b (fun W b=>?_) (fun W b=>?_)
     ·refine aa (S As (nil ?_));refine ah.ret ?_;repeat (first|refine bM ?_|refine bN ?_)
      have b:=ku q b;obtain rfl:=oJ b;refine bF.bK H rfl ⟨rfl,rfl⟩ ?_;exact(fun _ _ h=>h)
     refine sk y ?_;clear y O;refine region ?_;refine S Mv ?_;obtain⟨X,Y,b⟩:=qO rfl b;refine s0 (dc rfl rfl Y) rfl ?_;refine S As (nil ?_);exact x _ X wA b
    refine aa (S Mv (S Mv ?_));obtain⟨aF,Z,b⟩:=vO m b;refine S (ix Z8.c i Z) (S Fv (S Ld (S Mv (G0 Mv (G0 Mv ?_)))));obtain⟨aG,ab,b⟩:=eV (fun _=>m) b;refine gC rfl rfl (fun hC=>aI (k:=78) rfl (aI (k:=79) rfl (eO (f:=Z8.c) (n:=i) (TK rfl) rfl (TK rfl) rfl rfl rfl (ab hC)))) rfl ?_;refine G1 80 rfl Fv ?_;refine G1 81 rfl Ld ?_;obtain⟨aH,ad,b⟩:=eV (fun _=>(oe _)) b
    refine dH 82 rfl rfl rfl rfl rfl (fun hC=>og (ad hC)) ?_;refine S PO (nil ?_);refine cO b (fun ae b=>?_) (fun ae b=>?_)
    ·refine aa (S As (nil ?_));refine ah.ret ?_;repeat (first|refine bM ?_|refine bN ?_)
     have b:=ku q b;obtain rfl:=oJ b;refine bF.bK H rfl ⟨rfl,rfl⟩ ?_;exact(fun _ _ h=>h)
    refine ah.skip ?_;exact x _ t wA b
   rintro af b;try dsimp only at b
   refine region ?_;refine S Mv ?_;refine SI ?_;refine S As (nil ?_);exact F _ (af,(i+1)) wA b (dl m)
  rw [lc] at b;have b:=ku q b;try dsimp only at b
  refine ah.exit ?_;obtain⟨aK,ai,b⟩:=cC b;have b:=ku ai b;exact E _ t wA b
 rintro aL b;try dsimp only at b
 refine aa (S Mv (S Mv ?_));refine sLen (f:=ax.c) (s:=g) (TK rfl) rfl rfl rfl rfl fun aM=>?_;refine S BI (S As (nil ?_));exact rt b
def sX (g:ar) (b:aj):Option Bool:=aQ ((!(decide (b.bW<(-1:Int)))&&(decide ((0:Int)<=b.bW)))) (oh b.aO) false fun k=>bif ((decide (b.bW<(-1:Int)))||((decide ((0:Int)<=b.bW))&&(!k))) then(some false) else(on (bQ b.bn) fun i=>aQ (!(!i)) (mI b.bn) false fun m=>bif ((!i)||(m&&((!(b.bn==([95,95,116,121,112,101,110,97,109,101]:Bs)))||(!(b.ai==([95,95,116,121,112,101,110,97,109,101]:Bs)))))) then(some false) else(bif ((b.ai==([95,95,116,121,112,101,110,97,109,101]:Bs))) then(on (uG ) fun o=>(kQ b.aO o).bind fun p=>some ((p&&(decide (((b.aG.l.length:Nat):Int)=(0:Int))))&&(decide (((b.aK.l.length:Nat):Int)=(0:Int))))) else(on (cV g b.bz) fun q=>on (gb q.1 b.ai) fun f=>aQ (!(!f.2)) (kQ f.1.aO b.aO) false fun j=>aQ (!((!f.2)||(!j))) (qq g f.1.aG b.aG) false fun r=>bif (((!f.2)||(!j))||(!r)) then(some false) else(on (bif !(decide (((b.aK.l.length:Nat):Int)=(0:Int))) then tW g b.aO.ai else false) fun s=>some ((decide (((b.aK.l.length:Nat):Int)=(0:Int)))||(!s))))))
def Dk (b:ar) (f:aj):Option Bool:=sX b f
theorem SR (a0:ar) (a1:aj):Dk a0 a1=sX a0 a1:=rfl
theorem SS {o:ar}{g:aj}{r:Bool}(b:Dk o g=some r) (H:ag) :AC Tryz.prog 68 [.agg (ar.c o),.agg (aj.c g)] H fun v h'=>v=.a (.d (.bool r))/\h'=H:=by
 unfold Dk sX at b;refine AC.oW 106 [.tmp 4] Tryz.call68 Tryz.func68 ?_;refine aa (S BX (S BX (S As (nil ?_))));refine ay fun p i=>?_;refine aa (S Fv (S Ld (S BI (S Mv (G0 Fv ?_)))));refine G1 13 rfl Ld ?_;refine G1 14 rfl BI ?_;refine G1 15 rfl Mv ?_;refine G0 Fv ?_;refine G1 17 rfl Ld ?_;obtain⟨O,q,b⟩:=dB (Hg _) b;refine dH 18 rfl rfl rfl rfl rfl (fun hC=>Hh (q hC)) ?_
 refine G1 19 rfl NB ?_;refine gC rfl rfl (fun hC=>aI (k:=16) rfl (gF rfl rfl rfl)) rfl ?_;refine S PO (nil ?_);refine cE b (fun t b=>?_) (fun t b=>?_)
 ·refine aa (S As (nil ?_));exact rt b
 refine sk i ?_;clear i p;refine ay fun u j=>?_;refine aa (S Fv (S Ld ?_));obtain⟨P,w,b⟩:=vT (jh _) b;refine Sc rfl rfl (ji w) ?_;refine S NB (S Mv (G0 Fv ?_));refine G1 28 rfl Ld ?_;obtain⟨Q,y,b⟩:=dB (GR _) b;refine dH 29 rfl rfl rfl rfl rfl (fun hC=>GS (y hC)) ?_;refine G1 30 rfl Mv ?_;refine G0 Fv ?_;refine G1 32 rfl Ld ?_;refine G1 33 rfl BS ?_
 refine G1 34 rfl Mv ?_;refine G0 Fv ?_;refine G1 36 rfl Ld ?_;refine G1 37 rfl BS ?_;refine gC rfl rfl (fun hC=>aI (k:=35) rfl (pM rfl rfl rfl)) rfl ?_;refine gC rfl rfl (fun hC=>aI (k:=31) rfl (gF rfl rfl rfl)) rfl ?_;refine S PO (nil ?_);refine cE b (fun z b=>?_) (fun z b=>?_)
 ·refine aa (S As (nil ?_));exact rt b
 refine sk j ?_;clear j u;refine ay fun B l=>?_;refine aa (S Fv (S Ld (S BS (nil ?_))));refine cE b (fun C b=>?_) (fun C b=>?_)
 ·refine ah.cH (Sd Fv (Sd Ld ?_));obtain⟨R,E,b⟩:=vT (SG ) b;refine cN rfl rfl (SJ E) ?_;obtain⟨U,F,b⟩:=qT (wz _ _) b;refine cN rfl rfl (wC F) ?_;refine Sd Mv (cr Fv ?_);refine cK 50 rfl Ld ?_;refine au.gC rfl rfl (fun hC=>aI (k:=51) rfl (dx (f:=ax.c) (s:=g.aG) (TK rfl) rfl rfl rfl)) rfl ?_;refine cK 52 rfl BI ?_;refine Sd PA (Sd Mv (cr Fv ?_))
  refine au.gC rfl rfl (fun hC=>aI (k:=56) rfl (ck (TK rfl) rfl rfl (congrArg (fun x=>some (A.d x)) (aj.gp _)))) rfl ?_;refine au.gC rfl rfl (fun hC=>aI (k:=57) rfl (dx (f:=aj.c) (s:=g.aK) (TK rfl) rfl rfl rfl)) rfl ?_;refine cK 58 rfl BI ?_;refine Sd PA (Sd As ?_);refine au.nil (by decide +kernel) ?_;exact rt b
 refine sk l ?_;clear l B;refine aa (S Ld (S Fv (S Ld ?_)));obtain⟨W,G,b⟩:=vT (jj _ _) b;refine Sc rfl rfl (jk G) ?_;refine S Mv (S EX (S EX ?_));refine Sl ?_;refine Sf ?_;refine S As (nil ?_);refine bH 5 _ rfl (KA 2 (KA 3 aU.nil)) ?_;refine aa (S Ld (S Fv (S Ld ?_)));obtain⟨X,I,b⟩:=vT (Aw _ _) b;refine Sc rfl rfl (Ax I) ?_;refine S Mv (S EX (S EX ?_))
 refine Sl ?_;refine Sf ?_;refine S As (nil ?_);refine bH 7 _ rfl (KA 2 (KA 3 (KA 8 aU.nil))) ?_;refine ay fun J m=>?_;refine aa (S Mv (S NB (S Mv (G0 Fv ?_))));refine G1 78 rfl Ld ?_;refine G0 Fv ?_;refine G1 80 rfl Ld ?_;obtain⟨Y,K,b⟩:=dB (wz _ _) b;refine fq 79 81 rfl rfl rfl rfl rfl rfl (fun hC=>wC (K hC)) ?_;refine G1 82 rfl NB ?_;refine S PO (S Mv (G0 Ld (G0 Fv ?_)))
 refine G1 87 rfl Ld ?_;refine G0 Fv ?_;refine G1 89 rfl Ld ?_;obtain⟨Z,L,b⟩:=dB (SO _ _ _) b;refine gC rfl rfl (fun hC=>aI (k:=86) rfl (aI (k:=88) rfl (aI (k:=90) rfl (fh rfl rfl (fun H=>SQ (L hC) H))))) rfl ?_;refine G1 91 rfl NB ?_;refine S PO (nil ?_);refine cE b (fun M b=>?_) (fun M b=>?_)
 ·refine aa (S As (nil ?_));exact rt b
 refine sk m ?_;clear m J;refine aa (S Fv ?_);refine s0 (ck (TK rfl) rfl rfl (congrArg (fun x=>some (A.d x)) (aj.gp _))) rfl ?_;refine sLen (f:=aj.c) (s:=g.aK) (TK rfl) rfl rfl rfl rfl fun ab=>?_;refine S BI (S Mv (G0 Ld (G0 Fv ?_)));refine G1 100 rfl Fv ?_;refine G1 101 rfl Ld ?_;obtain⟨ad,N,b⟩:=q8 (fun _=>(G5 _ _)) b;refine fq 99 102 rfl rfl rfl rfl rfl rfl (fun hC=>G6 (N hC)) ?_
 refine G1 103 rfl NB ?_;refine S PO (S As (nil ?_));exact rt b
def nj (j:(Sl aj)) (f:aj):Nat->Nat->Option (Unit ⊕ Bool)
 | 0,b=>some (Sum.inl ())
 | k+1,b=>(j.l[b]?).bind fun g=>on (f) fun i=>aQ (((g.bz==i.bz))) (j.l[b]?) aj.zero fun m=>on (bif ((g.bz==i.bz)) then f else aj.zero) fun o=>bif (((g.bz==i.bz))&&((m.bn==o.bn))) then(some (Sum.inr false)) else(nj j f (k) (b+1) )
def lY (l:ar) (p:(Sl aj)) (b:Int) (m:(Sl Bs)) (o:ar->Bs->(Sl aj)->Int->Option Bool):List aj->Nat->Int->Option (Unit ⊕ Bool)
 | [],k,f=>some (Sum.inl ())
 | i::q,k,f=>on (i) fun r=>on (oL m r.bz) fun g=>on (bif !((decide ((24:Int)<b))||(decide (g<f))) then i else aj.zero) fun s=>aQ (!((decide ((24:Int)<b))||(decide (g<f)))) (sX l s) false fun j=>on (bif !(((decide ((24:Int)<b))||(decide (g<f)))||(!j)) then i else aj.zero) fun t=>on (bif !(((decide ((24:Int)<b))||(decide (g<f)))||(!j)) then i else aj.zero) fun u=>aQ (!(((decide ((24:Int)<b))||(decide (g<f)))||(!j))) (bY b (1:Int)) (0:Int) fun v=>aQ (!(((decide ((24:Int)<b))||(decide (g<f)))||(!j))) (o l t.aO.ai u.aK v) false fun w=>bif ((((decide ((24:Int)<b))||(decide (g<f)))||(!j))||(!w)) then(some (Sum.inr false)) else(Option.bind (nj p i k 0 ) fun x=>match x with|Sum.inl _=>(on (g) fun y=>lY l p b m o (q) (k+1) y)|Sum.inr z=>(some (Sum.inr z)))
def j_:Nat->ar->Bs->(Sl aj)->Int->Option Bool
 | 0,_,_,_,_=>none
 | n+1,b,k,f,m=>(kR b k).bind fun g=>Option.bind (lY b f m g (j_ n) f.l 0 (0:Int)) fun i=>match i with|Sum.inl _=>(on (()) fun _=>some true)|Sum.inr j=>(some j)
def Dl (n:Nat):Prop:=∀{a0:ar}{a1:Bs}{a2:(Sl aj)}{a3:Int}{b:Option Nat}  {r:Bool},j_ n a0 a1 a2 a3=some r->∀(H:ag),AC Tryz.prog 32 [.agg (ar.c a0),.d (.str a1),.d (Sl.d 9 aj.c b a2),.d (.int .i64 a3)] H fun v h'=>v=.a (.d (.bool r))/\h'=H
theorem SU (n:Nat) (J:Dl (an:=an) n):Dl (an:=an) (n+1):=by
 intro v a0 i w aB  r b H;rw [j_] at b;refine AC.oW 94 [.tmp 8] Tryz.call32 Tryz.func32 ?_;refine aa (S BX (S As (nil ?_)));refine aa (S Ld (S Mv ?_));obtain⟨o,K,b⟩:=qT (Hl _ _) b;refine Sc rfl rfl (Ho K) ?_;refine S As (nil ?_);refine aa (S As (nil ?_));refine aP kN (fun(z:Unit)=>[]) (fun z=>H) (fun z=>(some true)=some r) ?_ ?_
 ·intro aC L;refine aa (S As (nil ?_));refine block ?_;obtain⟨p,q,b⟩:=cG b;refine bD (TA 2 (TA 3 (TA 4 (TA 9 kN)))) (fun(z:Int×Nat)=>[(10,.a (.d (.int .i64 z.1))),(11,.a (.d (.int .i64 ((z.2:Nat):Int))))]) (fun z=>H) (fun z=>i.l.length-z.2) (fun z=>Option.bind (lY v i w o (j_ n) (i.l.drop z.2) z.2 z.1) p=some r) ((0:Int),0) b wA ?_;rintro ⟨M,g⟩ b aD N
  try dsimp only at b
  refine ay fun O y=>?_;refine aa (S Mv (S Mv ?_));refine sLen (f:=aj.c) (s:=i) (TK rfl) rfl rfl rfl rfl fun aE=>?_;refine S BI (nil ?_);refine ah.cL (fun l=>Option.bind (lY v i w o (j_ n) l g M) p=some r) b rfl (fun B j t b=>?_) (fun t b=>?_)
  ·rw [lY] at b;try dsimp only at t
   have aF:=oD t;refine sk y ?_;clear y O;refine aP (TA 2 (TA 3 (TA 4 (TA 9 (TA 11 kN))))) (fun(z:Int)=>[(10,.a (.d (.int .i64 z)))]) (fun z=>H) (fun z=>Option.bind (lY v i w o (j_ n) (i.l.drop (g+1)) (g+1) z) p=some r) ?_ ?_
   ·intro aG P;refine block ?_;refine aa (S Mv (S Mv (S Mv ?_)));obtain⟨aH,Q,b⟩:=vO j b;refine S (ix aj.c g Q) (S Fv (S Ld ?_));obtain⟨R,U,b⟩:=vO (SE _ _) b;refine Sc rfl rfl (SF U) ?_;refine S As (nil ?_);refine ay fun W C=>?_;refine ah.cH (Sd Mv (Sd BI (Sd Mv (cr Mv (cr Mv ?_)))));refine q_ 33 34 rfl rfl BI ?_;refine Sd PO (Sd Mv (cr Ld (cr Mv (cr Mv ?_))))
    obtain⟨aK,X,b⟩:=eV (fun _=>j) b;refine au.gC rfl rfl (fun hC=>aI (k:=39) rfl (aI (k:=40) rfl (eO (f:=aj.c) (n:=g) (TK rfl) rfl (TK rfl) rfl rfl rfl (X hC)))) rfl ?_;refine cK 41 rfl Ld ?_;obtain⟨aL,Y,b⟩:=eR (SR _ _) b;refine kG 38 42 rfl rfl rfl rfl rfl rfl (fun hC=>SS (Y hC)) ?_;refine cK 43 rfl NB ?_;refine Sd PO (Sd Mv (cr Ld (cr Mv (cr Mv ?_))))
    obtain⟨aM,Z,b⟩:=eV (fun _=>j) b;refine au.gC rfl rfl (fun hC=>aI (k:=48) rfl (aI (k:=49) rfl (eO (f:=aj.c) (n:=g) (TK rfl) rfl (TK rfl) rfl rfl rfl (Z hC)))) rfl ?_;refine cK 50 rfl Fv ?_;refine cK 51 rfl Fv ?_;refine cK 52 rfl Ld ?_;refine cr Mv (cr Mv ?_);obtain⟨aN,ab,b⟩:=eV (fun _=>j) b;refine au.gC rfl rfl (fun hC=>aI (k:=54) rfl (aI (k:=55) rfl (eO (f:=aj.c) (n:=g) (TK rfl) rfl (TK rfl) rfl rfl rfl (ab hC)))) rfl ?_
    refine cK 56 rfl Fv ?_;refine au.gC rfl rfl (fun hC=>aI (k:=57) rfl (ck (TK rfl) rfl rfl (congrArg (fun x=>some (A.d x)) (aj.gp _)))) rfl ?_;refine cr Mv ?_;obtain⟨aO,ad,b⟩:=eR rfl b;refine au.gC rfl rfl (fun hC=>aI (k:=59) rfl (dc rfl rfl (ad hC))) rfl ?_;obtain⟨aQ,ae,b⟩:=eR rfl b;refine au.gC rfl rfl (fun hC=>aI (k:=47) rfl (aI (k:=53) rfl (aI (k:=58) rfl (aI (k:=60) rfl (fh rfl rfl (fun H=>J (ae hC) H)))))) rfl ?_
    refine cK 61 rfl NB ?_;refine Sd PO ?_;refine au.nil (by decide +kernel) ?_;refine cO b (fun af b=>?_) (fun af b=>?_)
    ·refine aa (S As (nil ?_));refine ah.ret ?_;repeat (first|refine bM ?_|refine bN ?_)
     have b:=ku q b;obtain rfl:=oJ b;refine bF.bK H rfl ⟨rfl,rfl⟩ ?_;exact(fun _ _ h=>h)
    refine sk C ?_;clear C W;refine aa (S Mv (S As (nil ?_)));refine aa (S As (nil ?_));refine block ?_;obtain⟨E,F,b⟩:=eG b;refine bD (TA 2 (TA 3 (TA 4 (TA 9 (TA 10 (TA 11 kN)))))) (fun(z:Nat)=>[(13,.a (.d (.int .i64 ((z:Nat):Int))))]) (fun z=>H) (fun z=>g-z) (fun z=>Option.bind (nj i B (g-z) z ) E=some r) 0 b wA ?_;rintro m b aR ai
    try dsimp only at b
    refine ay fun ak G=>?_;refine aa (S Mv (S Mv (S BI (nil ?_))));refine ah.zB (fun l=>Option.bind (nj i B l m ) E=some r) b rfl (fun al u b=>?_) (fun u b=>?_)
    ·rw [nj] at b;try dsimp only at u
     have aS:=oD u;refine sk G ?_;clear G ak;refine ay fun am I=>?_;refine block ?_;refine ah.cH (Sd Mv (Sd Mv ?_));obtain⟨aT,ao,b⟩:=qO rfl b;refine Sd (ix aj.c m ao) (Sd Fv (Sd Ld (Sd Mv (Sd Mv ?_))));obtain⟨aV,ap,b⟩:=vO j b;refine Sd (ix aj.c g ap) (Sd Fv (Sd Ld (Sd BS (Sd Mv (cr Mv (cr Mv ?_))))));obtain⟨aW,ar,b⟩:=eR rfl b;refine au.gC rfl rfl (fun hC=>aI (k:=82) rfl (aI (k:=83) rfl (eO (f:=aj.c) (n:=m) (TK rfl) rfl (TK rfl) rfl rfl rfl (ar hC)))) rfl ?_
     refine cK 84 rfl Fv ?_;refine cK 85 rfl Ld ?_;refine cr Mv (cr Mv ?_);obtain⟨aX,av,b⟩:=eV (fun _=>j) b;refine au.gC rfl rfl (fun hC=>aI (k:=87) rfl (aI (k:=88) rfl (eO (f:=aj.c) (n:=g) (TK rfl) rfl (TK rfl) rfl rfl rfl (av hC)))) rfl ?_;refine cK 89 rfl Fv ?_;refine cK 90 rfl Ld ?_;refine q_ 86 91 rfl rfl BS ?_;refine Sd PA ?_;refine au.nil (by decide +kernel) ?_
     refine cO b (fun aw b=>?_) (fun aw b=>?_)
     ·refine aa (S As (nil ?_));refine ah.ret ?_;repeat (first|refine bM ?_|refine bN ?_)
      have b:=ku F b;have b:=ku q b;obtain rfl:=oJ b;refine bF.bK H rfl ⟨rfl,rfl⟩ ?_;exact(fun _ _ h=>h)
     refine sk I ?_;clear I am;refine region ?_;refine S Mv ?_;refine SI ?_;refine S As (nil ?_);exact ai _ (m+1) wA b (dn al)
    rw [nj] at b;have b:=ku F b;try dsimp only at b
    refine ah.exit ?_;obtain⟨aY,ax,b⟩:=gP b;have b:=ku ax b;exact P _ R wA b
   rintro az b;try dsimp only at b
   refine region ?_;refine S Mv ?_;refine SI ?_;refine S As (nil ?_);exact N _ (az,(g+1)) wA b (dl j)
  rw [lY] at b;have b:=ku q b;try dsimp only at b
  refine ah.exit ?_;obtain⟨aZ,aA,b⟩:=cC b;have b:=ku aA b;exact L _ () wA b
 rintro _ b;try dsimp only at b
 refine aa (S As (nil ?_));exact rt b
theorem I8:∀(n:Nat),(Dl (an:=an) n)
 | 0=>fun b=>by first|cases b|(rw [j_] at b; cases b)
 | n+1=>SU n (I8 n)
def I9 (b:ar) (f:Bs) (g:(Sl aj)) (i:Int):Option Bool:=j_ F0 b f g i
theorem SV {b:ar}{f:Bs}{g:Sl aj}{i:Int}{j:Option Nat}{r:Bool}(k:I9 b f g i=some r) (H:ag) :AC Tryz.prog 32 [.agg (ar.c b),.d (.str f),.d (Sl.d 9 aj.c j g),.d (.int .i64 i)] H fun v h'=>v=.a (.d (.bool r))/\h'=H:=(I8 F0) k H 
def Dm (b:ar) (f:Bs) (g:(Sl aj)) (i:Int):Option Bool:=j_ F0 b f g i
theorem SX (a0:ar) (a1:Bs) (a2:(Sl aj)) (a3:Int):I9 a0 a1 a2 a3=Dm a0 a1 a2 a3:=rfl
def qs (i:ar) (f:bU):Option Bool:=on (lX f.ak) fun j=>on (cV i j) fun b=>aQ ((b.2&&(decide (b.1.ak=(1:Int))))) (uF f.aK) (0:Int) fun g=>aQ (((b.2&&(decide (b.1.ak=(1:Int))))&&(decide (g<=(2048:Int))))) (Dm i b.1.ai f.aK (1:Int)) false fun k=>some (((b.2&&(decide (b.1.ak=(1:Int))))&&(decide (g<=(2048:Int))))&&k)
def Dn (b:ar) (f:bU):Option Bool:=qs b f
theorem I_ (a0:ar) (a1:bU):Dn a0 a1=qs a0 a1:=rfl
theorem Jb {f:ar}{g:bU}{r:Bool}(b:Dn f g=some r) (H:ag) :AC Tryz.prog 10 [.agg (ar.c f),.agg (bU.c g)] H fun v h'=>v=.a (.d (.bool r))/\h'=H:=by
 unfold Dn qs at b;refine AC.oW 35 [.tmp 4] Tryz.call10 Tryz.func10 ?_;refine aa (S BX (S BX (S As (nil ?_))));refine ah.cH (Sd Ld (Sd Fv (Sd Ld ?_)));obtain⟨o,i,b⟩:=vT (SC _) b;refine cN rfl rfl (SD i) ?_;obtain⟨p,j,b⟩:=vT (jj _ _) b;refine cN rfl rfl (jk j) ?_;refine Sd Mv (Sd EX (Sd EX ?_));refine au.sB (TK rfl) rfl rfl ?_ (by repeat (first|exact bT.nil|apply bT.cons))
 refine au.dU (eA (TK rfl) rfl rfl rfl rfl rfl) ?_;refine Sd As ?_;refine au.nil (by decide +kernel) ?_;refine bH 5 _ rfl (KA 2 (KA 3 (KA 6 aU.nil))) ?_;refine aa (S Mv (S Mv (G0 Fv ?_)));refine G1 17 rfl Ld ?_;refine G1 18 rfl BI ?_;refine S PA (S Mv (G0 Fv ?_));refine G1 22 rfl Ld ?_;obtain⟨q,l,b⟩:=dB (I7 _) b;refine dH 23 rfl rfl rfl rfl rfl (fun hC=>I6 (l hC)) ?_
 refine G1 24 rfl BI ?_;refine S PA (S Mv (G0 Ld (G0 Fv ?_)));refine G1 29 rfl Ld ?_;refine G0 Fv ?_;refine G1 31 rfl Ld ?_;obtain⟨s,m,b⟩:=dB (SX _ _ _ _) b;refine gC rfl rfl (fun hC=>aI (k:=28) rfl (aI (k:=30) rfl (aI (k:=32) rfl (fh rfl rfl (fun H=>SV (m hC) H))))) rfl ?_;refine S PA (S As (nil ?_));exact rt b
end Go.Proofs
