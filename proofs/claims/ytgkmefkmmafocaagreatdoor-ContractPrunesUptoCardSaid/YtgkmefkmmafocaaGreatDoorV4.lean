import Derived.Test.YtgkmefkmmafocaaGreatDoorV3
set_option maxRecDepth 100000
set_option maxHeartbeats 2000000
set_option linter.unusedVariables false
set_option linter.unusedSimpArgs false
namespace Go.Proofs
open Go Go.Ab
open aO aq ah aY eG
variable {az:bC}
def uc (b:ag):Bool:=(((((decide (b.ar=(0:Int)))&&(decide (b.bx=(0:Int))))&&((b.bw==([]:Bs))))&&(decide (((b.aN.l.length:Nat):Int)=(0:Int))))&&(decide (((b.a_.l.length:Nat):Int)=(0:Int))))
def xL (b:ag):Option Bool:=some (uc b)
theorem JV (a0:ag):xL a0=some (uc a0):=rfl
theorem JW {b:ag}{r:Bool}(g:xL b=some r) (H:ak) :AC Tryz.prog 99 [.agg (ag.c b)] H fun v h'=>v=.a (.d (.bool r))/\h'=H:=by
 unfold xL uc at g;refine AC.oW 28 [.tmp 2] Tryz.call99 Tryz.func99 ?_;refine af (S BX (S As (nil ?_)));refine af (S Fv (S Ld (S BI (S Mv (G0 Fv ?_)))));refine G1 7 rfl Ld ?_;refine G1 8 rfl BI ?_;refine S PA (S Mv (G0 Fv ?_));refine G1 12 rfl Ld ?_;refine G1 13 rfl BS ?_;refine S PA (S Mv (G0 Fv ?_));refine gC rfl rfl (fun hC=>aL (k:=17) rfl (dH (TK rfl) rfl rfl (congrArg (fun x=>some (A.d x)) (ag.dB _)))) rfl ?_
 refine gC rfl rfl (fun hC=>aL (k:=18) rfl (b8 (f:=ag.c) (s:=b.aN) (TK rfl) rfl rfl rfl)) rfl ?_;refine G1 19 rfl BI ?_;refine S PA (S Mv (G0 Fv ?_));refine G1 23 rfl Ld ?_;refine gC rfl rfl (fun hC=>aL (k:=24) rfl (b8 (f:=aI) (s:=b.a_) (TK rfl) rfl rfl rfl)) rfl ?_;refine G1 25 rfl BI ?_;refine S PA (S As (nil ?_));exact rt g
def mq :List Z8->Option (Unit ⊕ Bool)
 | []=>some (Sum.inl ())
 | k::l=>on (k) fun b=>on (ff b.aa) fun f=>aU (!(!f)) (oa b.aA) false fun i=>aU (!((!f)||(!i))) (mm b.bh) false fun m=>bif (((!f)||(!i))||(!m)) then(some (Sum.inr false)) else(aU (b.cT) (nY b.dD) false fun g=>aU ((b.cT&&!(!g))) (tY b.dD) false fun j=>on (bif (!(b.cT&&((!g)||(!j)))&&(!b.cT)) then uc b.dD else false) fun o=>bif ((b.cT&&((!g)||(!j)))||((!b.cT)&&(!o))) then(some (Sum.inr false)) else(mq  (l) ))
def mr (b:(Sl Z8)):Option Bool:=bif (decide ((16:Int)<((b.l.length:Nat):Int))) then(some false) else(Option.bind (mq  b.l ) fun f=>match f with|Sum.inl _=>(on (()) fun _=>some true)|Sum.inr g=>(some g))
def xM (b:(Sl Z8)):Option Bool:=mr b
theorem CN (a0:(Sl Z8)):xM a0=mr a0:=rfl
theorem CO {g:Sl Z8}{w0:Option Nat}{r:Bool}(b:xM g=some r) (H:ak) :AC Tryz.prog 60 [.d (Sl.d 10 Z8.c w0 g)] H fun v h'=>v=.a (.d (.bool r))/\h'=H:=by
 unfold xM mr at b;refine AC.oW 59 [.tmp 2] Tryz.call60 Tryz.func60 ?_;refine af (S As (nil ?_));refine ax fun x m=>?_;refine af (S Mv ?_);refine sLen (f:=Z8.c) (s:=g) (TK rfl) rfl rfl rfl rfl fun U=>?_;refine S BI (nil ?_);refine cE b (fun y b=>?_) (fun y b=>?_)
 ·refine af (S As (nil ?_));exact rt b
 refine sk m ?_;clear m x;refine aP kN (fun(z:Unit)=>[]) (fun z=>H) (fun z=>(some true)=some r) ?_ ?_
 ·intro W B;refine af (S As (nil ?_));refine block ?_;obtain⟨o,i,b⟩:=bY b;refine bp (TA 0 kN) (fun(z:Nat)=>[(3,.a (.d (.int .i64 ((z:Nat):Int))))]) (fun z=>H) (fun z=>g.l.length-z) (fun z=>Option.bind (mq  (g.l.drop z) ) o=some r) 0 b wA ?_;rintro p b X C;try dsimp only at b
  refine ax fun E q=>?_;refine af (S Mv (S Mv ?_));refine sLen (f:=Z8.c) (s:=g) (TK rfl) rfl rfl rfl rfl fun Y=>?_;refine S BI (nil ?_);refine ah.bK (fun l=>Option.bind (mq  l ) o=some r) b rfl (fun Z t j b=>?_) (fun j b=>?_)
  ·rw [mq] at b;try dsimp only at j
   have aa:=oD j;refine sk q ?_;clear q E;refine ax fun F u=>?_;refine block ?_;refine af (S Mv (S Mv ?_));obtain⟨ab,G,b⟩:=vO t b;refine S (ix Z8.c p G) (S Ld ?_);refine Sl ?_;refine Sf ?_;refine nil ?_;refine bA 4 _ rfl (KA 0 (KA 3 aY.nil)) ?_;refine ax fun I w=>?_;refine af (S Fv (S Ld ?_));obtain⟨ad,J,b⟩:=vO (iA _) b
   refine Sc rfl rfl (iB J) ?_;refine S NB (S Mv (G0 Fv ?_));refine G1 23 rfl Ld ?_;obtain⟨ae,K,b⟩:=eC (CL _) b;refine c6 24 rfl rfl rfl rfl rfl (fun hC=>CM (K hC)) ?_;refine G1 25 rfl NB ?_;refine S PO (S Mv (G0 Fv ?_));refine G1 29 rfl Ld ?_;obtain⟨ag,L,b⟩:=eC (ua _) b;refine c6 30 rfl rfl rfl rfl rfl (fun hC=>t_ (L hC)) ?_;refine G1 31 rfl NB ?_
   refine S PO (nil ?_);refine cO b (fun M b=>?_) (fun M b=>?_)
   ·refine af (S As (nil ?_));refine ah.ret ?_;repeat (first|refine bE ?_|refine bF ?_)
    have b:=ku i b;obtain rfl:=oJ b;refine bn.bG H rfl ⟨rfl,rfl⟩ ?_;exact(fun _ _ h=>h)
   refine sk w ?_;clear w I;refine af (S Fv (S Ld (S Mv (G0 Fv ?_))));refine G1 37 rfl Ld ?_;obtain⟨ai,N,b⟩:=eC (CG _) b;refine c6 38 rfl rfl rfl rfl rfl (fun hC=>CH (N hC)) ?_;refine G1 39 rfl NB ?_;refine G1 40 rfl Mv ?_;refine G0 Fv ?_;refine G1 42 rfl Ld ?_;obtain⟨aj,O,b⟩:=eC (CK _) b;refine c6 43 rfl rfl rfl rfl rfl (fun hC=>CJ (O hC)) ?_;refine G1 44 rfl NB ?_
   refine gC rfl rfl (fun hC=>aL (k:=41) rfl (o9 rfl rfl rfl)) rfl ?_;refine S PA (S Mv (G0 Fv ?_));refine G1 49 rfl Ld ?_;refine G1 50 rfl NB ?_;refine G1 51 rfl Mv ?_;refine G0 Fv ?_;refine G1 53 rfl Ld ?_;obtain⟨al,P,b⟩:=eB (fun _=>(JV _)) b;refine c6 54 rfl rfl rfl rfl rfl (fun hC=>JW (P hC)) ?_;refine G1 55 rfl NB ?_;refine gC rfl rfl (fun hC=>aL (k:=52) rfl (gR rfl rfl rfl)) rfl ?_
   refine S PO (nil ?_);refine cO b (fun Q b=>?_) (fun Q b=>?_)
   ·refine af (S As (nil ?_));refine ah.ret ?_;repeat (first|refine bE ?_|refine bF ?_)
    have b:=ku i b;obtain rfl:=oJ b;refine bn.bG H rfl ⟨rfl,rfl⟩ ?_;exact(fun _ _ h=>h)
   refine sk u ?_;clear u F;refine region ?_;refine S Mv ?_;refine SI ?_;refine S As (nil ?_);exact C _ (p+1) wA b (dl t)
  rw [mq] at b;have b:=ku i b;try dsimp only at b
  refine ah.exit ?_;obtain⟨am,R,b⟩:=bT b;have b:=ku R b;exact B _ () wA b
 rintro _ b;try dsimp only at b
 refine af (S As (nil ?_));exact rt b
def mu :List Z7->Option (Unit ⊕ Bool)
 | []=>some (Sum.inl ())
 | g::j=>on (g) fun k=>on (ff k.aa) fun b=>on (bif !(!b) then g else Z7.zero) fun l=>aU (!(!b)) (mr l.aF) false fun f=>on (bif !((!b)||(!f)) then g else Z7.zero) fun m=>aU (!((!b)||(!f))) (oa m.aA) false fun i=>on (bif !(((!b)||(!f))||(!i)) then g else Z7.zero) fun o=>aU (!(((!b)||(!f))||(!i))) (mm o.bh) false fun p=>bif ((((!b)||(!f))||(!i))||(!p)) then(some (Sum.inr false)) else(mu  (j) )
def kX (b:(Sl Z7)):Option Bool:=bif ((decide (((b.l.length:Nat):Int)<(1:Int)))||(decide ((64:Int)<((b.l.length:Nat):Int)))) then(some false) else(Option.bind (mu  b.l ) fun f=>match f with|Sum.inl _=>(on (()) fun _=>some true)|Sum.inr g=>(some g))
def xN (b:(Sl Z7)):Option Bool:=kX b
theorem CP (a0:(Sl Z7)):xN a0=kX a0:=rfl
theorem CQ {g:Sl Z7}{w0:Option Nat}{r:Bool}(b:xN g=some r) (H:ak) :AC Tryz.prog 58 [.d (Sl.d 5 Z7.c w0 g)] H fun v h'=>v=.a (.d (.bool r))/\h'=H:=by
 unfold xN kX at b;refine AC.oW 52 [.tmp 2] Tryz.call58 Tryz.func58 ?_;refine af (S As (nil ?_));refine ax fun w o=>?_;refine af (S Mv ?_);refine sLen (f:=Z7.c) (s:=g) (TK rfl) rfl rfl rfl rfl fun Q=>?_;refine S BI (S Mv (G0 Mv ?_));refine gC rfl rfl (fun hC=>aL (k:=8) rfl (b8 (f:=Z7.c) (s:=g) (TK rfl) rfl rfl rfl)) rfl ?_;refine G1 9 rfl BI ?_;refine S PO (nil ?_);refine cE b (fun x b=>?_) (fun x b=>?_)
 ·refine af (S As (nil ?_));exact rt b
 refine sk o ?_;clear o w;refine aP kN (fun(z:Unit)=>[]) (fun z=>H) (fun z=>(some true)=some r) ?_ ?_
 ·intro R y;refine af (S As (nil ?_));refine block ?_;obtain⟨p,q,b⟩:=bY b;refine bp (TA 0 kN) (fun(z:Nat)=>[(3,.a (.d (.int .i64 ((z:Nat):Int))))]) (fun z=>H) (fun z=>g.l.length-z) (fun z=>Option.bind (mu  (g.l.drop z) ) p=some r) 0 b wA ?_;rintro i b U B;try dsimp only at b
  refine ax fun C t=>?_;refine af (S Mv (S Mv ?_));refine sLen (f:=Z7.c) (s:=g) (TK rfl) rfl rfl rfl rfl fun W=>?_;refine S BI (nil ?_);refine ah.bK (fun l=>Option.bind (mu  l ) p=some r) b rfl (fun X j m b=>?_) (fun m b=>?_)
  ·rw [mu] at b;try dsimp only at m
   have Y:=oD m;refine sk t ?_;clear t C;refine ax fun E u=>?_;refine block ?_;refine af (S Mv (S Mv ?_));obtain⟨Z,F,b⟩:=vO j b;refine S (ix Z7.c i F) (S Fv (S Ld ?_));obtain⟨aa,G,b⟩:=vO (iA _) b;refine Sc rfl rfl (iB G) ?_;refine S NB (S Mv (G0 Mv (G0 Mv ?_)));obtain⟨ab,I,b⟩:=eB (fun _=>j) b;refine gC rfl rfl (fun hC=>aL (k:=26) rfl (aL (k:=27) rfl (dI (f:=Z7.c) (n:=i) (TK rfl) rfl (TK rfl) rfl rfl rfl (I hC)))) rfl ?_
   refine G1 28 rfl Fv ?_;refine G1 29 rfl Ld ?_;obtain⟨ad,J,b⟩:=eC (CN _) b;refine c6 30 rfl rfl rfl rfl rfl (fun hC=>CO (J hC)) ?_;refine G1 31 rfl NB ?_;refine S PO (S Mv (G0 Mv (G0 Mv ?_)));obtain⟨ae,K,b⟩:=eB (fun _=>j) b;refine gC rfl rfl (fun hC=>aL (k:=35) rfl (aL (k:=36) rfl (dI (f:=Z7.c) (n:=i) (TK rfl) rfl (TK rfl) rfl rfl rfl (K hC)))) rfl ?_
   refine G1 37 rfl Fv ?_;refine G1 38 rfl Ld ?_;obtain⟨ag,L,b⟩:=eC (CL _) b;refine c6 39 rfl rfl rfl rfl rfl (fun hC=>CM (L hC)) ?_;refine G1 40 rfl NB ?_;refine S PO (S Mv (G0 Mv (G0 Mv ?_)));obtain⟨ai,M,b⟩:=eB (fun _=>j) b;refine gC rfl rfl (fun hC=>aL (k:=44) rfl (aL (k:=45) rfl (dI (f:=Z7.c) (n:=i) (TK rfl) rfl (TK rfl) rfl rfl rfl (M hC)))) rfl ?_
   refine G1 46 rfl Fv ?_;refine G1 47 rfl Ld ?_;obtain⟨aj,N,b⟩:=eC (ua _) b;refine c6 48 rfl rfl rfl rfl rfl (fun hC=>t_ (N hC)) ?_;refine G1 49 rfl NB ?_;refine S PO (nil ?_);refine cO b (fun O b=>?_) (fun O b=>?_)
   ·refine af (S As (nil ?_));refine ah.ret ?_;repeat (first|refine bE ?_|refine bF ?_)
    have b:=ku q b;obtain rfl:=oJ b;refine bn.bG H rfl ⟨rfl,rfl⟩ ?_;exact(fun _ _ h=>h)
   refine sk u ?_;clear u E;refine region ?_;refine S Mv ?_;refine SI ?_;refine S As (nil ?_);exact B _ (i+1) wA b (dl j)
  rw [mu] at b;have b:=ku q b;try dsimp only at b
  refine ah.exit ?_;obtain⟨al,P,b⟩:=bT b;have b:=ku P b;exact y _ () wA b
 rintro _ b;try dsimp only at b
 refine af (S As (nil ?_));exact rt b
def mv (f:Bool):List Z9->Option (Unit ⊕ Bool)
 | []=>some (Sum.inl ())
 | g::j=>on (g) fun k=>on (ff k.aa) fun b=>on (bif !(!b) then g else Z9.zero) fun m=>aU (!(!b)) (mm m.bh) false fun i=>on (bif (!((!b)||(!i))&&f) then g else Z9.zero) fun o=>bif (((!b)||(!i))||(f&&(decide ((0:Int)<((o.bh.l.length:Nat):Int))))) then(some (Sum.inr false)) else(mv f (j) )
def kY (b:(Sl Z9)) (f:Bool):Option Bool:=bif ((decide (((b.l.length:Nat):Int)<(1:Int)))||(decide ((64:Int)<((b.l.length:Nat):Int)))) then(some false) else(Option.bind (mv f b.l ) fun g=>match g with|Sum.inl _=>(on (()) fun _=>some true)|Sum.inr i=>(some i))
def xO (f:(Sl Z9)) (b:Bool):Option Bool:=kY f b
theorem CR (a0:(Sl Z9)) (b:Bool):xO a0 b=kY a0 b:=rfl
theorem CS {g:Sl Z9}{i:Bool}{w0:Option Nat}{r:Bool}(b:xO g i=some r) (H:ak) :AC Tryz.prog 59 [.d (Sl.d 2 Z9.c w0 g),.d (.bool i)] H fun v h'=>v=.a (.d (.bool r))/\h'=H:=by
 unfold xO kY at b;refine AC.oW 48 [.tmp 4] Tryz.call59 Tryz.func59 ?_;refine af (S As (nil ?_));refine ax fun x p=>?_;refine af (S Mv ?_);refine sLen (f:=Z9.c) (s:=g) (TK rfl) rfl rfl rfl rfl fun P=>?_;refine S BI (S Mv (G0 Mv ?_));refine gC rfl rfl (fun hC=>aL (k:=10) rfl (b8 (f:=Z9.c) (s:=g) (TK rfl) rfl rfl rfl)) rfl ?_;refine G1 11 rfl BI ?_;refine S PO (nil ?_);refine cE b (fun y b=>?_) (fun y b=>?_)
 ·refine af (S As (nil ?_));exact rt b
 refine sk p ?_;clear p x;refine aP kN (fun(z:Unit)=>[]) (fun z=>H) (fun z=>(some true)=some r) ?_ ?_
 ·intro Q B;refine af (S As (nil ?_));refine block ?_;obtain⟨q,t,b⟩:=bY b;refine bp (TA 0 (TA 1 kN)) (fun(z:Nat)=>[(5,.a (.d (.int .i64 ((z:Nat):Int))))]) (fun z=>H) (fun z=>g.l.length-z) (fun z=>Option.bind (mv i (g.l.drop z) ) q=some r) 0 b wA ?_;rintro j b R C;try dsimp only at b
  refine ax fun E u=>?_;refine af (S Mv (S Mv ?_));refine sLen (f:=Z9.c) (s:=g) (TK rfl) rfl rfl rfl rfl fun U=>?_;refine S BI (nil ?_);refine ah.bK (fun l=>Option.bind (mv i l ) q=some r) b rfl (fun W m o b=>?_) (fun o b=>?_)
  ·rw [mv] at b;try dsimp only at o
   have X:=oD o;refine sk u ?_;clear u E;refine ax fun F w=>?_;refine block ?_;refine af (S Mv (S Mv ?_));obtain⟨Y,G,b⟩:=vO m b;refine S (ix Z9.c j G) (S Fv (S Ld ?_));obtain⟨Z,I,b⟩:=vO (iA _) b;refine Sc rfl rfl (iB I) ?_;refine S NB (S Mv (G0 Mv (G0 Mv ?_)));obtain⟨aa,J,b⟩:=eB (fun _=>m) b;refine gC rfl rfl (fun hC=>aL (k:=28) rfl (aL (k:=29) rfl (dI (f:=Z9.c) (n:=j) (TK rfl) rfl (TK rfl) rfl rfl rfl (J hC)))) rfl ?_
   refine G1 30 rfl Fv ?_;refine G1 31 rfl Ld ?_;obtain⟨ab,K,b⟩:=eC (ua _) b;refine c6 32 rfl rfl rfl rfl rfl (fun hC=>t_ (K hC)) ?_;refine G1 33 rfl NB ?_;refine S PO (S Mv (G0 Mv ?_));refine G1 37 rfl Mv ?_;refine G0 Mv (G0 Mv ?_);obtain⟨L,M,b⟩:=eB (fun _=>m) b;refine gC rfl rfl (fun hC=>aL (k:=39) rfl (aL (k:=40) rfl (dI (f:=Z9.c) (n:=j) (TK rfl) rfl (TK rfl) rfl rfl rfl (M hC)))) rfl ?_
   refine G1 41 rfl Fv ?_;refine G1 42 rfl Ld ?_;refine gC rfl rfl (fun hC=>aL (k:=43) rfl (b8 (f:=av.c) (s:=L.bh) (TK rfl) rfl rfl rfl)) rfl ?_;refine G1 44 rfl BI ?_;refine gC rfl rfl (fun hC=>aL (k:=38) rfl (gR rfl rfl rfl)) rfl ?_;refine S PO (nil ?_);refine cO b (fun N b=>?_) (fun N b=>?_)
   ·refine af (S As (nil ?_));refine ah.ret ?_;repeat (first|refine bE ?_|refine bF ?_)
    have b:=ku t b;obtain rfl:=oJ b;refine bn.bG H rfl ⟨rfl,rfl⟩ ?_;exact(fun _ _ h=>h)
   refine sk w ?_;clear w F;refine region ?_;refine S Mv ?_;refine SI ?_;refine S As (nil ?_);exact C _ (j+1) wA b (dl m)
  rw [mv] at b;have b:=ku t b;try dsimp only at b
  refine ah.exit ?_;obtain⟨ad,O,b⟩:=bT b;have b:=ku O b;exact B _ () wA b
 rintro _ b;try dsimp only at b
 refine af (S As (nil ?_));exact rt b
def p7 :List Bs->Unit ⊕ Bool
 | []=>Sum.inl ()
 | b::f=>on (b) fun g=>on (ff g) fun i=>bif (!i) then(Sum.inr false) else(p7  (f) )
def p8 (b:ai):Option Bool:=on (ff b.aa) fun f=>aU (!(!f)) (mm b.bh) false fun g=>bif (((!f)||(!g))||(decide ((64:Int)<((b.aW.l.length:Nat):Int)))) then(some false) else(on (p7  b.aW.l ) fun i=>match i with|Sum.inl _=>(on (()) fun _=>bif (decide (b.ar=(1:Int))) then((kX b.ay).bind fun j=>some ((j&&(decide (((b.aJ.l.length:Nat):Int)=(0:Int))))&&(decide (((b.aM.l.length:Nat):Int)=(0:Int))))) else(bif (decide (b.ar=(2:Int))) then(aU ((decide (((b.aW.l.length:Nat):Int)=(0:Int)))) (kX b.ay) false fun k=>some ((((decide (((b.aW.l.length:Nat):Int)=(0:Int)))&&k)&&(decide (((b.aJ.l.length:Nat):Int)=(0:Int))))&&(decide (((b.aM.l.length:Nat):Int)=(0:Int))))) else(bif (decide (b.ar=(3:Int))) then(aU (((decide (((b.aW.l.length:Nat):Int)=(0:Int)))&&(decide (((b.ay.l.length:Nat):Int)=(0:Int))))) (kY b.aJ true) false fun m=>some ((((decide (((b.aW.l.length:Nat):Int)=(0:Int)))&&(decide (((b.ay.l.length:Nat):Int)=(0:Int))))&&m)&&(decide (((b.aM.l.length:Nat):Int)=(0:Int))))) else(bif (decide (b.ar=(4:Int))) then(aU (((decide (((b.aW.l.length:Nat):Int)=(0:Int)))&&(decide (((b.ay.l.length:Nat):Int)=(0:Int))))) (kY b.aJ false) false fun o=>some ((((decide (((b.aW.l.length:Nat):Int)=(0:Int)))&&(decide (((b.ay.l.length:Nat):Int)=(0:Int))))&&o)&&(decide (((b.aM.l.length:Nat):Int)=(0:Int))))) else(bif (decide (b.ar=(5:Int))) then(aU (((((decide (((b.aW.l.length:Nat):Int)=(0:Int)))&&(decide (((b.ay.l.length:Nat):Int)=(0:Int))))&&(decide (((b.aJ.l.length:Nat):Int)=(0:Int))))&&(decide ((0:Int)<((b.aM.l.length:Nat):Int))))) (mr b.aM) false fun p=>some (((((decide (((b.aW.l.length:Nat):Int)=(0:Int)))&&(decide (((b.ay.l.length:Nat):Int)=(0:Int))))&&(decide (((b.aJ.l.length:Nat):Int)=(0:Int))))&&(decide ((0:Int)<((b.aM.l.length:Nat):Int))))&&p)) else(some false))))))|Sum.inr q=>(some q))
def xP (b:ai):Option Bool:=p8 b
theorem JX (a0:ai):xP a0=p8 a0:=rfl
theorem JY {g:ai}{r:Bool}(b:xP g=some r) (H:ak) :AC Tryz.prog 30 [.agg (ai.c g)] H fun v h'=>v=.a (.d (.bool r))/\h'=H:=by
 unfold xP p8 at b;refine AC.oW 129 [.tmp 2] Tryz.call30 Tryz.func30 ?_;refine af (S BX (S As (nil ?_)));refine ax fun F j=>?_;refine af (S Fv (S Ld ?_));obtain⟨al,G,b⟩:=vT (iA _) b;refine Sc rfl rfl (iB G) ?_;refine S NB (S Mv (G0 Fv ?_));refine G1 13 rfl Ld ?_;obtain⟨am,I,b⟩:=dR (ua _) b;refine c6 14 rfl rfl rfl rfl rfl (fun hC=>t_ (I hC)) ?_;refine G1 15 rfl NB ?_
 refine S PO (S Mv (G0 Fv ?_));refine G1 19 rfl Ld ?_;refine gC rfl rfl (fun hC=>aL (k:=20) rfl (b8 (f:=aI) (s:=g.aW) (TK rfl) rfl rfl rfl)) rfl ?_;refine G1 21 rfl BI ?_;refine S PO (nil ?_);refine cE b (fun J b=>?_) (fun J b=>?_)
 ·refine af (S As (nil ?_));exact rt b
 refine sk j ?_;clear j F;refine aP (TA 1 kN) (fun(z:Unit)=>[]) (fun z=>H) (fun z=>(bif (decide (g.ar=(1:Int))) then((kX g.ay).bind fun m=>some ((m&&(decide (((g.aJ.l.length:Nat):Int)=(0:Int))))&&(decide (((g.aM.l.length:Nat):Int)=(0:Int))))) else(bif (decide (g.ar=(2:Int))) then(aU ((decide (((g.aW.l.length:Nat):Int)=(0:Int)))) (kX g.ay) false fun o=>some ((((decide (((g.aW.l.length:Nat):Int)=(0:Int)))&&o)&&(decide (((g.aJ.l.length:Nat):Int)=(0:Int))))&&(decide (((g.aM.l.length:Nat):Int)=(0:Int))))) else(bif (decide (g.ar=(3:Int))) then(aU (((decide (((g.aW.l.length:Nat):Int)=(0:Int)))&&(decide (((g.ay.l.length:Nat):Int)=(0:Int))))) (kY g.aJ true) false fun p=>some ((((decide (((g.aW.l.length:Nat):Int)=(0:Int)))&&(decide (((g.ay.l.length:Nat):Int)=(0:Int))))&&p)&&(decide (((g.aM.l.length:Nat):Int)=(0:Int))))) else(bif (decide (g.ar=(4:Int))) then(aU (((decide (((g.aW.l.length:Nat):Int)=(0:Int)))&&(decide (((g.ay.l.length:Nat):Int)=(0:Int))))) (kY g.aJ false) false fun q=>some ((((decide (((g.aW.l.length:Nat):Int)=(0:Int)))&&(decide (((g.ay.l.length:Nat):Int)=(0:Int))))&&q)&&(decide (((g.aM.l.length:Nat):Int)=(0:Int))))) else(bif (decide (g.ar=(5:Int))) then(aU (((((decide (((g.aW.l.length:Nat):Int)=(0:Int)))&&(decide (((g.ay.l.length:Nat):Int)=(0:Int))))&&(decide (((g.aJ.l.length:Nat):Int)=(0:Int))))&&(decide ((0:Int)<((g.aM.l.length:Nat):Int))))) (mr g.aM) false fun t=>some (((((decide (((g.aW.l.length:Nat):Int)=(0:Int)))&&(decide (((g.ay.l.length:Nat):Int)=(0:Int))))&&(decide (((g.aJ.l.length:Nat):Int)=(0:Int))))&&(decide ((0:Int)<((g.aM.l.length:Nat):Int))))&&t)) else(some false))))))=some r) ?_ ?_
 ·intro an K;refine af (S As (nil ?_));refine block ?_;obtain⟨u,w,b⟩:=bT b;refine bp (TA 1 kN) (fun(z:Nat)=>[(3,.a (.d (.int .i64 ((z:Nat):Int))))]) (fun z=>H) (fun z=>g.aW.l.length-z) (fun z=>u (p7  (g.aW.l.drop z) )=some r) 0 b wA ?_;rintro x b ao L;try dsimp only at b
  refine ax fun M y=>?_;refine af (S Mv (S Fv (S Ld ?_)));refine sLen (f:=aI) (s:=g.aW) (TK rfl) rfl rfl rfl rfl fun ap=>?_;refine S BI (nil ?_);refine ah.bK (fun l=>u (p7  l )=some r) b rfl (fun av B i b=>?_) (fun i b=>?_)
  ·rw [p7] at b;try dsimp only at i
   have aw:=oD i;refine sk y ?_;clear y M;refine ax fun N C=>?_;refine block ?_;refine af (S Fv (S Ld (S Mv ?_)));obtain⟨az,O,b⟩:=vP B b;refine S (ix aI x O) (S Ld ?_);obtain⟨aA,P,b⟩:=vP (iA _) b;refine Sc rfl rfl (iB P) ?_;refine S NB (nil ?_);refine cP b (fun Q b=>?_) (fun Q b=>?_)
   ·refine af (S As (nil ?_));refine ah.ret ?_;repeat (first|refine bE ?_|refine bF ?_)
    have b:=ku w b;obtain rfl:=oJ b;refine bn.bG H rfl ⟨rfl,rfl⟩ ?_;exact(fun _ _ h=>h)
   refine sk C ?_;clear C N;refine region ?_;refine S Mv ?_;refine SI ?_;refine S As (nil ?_);exact L _ (x+1) wA b (dl B)
  rw [p7] at b;have b:=ku w b;try dsimp only at b
  refine ah.exit ?_;obtain⟨aC,R,b⟩:=bT b;have b:=ku R b;exact K _ () wA b
 rintro _ b;try dsimp only at b
 refine ah.b5 (Sd Fv (Sd Ld ?_));refine au.s0 (b8 (f:=aI) (s:=g.aW) (TK rfl) rfl rfl rfl) rfl ?_;refine Sd BI (Sd Fv (Sd Ld ?_));refine au.s0 (b8 (f:=Z7.c) (s:=g.ay) (TK rfl) rfl rfl rfl) rfl ?_;refine Sd BI (Sd Fv (Sd Ld ?_));refine au.s0 (b8 (f:=Z9.c) (s:=g.aJ) (TK rfl) rfl rfl rfl) rfl ?_;refine Sd BI (Sd Fv (Sd Ld ?_));refine au.s0 (b8 (f:=Z8.c) (s:=g.aM) (TK rfl) rfl rfl rfl) rfl ?_
 refine Sd BI (Sd As (Sd As (Sd As (Sd As ?_))));refine au.nil (by decide +kernel) ?_;refine ax fun U E=>?_;refine af (S Fv (S Ld (nil ?_)));refine block ?_;refine af (S BI (S As (nil ?_)));refine cE b (fun W b=>?_) (fun W b=>?_)
 ·refine af (S Fv (S Ld ?_));obtain⟨m,X,b⟩:=qT (CP _) b;refine Sc rfl rfl (CQ X) ?_;refine S Mv (G0 Mv (S PA (S Mv (G0 Mv (S PA (S As (nil ?_)))))));exact rt b
 refine af (S BI (S As (nil ?_)));refine cE b (fun Y b=>?_) (fun Y b=>?_)
 ·refine af (S Mv (S Mv (G0 Fv ?_)));refine G1 71 rfl Ld ?_;obtain⟨o,Z,b⟩:=dR (CP _) b;refine c6 72 rfl rfl rfl rfl rfl (fun hC=>CQ (Z hC)) ?_;refine S PA (S Mv (G0 Mv (S PA (S Mv (G0 Mv (S PA (S As (nil ?_))))))));exact rt b
 refine af (S BI (S As (nil ?_)));refine cE b (fun aa b=>?_) (fun aa b=>?_)
 ·refine af (S Mv (S Mv (G0 Mv (S PA (S Mv (G0 Fv ?_))))));refine G1 88 rfl Ld ?_;obtain⟨p,ab,b⟩:=dR (CR _ _) b;refine c6 89 rfl rfl rfl rfl rfl (fun hC=>CS (ab hC)) ?_;refine S PA (S Mv (G0 Mv (S PA (S As (nil ?_)))));exact rt b
 refine af (S BI (S As (nil ?_)));refine cE b (fun ad b=>?_) (fun ad b=>?_)
 ·refine af (S Mv (S Mv (G0 Mv (S PA (S Mv (G0 Fv ?_))))));refine G1 102 rfl Ld ?_;obtain⟨q,ae,b⟩:=dR (CR _ _) b;refine c6 103 rfl rfl rfl rfl rfl (fun hC=>CS (ae hC)) ?_;refine S PA (S Mv (G0 Mv (S PA (S As (nil ?_)))));exact rt b
 refine af (S BI (S As (nil ?_)));refine cE b (fun ag b=>?_) (fun ag b=>?_)
 ·refine af (S Mv (S Mv (G0 Mv (S PA (S Mv (G0 Mv (S PA (S Mv (G0 Fv ?_)))))))));refine G1 119 rfl Ld ?_;refine gC rfl rfl (fun hC=>aL (k:=120) rfl (b8 (f:=Z8.c) (s:=g.aM) (TK rfl) rfl rfl rfl)) rfl ?_;refine G1 121 rfl BI ?_;refine S PA (S Mv (G0 Fv ?_));refine G1 125 rfl Ld ?_;obtain⟨t,aj,b⟩:=dR (CN _) b;refine c6 126 rfl rfl rfl rfl rfl (fun hC=>CO (aj hC)) ?_;refine S PA (S As (nil ?_))
  exact rt b
 refine sk E ?_;clear E U;refine af (S As (nil ?_));exact rt b
def mw :List ai->Option (Unit ⊕ Bool)
 | []=>some (Sum.inl ())
 | b::f=>on (b) fun g=>(p8 g).bind fun i=>bif (!i) then(some (Sum.inr false)) else(mw  (f) )
def p9 (b:aj):Option Bool:=bif ((decide (((b.an.l.length:Nat):Int)<(1:Int)))||(decide ((64:Int)<((b.an.l.length:Nat):Int)))) then(some false) else(Option.bind (mw  b.an.l ) fun f=>match f with|Sum.inl _=>(on (()) fun _=>some true)|Sum.inr g=>(some g))
def xQ (b:aj):Option Bool:=p9 b
theorem JZ (a0:aj):xQ a0=p9 a0:=rfl
theorem J1 {g:aj}{r:Bool}(b:xQ g=some r) (H:ak) :AC Tryz.prog 13 [.agg (aj.c g)] H fun v h'=>v=.a (.d (.bool r))/\h'=H:=by
 unfold xQ p9 at b;refine AC.oW 28 [.tmp 2] Tryz.call13 Tryz.func13 ?_;refine af (S BX (S As (nil ?_)));refine ax fun w j=>?_;refine af (S Fv (S Ld ?_));refine sLen (f:=ai.c) (s:=g.an) (TK rfl) rfl rfl rfl rfl fun K=>?_;refine S BI (S Mv (G0 Fv ?_));refine G1 9 rfl Ld ?_;refine gC rfl rfl (fun hC=>aL (k:=10) rfl (b8 (f:=ai.c) (s:=g.an) (TK rfl) rfl rfl rfl)) rfl ?_
 refine G1 11 rfl BI ?_;refine S PO (nil ?_);refine cE b (fun x b=>?_) (fun x b=>?_)
 ·refine af (S As (nil ?_));exact rt b
 refine sk j ?_;clear j w;refine aP kN (fun(z:Unit)=>[]) (fun z=>H) (fun z=>(some true)=some r) ?_ ?_
 ·intro L y;refine af (S As (nil ?_));refine block ?_;obtain⟨m,o,b⟩:=bY b;refine bp (TA 1 kN) (fun(z:Nat)=>[(3,.a (.d (.int .i64 ((z:Nat):Int))))]) (fun z=>H) (fun z=>g.an.l.length-z) (fun z=>Option.bind (mw  (g.an.l.drop z) ) m=some r) 0 b wA ?_;rintro p b M B;try dsimp only at b
  refine ax fun C q=>?_;refine af (S Mv (S Fv (S Ld ?_)));refine sLen (f:=ai.c) (s:=g.an) (TK rfl) rfl rfl rfl rfl fun N=>?_;refine S BI (nil ?_);refine ah.bK (fun l=>Option.bind (mw  l ) m=some r) b rfl (fun O t i b=>?_) (fun i b=>?_)
  ·rw [mw] at b;try dsimp only at i
   have P:=oD i;refine sk q ?_;clear q C;refine ax fun E u=>?_;refine block ?_;refine af (S Fv (S Ld (S Mv ?_)));obtain⟨Q,F,b⟩:=vO t b;refine S (ix ai.c p F) (S Ld ?_);obtain⟨R,G,b⟩:=qO (JX _) b;refine Sc rfl rfl (JY G) ?_;refine S NB (nil ?_);refine cO b (fun I b=>?_) (fun I b=>?_)
   ·refine af (S As (nil ?_));refine ah.ret ?_;repeat (first|refine bE ?_|refine bF ?_)
    have b:=ku o b;obtain rfl:=oJ b;refine bn.bG H rfl ⟨rfl,rfl⟩ ?_;exact(fun _ _ h=>h)
   refine sk u ?_;clear u E;refine region ?_;refine S Mv ?_;refine SI ?_;refine S As (nil ?_);exact B _ (p+1) wA b (dl t)
  rw [mw] at b;have b:=ku o b;try dsimp only at b
  refine ah.exit ?_;obtain⟨U,J,b⟩:=bT b;have b:=ku J b;exact y _ () wA b
 rintro _ b;try dsimp only at b
 refine af (S As (nil ?_));exact rt b
def p_ (f:aj):Option Bool:=(pW f).bind fun b=>aU ((!b)) (p9 f) false fun g=>aU (((!b)&&g)) (iL f) (Sl.nil:Sl Z6) fun i=>some (((!b)&&g)&&(decide (((i.l.length:Nat):Int)=(0:Int))))
def xR (b:aj):Option Bool:=p_ b
theorem J2 (a0:aj):xR a0=p_ a0:=rfl
theorem J3 {g:aj}{r:Bool}(b:xR g=some r) (H:ak) :AC Tryz.prog 5 [.agg (aj.c g)] H fun v h'=>v=.a (.d (.bool r))/\h'=H:=by
 unfold xR p_ at b;refine AC.oW 16 [.tmp 2] Tryz.call5 Tryz.func5 ?_;refine af (S BX (S As (nil ?_)));refine af (S Ld ?_);obtain⟨o,i,b⟩:=qT (JD _) b;refine Sc rfl rfl (JE i) ?_;refine S NB (S Mv (G0 Ld ?_));obtain⟨p,j,b⟩:=dR (JZ _) b;refine c6 7 rfl rfl rfl rfl rfl (fun hC=>J1 (j hC)) ?_;refine S PA (S Mv (G0 Ld ?_));obtain⟨l,m,b⟩:=dR (Cx _) b
 refine c6 11 rfl rfl rfl rfl rfl (fun hC=>Cy (m hC)) ?_;refine gC rfl rfl (fun hC=>aL (k:=12) rfl (b8 (f:=Z6.c) (s:=l) (TK rfl) rfl rfl rfl)) rfl ?_;refine G1 13 rfl BI ?_;refine S PA (S As (nil ?_));exact rt b
def kZ (f:Bs):List Bs->Nat->Unit ⊕ Int
 | [],b=>Sum.inl ()
 | g::i,b=>on (g) fun j=>bif ((f==j)) then(Sum.inr ((b:Nat):Int)) else(kZ f (i) (b+1) )
def ry (i:(Sl Bs)) (b:Bs):Int:=on (kZ b i.l 0 ) fun f=>match f with|Sum.inl _=>(on (()) fun _=>(-1:Int))|Sum.inr g=>(g)
def xS (f:(Sl Bs)) (b:Bs):Option Int:=some (ry f b)
theorem J4 (a0:(Sl Bs)) (b:Bs):xS a0 b=some (ry a0 b):=rfl
theorem J5 {g:Sl Bs}{i:Bs}{w0:Option Nat}{r:Int}(b:xS g i=some r) (H:ak) :AC Tryz.prog 48 [.d (Sl.d 1 aI w0 g),.d (.str i)] H fun v h'=>v=.a (.d (.int .i64 r))/\h'=H:=by
 unfold xS ry at b;refine AC.oW 19 [.tmp 4] Tryz.call48 Tryz.func48 ?_;refine af (S As (nil ?_));refine aP kN (fun(z:Unit)=>[]) (fun z=>H) (fun z=>some ((-1:Int))=some r) ?_ ?_
 ·intro F u;refine af (S Mv ?_);refine sLen (f:=aI) (s:=g) (TK rfl) rfl rfl rfl rfl fun G=>?_;refine S Mv (nil ?_);refine block ?_;obtain⟨m,o,b⟩:=dU b;refine bp (TA 0 (TA 1 (TA 7 kN))) (fun(z:Nat)=>[(8,.a (.d (.int .i64 ((z:Nat):Int))))]) (fun z=>H) (fun z=>g.l.length-z) (fun z=>m (kZ i (g.l.drop z) z )=some r) 0 b wA ?_;rintro j b I w;try dsimp only at b
  refine af (S BI (nil ?_));refine ax fun x p=>?_;refine ah.bK (fun l=>m (kZ i l j )=some r) b rfl (fun J q k b=>?_) (fun k b=>?_)
  ·rw [kZ] at b;try dsimp only at k
   have K:=oD k;refine sk p ?_;clear p x;refine ax fun y t=>?_;refine block ?_;refine af (S Mv (S As (nil ?_)));refine af (S Mv (S Mv (S Mv ?_)));obtain⟨L,B,b⟩:=vP q b;refine S (ix aI j B) (S Ld (S BS (nil ?_)));refine cP b (fun C b=>?_) (fun C b=>?_)
   ·refine af (S Mv (S As (nil ?_)));refine ah.ret ?_;repeat (first|refine bE ?_|refine bF ?_)
    have b:=ku o b;obtain rfl:=oJ b;refine bn.bG H rfl ⟨rfl,rfl⟩ ?_;exact(fun _ _ h=>h)
   refine sk t ?_;clear t y;refine region ?_;refine SI ?_;refine S Mv (nil ?_);exact w _ (j+1) wA b (dl q)
  rw [kZ] at b;have b:=ku o b;try dsimp only at b
  refine ah.exit ?_;obtain⟨M,E,b⟩:=dU b;have b:=ku E b;exact u _ () wA b
 rintro _ b;try dsimp only at b
 refine af (S As (nil ?_));exact rt b
def k4 (g:(Sl Bs)) (b:Bs):Bool:=on (ry g b) fun f=>(decide ((0:Int)<=f))
def xT (f:(Sl Bs)) (b:Bs):Option Bool:=some (k4 f b)
theorem xU (a0:(Sl Bs)) (b:Bs):xT a0 b=some (k4 a0 b):=rfl
theorem xV {g:Sl Bs}{f:Bs}{w0:Option Nat}{r:Bool}(b:xT g f=some r) (H:ak) :AC Tryz.prog 23 [.d (Sl.d 1 aI w0 g),.d (.str f)] H fun v h'=>v=.a (.d (.bool r))/\h'=H:=by
 unfold xT k4 at b;refine AC.oW 9 [.tmp 4] Tryz.call23 Tryz.func23 ?_;refine af (S As (nil ?_));refine af (S Mv (S Mv ?_));obtain⟨j,i,b⟩:=vP (J4 _ _) b;refine Sc rfl rfl (J5 i) ?_;refine S BI (S As (nil ?_));exact rt b
def qa (b:Bs):List bz->Unit ⊕ ((ag×Bool))
 | []=>Sum.inl ()
 | g::i=>on (g) fun f=>bif ((f.aa==b)) then(Sum.inr (f.eW,true)) else(qa b (i) )
def jC (i:av) (b:Bs):(ag×Bool):=on (qa b i.aF.l ) fun f=>match f with|Sum.inl _=>(on (()) fun _=>((ag.mk (0:Int) (0:Int) ([]:Bs) true ([]) (Sl.nil:Sl Bs)),false))|Sum.inr g=>(g)
def xW (f:av) (b:Bs):Option (ag×Bool):=some (jC f b)
theorem J6 (a0:av) (b:Bs):xW a0 b=some (jC a0 b):=rfl
theorem J7 {g:av}{i:Bs}{r:ag×Bool}(b:xW g i=some r) (H:ak) :AC Tryz.prog 62 [.agg (av.c g),.d (.str i)] H fun v h'=>v=.dz [.agg (ag.c r.1),.d (.bool r.2)]/\h'=H:=by
 unfold xW jC at b;refine AC.oW 23 [.cell 4 61,.tmp 5] Tryz.call62 Tryz.func62 ?_;refine af (S BX ?_);refine Sl ?_;refine S As (nil ?_);refine ez (TA 4 kN) (fun(z:ag)=>[]) (fun z=>[ag.c z]) (fun z=>H) (fun z=>some (((ag.mk (0:Int) (0:Int) ([]:Bs) true ([]) (Sl.nil:Sl Bs)),false))=some r) ?_ ?_
 ·intro G w;refine af (S Fv (S Ld ?_));refine sLen (f:=bz.c) (s:=g.aF) (TK rfl) rfl rfl rfl rfl fun I=>?_;refine S Mv (nil ?_);refine block ?_;obtain⟨k,m,b⟩:=dU b;refine fK (TA 1 (TA 4 (TA 9 (TA 10 kN)))) (fun(z:Nat×ag)=>[(11,.a (.d (.int .i64 ((z.1:Nat):Int))))]) (fun z=>[ag.c z.2]) (fun z=>H) (fun z=>g.aF.l.length-z.1) (fun z=>k (qa i (g.aF.l.drop z.1) )=some r) (0,ag.zero) b wA ?_
  rintro ⟨o,p⟩ b J x;try dsimp only at b
  refine af (S BI (nil ?_));refine ax fun y q=>?_;refine ah.bK (fun l=>k (qa i l )=some r) b rfl (fun K t j b=>?_) (fun j b=>?_)
  ·rw [qa] at b;try dsimp only at j
   have L:=oD j;refine sk q ?_;clear q y;refine ax fun B u=>?_;refine block ?_;refine af ?_;obtain⟨M,C,b⟩:=vP t b;refine S (ix bz.c o C) (S Ld ?_);refine Sl ?_;refine Sf ?_;refine nil ?_;refine bA 7 _ rfl (KA 1 (KA 4 (KA 9 (KA 10 (KA 11 aY.nil))))) ?_;refine af (S Fv (S Ld (S Mv (S BS (nil ?_)))));refine cP b (fun E b=>?_) (fun E b=>?_)
   ·refine af (S Fv (S Ld ?_));refine Sf ?_;refine S As (nil ?_);refine ah.ret ?_;repeat (first|refine bE ?_|refine bF ?_)
    have b:=ku m b;obtain rfl:=oJ b;refine bn.bG H rfl ⟨rfl,rfl⟩ ?_;exact(fun _ _ h=>h)
   refine sk u ?_;clear u B;refine region ?_;refine SI ?_;refine S Mv (nil ?_);exact x _ ((o+1),p) wA b (dl t)
  rw [qa] at b;have b:=ku m b;try dsimp only at b
  refine ah.exit ?_;obtain⟨N,F,b⟩:=dU b;have b:=ku F b;exact w _ p wA b
 rintro O b;try dsimp only at b
 refine af (S BU ?_);refine Sf ?_;refine S As (nil ?_);exact rt b
def k5 (f:Bs) (j:Bs):List av->(Sl ag)->Option ((Sl ag))
 | [],b=>some b
 | k::l,b=>on (k) fun g=>on (jC g j) fun i=>Option.bind (bif (i.2&&((g.aa==f))) then((aQ 80 b (⟨false,[i.1]⟩:Sl ag)).bind fun m=>some m) else(some b)) fun o=>k5 f j (l) o
def rz (i:(Sl av)) (b:Bs) (j:Bs):Option (Sl ag):=Option.bind (k5 b j i.l (Sl.nil:Sl ag)) fun f=>on (f) fun g=>some g
def xX (f:(Sl av)) (b:Bs) (g:Bs):Option (Sl ag):=rz f b g
theorem J8 (a0:(Sl av)) (b:Bs) (a2:Bs):xX a0 b a2=rz a0 b a2:=rfl
theorem J9 {i:Sl av}{j k:Bs}{w0:Option Nat}{r:Sl ag}(b:xX i j k=some r) (H:ak) :AC Tryz.prog 33 [.d (Sl.d 2 av.c w0 i),.d (.str j),.d (.str k)] H fun v h'=>v=.a (.d (Sl.d 5 ag.c none r))/\h'=H:=by
 unfold xX rz at b;refine AC.oW 37 [.tmp 6] Tryz.call33 Tryz.func33 ?_;refine ah.tok 5 fun g t=>?_;refine af ?_;refine s0 (dc (k':=5) rfl) rfl ?_;refine nil ?_;refine af (S As (nil ?_));refine ah.eH 7 5 g rfl aB ?_;refine aP kN (fun(z:(Sl ag))=>[(7,.a (.d (Sl.d 5 ag.c (some g) z)))]) (fun z=>(H.set g (some (.tok 5 z.l.length)))) (fun z=>(some z)=some r) ?_ ?_
 ·intro O C;refine af (S Mv ?_);refine sLen (f:=av.c) (s:=i) (TK rfl) rfl rfl rfl rfl fun P=>?_;refine S Mv (nil ?_);refine block ?_;obtain⟨m,E,b⟩:=bY b;refine bp (TA 1 (TA 2 (TA 12 (TA 13 kN)))) (fun(z:(Sl ag)×Nat)=>[(7,.a (.d (Sl.d 5 ag.c (some g) z.1))),(14,.a (.d (.int .i64 ((z.2:Nat):Int))))]) (fun z=>(H.set g (some (.tok 5 z.1.l.length)))) (fun z=>i.l.length-z.2) (fun z=>Option.bind (k5 j k (i.l.drop z.2) z.1) m=some r) ((Sl.nil:Sl ag),0) b wA ?_
  rintro ⟨o,p⟩ b Q F;try dsimp only at b
  refine af (S BI (nil ?_));refine ax fun G u=>?_;refine ah.bK (fun l=>Option.bind (k5 j k l o) m=some r) b rfl (fun R w q b=>?_) (fun q b=>?_)
  ·rw [k5] at b;try dsimp only at q
   have U:=oD q;refine sk u ?_;clear u G;refine aP (TA 1 (TA 2 (TA 12 (TA 13 (TA 14 kN))))) (fun(z:(Sl ag))=>[(7,.a (.d (Sl.d 5 ag.c (some g) z)))]) (fun z=>(H.set g (some (.tok 5 z.l.length)))) (fun z=>Option.bind (k5 j k (i.l.drop (p+1)) z) m=some r) ?_ ?_
   ·intro W x;refine block ?_;refine af ?_;obtain⟨X,I,b⟩:=vO w b;refine S (ix av.c p I) (S Ld ?_);refine Sl ?_;refine Sf ?_;refine nil ?_;refine bA 9 _ rfl (KA 1 (KA 2 (KA 7 (KA 12 (KA 13 (KA 14 aY.nil)))))) ?_;refine af (S Ld (S Mv ?_));obtain⟨Y,J,b⟩:=vO (J6 _ _) b;refine Sc rfl rfl (J7 J) ?_;refine S Mv (S EX (S EX ?_));refine Sl ?_;refine Sf ?_
    refine S As (nil ?_);refine bA 10 _ rfl (KA 1 (KA 2 (KA 7 (KA 9 (KA 11 (KA 12 (KA 13 (KA 14 aY.nil)))))))) ?_;refine af (S Mv (S Mv (G0 Fv ?_)));refine G1 26 rfl Ld ?_;refine G0 Mv ?_;refine G2 27 28 rfl rfl BS ?_;refine S PA (nil ?_);obtain⟨Z,y,b⟩:=dZ b;refine cO b (fun K b=>?_) (fun K b=>?_)
    ·refine region ?_;refine S Mv (S Ld (S BV ?_));obtain⟨B,L,b⟩:=qO rfl b;refine SH (am ag.c (TK rfl) rfl (TK rfl) (TK rfl) L) ?_;refine hq (H.set g (some (.tok 5 B.l.length))) ?_;refine S As (nil ?_);have b:=ku y b;exact x _ B wA b
    refine ah.skip ?_;have b:=ku y b;exact x _ o wA b
   rintro M b;try dsimp only at b
   refine region ?_;refine SI ?_;refine S Mv (nil ?_);exact F _ (M,(p+1)) wA b (dl w)
  rw [k5] at b;have b:=ku E b;refine ah.exit ?_;obtain⟨aa,N,b⟩:=bT b;have b:=ku N b;exact C _ o wA b
 rintro ab b;try dsimp only at b
 refine af (S Mv (S As (nil ?_)));refine ah.dm 6 rfl ?_;refine ah.ret ?_;repeat (first|refine bE ?_|refine bF ?_)
 obtain rfl:=oJ b;refine bn.bG H rfl ⟨rfl,rfl⟩ ?_
 first|exact ak.bS t|(simp only [ak.set_set]; exact ak.bS t)
def k6 :List ag->(Sl Bs)->Option ((Sl Bs))
 | [],b=>some b
 | g::i,b=>on (g) fun f=>on (bif (decide (f.ar=(3:Int))) then k4 b f.bw else false) fun j=>Option.bind (bif ((decide (f.ar=(3:Int)))&&(!j)) then((aQ 16 b (⟨false,[f.bw]⟩:Sl Bs)).bind fun k=>some k) else(some b)) fun l=>k6  (i) l
def mz (i:(Sl av)):Option (Sl Bs):=(rz i ([116,97,103]:Bs) ([110,97,109,101]:Bs)).bind fun b=>Option.bind (k6  b.l (Sl.nil:Sl Bs)) fun f=>on (f) fun g=>some g
def ud (b:(Sl av)):Option (Sl Bs):=mz b
theorem xY (a0:(Sl av)):ud a0=mz a0:=rfl
theorem ue {y:Sl av}{w0:Option Nat}{r:Sl Bs}(b:ud y=some r) (H:ak) :AC Tryz.prog 16 [.d (Sl.d 2 av.c w0 y)] H fun v h'=>v=.a (.d (Sl.d 1 aI none r))/\h'=H:=by
 unfold ud mz at b;refine AC.oW 30 [.tmp 2] Tryz.call16 Tryz.func16 ?_;refine ah.tok 1 fun g p=>?_;refine af ?_;refine s0 (dc (k':=1) rfl) rfl ?_;refine nil ?_;refine af (S As (nil ?_));refine ah.eH 3 1 g rfl aB ?_;refine aP kN (fun(z:(Sl Bs))=>[(3,.a (.d (Sl.d 1 aI (some g) z)))]) (fun z=>(H.set g (some (.tok 1 z.l.length)))) (fun z=>(some z)=some r) ?_ ?_
 ·intro O B;refine af (S Mv ?_);obtain⟨i,C,b⟩:=qT (J8 _ _ _) b;refine Sc rfl rfl (J9 C) ?_;refine sLen (f:=ag.c) (s:=i) (TK rfl) rfl rfl rfl rfl fun P=>?_;refine S Mv (nil ?_);refine block ?_;obtain⟨j,E,b⟩:=bY b;refine bp (TA 7 (TA 8 kN)) (fun(z:(Sl Bs)×Nat)=>[(3,.a (.d (Sl.d 1 aI (some g) z.1))),(9,.a (.d (.int .i64 ((z.2:Nat):Int))))]) (fun z=>(H.set g (some (.tok 1 z.1.l.length)))) (fun z=>i.l.length-z.2) (fun z=>Option.bind (k6  (i.l.drop z.2) z.1) j=some r) ((Sl.nil:Sl Bs),0) b wA ?_
  rintro ⟨k,m⟩ b Q F;try dsimp only at b
  refine af (S BI (nil ?_));refine ax fun G q=>?_;refine ah.bK (fun l=>Option.bind (k6  l k) j=some r) b rfl (fun R t o b=>?_) (fun o b=>?_)
  ·rw [k6] at b;try dsimp only at o
   have U:=oD o;refine sk q ?_;clear q G;refine aP (TA 7 (TA 8 (TA 9 kN))) (fun(z:(Sl Bs))=>[(3,.a (.d (Sl.d 1 aI (some g) z)))]) (fun z=>(H.set g (some (.tok 1 z.l.length)))) (fun z=>Option.bind (k6  (i.l.drop (m+1)) z) j=some r) ?_ ?_
   ·intro W u;refine block ?_;refine af ?_;obtain⟨X,I,b⟩:=vO t b;refine S (ix ag.c m I) (S Ld ?_);refine Sl ?_;refine Sf ?_;refine nil ?_;refine bA 5 _ rfl (KA 3 (KA 7 (KA 8 (KA 9 aY.nil)))) ?_;refine af (S Fv (S Ld (S BI (S Mv (G0 Mv (G0 Fv ?_))))));refine G1 18 rfl Ld ?_;obtain⟨Y,J,b⟩:=eB (fun _=>(xU _ _)) b;refine fu 17 19 rfl rfl rfl rfl rfl rfl (fun hC=>xV (J hC)) ?_
    refine G1 20 rfl NB ?_;refine S PA (nil ?_);obtain⟨Z,w,b⟩:=dZ b;refine cO b (fun K b=>?_) (fun K b=>?_)
    ·refine region ?_;refine S Mv (S Fv (S Ld (S BV ?_)));obtain⟨x,L,b⟩:=qO rfl b;refine SH (am aI (TK rfl) rfl (TK rfl) (TK rfl) L) ?_;refine hq (H.set g (some (.tok 1 x.l.length))) ?_;refine S As (nil ?_);have b:=ku w b;exact u _ x wA b
    refine ah.skip ?_;have b:=ku w b;exact u _ k wA b
   rintro M b;try dsimp only at b
   refine region ?_;refine SI ?_;refine S Mv (nil ?_);exact F _ (M,(m+1)) wA b (dl t)
  rw [k6] at b;have b:=ku E b;refine ah.exit ?_;obtain⟨aa,N,b⟩:=bT b;have b:=ku N b;exact B _ k wA b
 rintro ab b;try dsimp only at b
 refine af (S Mv (S As (nil ?_)));refine ah.dm 2 rfl ?_;refine ah.ret ?_;repeat (first|refine bE ?_|refine bF ?_)
 obtain rfl:=oJ b;refine bn.bG H rfl ⟨rfl,rfl⟩ ?_
 first|exact ak.bS p|(simp only [ak.set_set]; exact ak.bS p)
def k7  :Option Int:=some (-1:Int)
def k8 (f:(Sl Bs)) (g:(Bs->Option Bool)) :Nat->Nat->Option Int
 | 0,_=>none
 | i+1,b=>bif (decide (((b:Nat):Int)<((f.l.length:Nat):Int))) then((f.l[b]?).bind fun j=>(g j).bind fun k=>bif k then(some ((b:Nat):Int)) else((k8 f g i) (b+1))) else(k7   )
def j3 (b:(Sl Bs)) (f:(Bs->Option Bool)):Option Int:=k8 b f (b.l.length+1) 0
theorem J_ {g:Sl Bs}{i:Bs->Option Bool}{w0:Option Nat}{m:List D}{o:Nat}{r:Int}(b:j3 g i=some r) (H:ak) (w:∀p r,i p=some r->∀H,AC Tryz.prog o ([.d (.str p)]++m.map A.d) H fun v h'=>v=.a (.d (.bool r))/\h'=H):AC Tryz.prog 61 [.d (Sl.d 1 aI w0 g),.d (.func o m)] H fun v h'=>v=.a (.d (.int .i64 r))/\h'=H:=by
 unfold j3 at b;refine AC.oW 19 [.tmp 4] Tryz.call61 Tryz.func61 ?_;refine af (S As (nil ?_));refine aP kN (fun(z:Unit)=>[]) (fun z=>H) (fun z=>k7 =some r) ?_ ?_
 ·intro I x;refine af (S Mv ?_);refine sLen (f:=aI) (s:=g) (TK rfl) rfl rfl rfl rfl fun J=>?_;refine S Mv (nil ?_);refine block ?_;refine bp (TA 0 (TA 1 (TA 7 kN))) (fun(z:Nat×Nat)=>[(8,.a (.d (.int .i64 ((z.2:Nat):Int))))]) (fun z=>H) (fun z=>z.1) (fun z=>k8 g i z.1 z.2=some r) ((g.l.length+1),0) b wA ?_;rintro ⟨j,q⟩ b K y;try dsimp only at b
  cases j with
  | zero=>cases b
  | succ j =>
    rw [k8] at b;refine af (S BI (nil ?_));refine ax fun B t=>?_;refine cE b (fun k b=>?_) (fun k b=>?_)
    ·try dsimp only at k
     have L:=oD k;refine sk t ?_;clear t B;refine ax fun C u=>?_;refine block ?_;refine af (S Mv (S As (nil ?_)));refine af (S Mv (S Mv (S Mv ?_)));obtain⟨M,E,b⟩:=bO b;refine S (ix aI q E) (S Ld ?_);obtain⟨N,F,b⟩:=bO b;refine s0 (fE rfl rfl (w _ _ F)) rfl ?_;refine nil ?_;refine cE b (fun G b=>?_) (fun G b=>?_)
     ·refine af (S Mv (S As (nil ?_)));exact rt b
     refine sk u ?_;clear u C;refine region ?_;refine SI ?_;refine S Mv (nil ?_);exact y _ (j,(q+1)) wA b (nS _)
    refine ah.exit ?_;exact x _ () wA b
 rintro _ b;try dsimp only at b
 unfold k7 at b;refine af (S As (nil ?_));exact rt b
def oc (f:(Bs->Bool)):List Bs->Nat->Unit ⊕ Int
 | [],b=>Sum.inl ()
 | g::i,b=>on (g) fun j=>on (f j) fun k=>bif k then(Sum.inr ((b:Nat):Int)) else(oc f (i) (b+1) )
theorem J' {g:Sl Bs}{j:Bs->Bool}(i:(Unit ⊕ Int)->Option Int) (m:∀(f:Nat) (b:Nat),k7   =i (Sum.inl ())) (o:∀e:Int,some e=i (Sum.inr e)):∀(f:Nat) (b:Nat),(0<f/\g.l.length<b+f)->k8 g (fun p=>some (j p)) f b=i (oc j (g.l.drop b) b ):=by
 intro f;induction f with
 | zero=>intro b hn; exact absurd hn.1 (by omega)
 | succ f q =>
  intro b hn;rw [k8];by_cases aT:b<g.l.length
  ·obtain⟨r,k⟩:=Qa aT;rw [Q.gq k,oc];refine QT aT ?_;refine Q.vV k fun s t=>?_;refine Q.vV rfl fun u v=>?_;refine Q.vU ?_ ?_
   ·all_goals exact o _
   all_goals exact q _ ⟨by omega,by omega⟩
  rw [dL (by omega),oc];refine QF aT ?_;exact m f b
def uf (i:(Sl Bs)) (b:(Bs->Bool)):Int:=on (oc b i.l 0 ) fun f=>match f with|Sum.inl _=>(on (()) fun _=>(-1:Int))|Sum.inr g=>(g)
theorem Ka (a0:(Sl Bs)) (b:(Bs->Bool)):j3 a0 (fun g=>some (b g))=some (uf a0 b):=by
 unfold j3 uf;refine Q.Bx fun i f=>?_;refine J'  i ?_ ?_ _ _ ⟨Nat.succ_pos _,by omega⟩
 ·intro m o;refine Qe (f _) ?_;try dsimp only
  refine Q.Bx fun j k=>?_;have l:k7  =j ():=by
   refine Qe (k _) ?_;unfold k7;all_goals rfl
  all_goals exact l
 intro p;refine Qe (f _) ?_;try dsimp only
 all_goals rfl
def rA (g:(Sl Bs)) (b:(Bs->Option Bool)):Option Bool:=(j3 g b).bind fun f=>some (decide ((0:Int)<=f))
theorem Kc {k:Sl Bs}{f:Bs->Option Bool}{w0:Option Nat}{g:List D}{i:Nat}{r:Bool}(b:rA k f=some r) (H:ak) (l:∀j r,f j=some r->∀H,AC Tryz.prog i ([.d (.str j)]++g.map A.d) H fun v h'=>v=.a (.d (.bool r))/\h'=H):AC Tryz.prog 31 [.d (Sl.d 1 aI w0 k),.d (.func i g)] H fun v h'=>v=.a (.d (.bool r))/\h'=H:=by
 unfold rA at b;refine AC.oW 9 [.tmp 4] Tryz.call31 Tryz.func31 ?_;refine af (S As (nil ?_));refine af (S Mv (S Mv ?_));obtain⟨o,m,b⟩:=bO b;refine s0 (fE rfl rfl (fun H=>J_ m H l)) rfl ?_;refine S BI (S As (nil ?_));exact rt b
def ug (g:(Sl Bs)) (b:(Bs->Bool)):Bool:=on (uf g b) fun f=>(decide ((0:Int)<=f))
theorem Ke (a0:(Sl Bs)) (b:(Bs->Bool)):rA a0 (fun f=>some (b f))=some (ug a0 b):=by
 unfold rA ug;refine Q.vV (Ka _ _) fun g i=>?_;all_goals rfl
def qb (g:Bs) (b:(Sl Bs)):Bool:=on (k4 b g) fun f=>f
def uh (f:Bs) (b:(Sl Bs)):Option Bool:=some (qb f b)
theorem Kf (a0:Bs) (b:(Sl Bs)):uh a0 b=some (qb a0 b):=rfl
theorem Kg {g:Bs}{f:Sl Bs}{r:Bool}(b:uh g f=some r) (H:ak) :AC Tryz.prog 32 [.d (.str g),.d (.view ((fun s=>[Sl.d 1 aI none s]) f))] H fun v h'=>v=.a (.d (.bool r))/\h'=H:=by
 unfold uh qb at b;refine AC.oW 7 [.tmp 3] Tryz.call32 Tryz.func32 ?_;refine af (S As (nil ?_));refine af (S Ld (S Mv ?_));obtain⟨j,i,b⟩:=vP (xU _ _) b;refine Sc rfl rfl (xV i) ?_;refine S As (nil ?_);exact rt b
def od (i:(Sl Bs)) (b:(Sl Bs)):Bool:=on (ug i (fun f=>qb f b)) fun g=>g
def uj (f:(Sl Bs)) (b:(Sl Bs)):Option Bool:=some (od f b)
theorem CT (a0:(Sl Bs)) (b:(Sl Bs)):uj a0 b=some (od a0 b):=rfl
theorem xZ {g f:Sl Bs}{w0 i:Option Nat}{r:Bool}(b:uj g f=some r) (H:ak) :AC Tryz.prog 15 [.d (Sl.d 1 aI w0 g),.d (Sl.d 1 aI i f)] H fun v h'=>v=.a (.d (.bool r))/\h'=H:=by
 unfold uj od at b;refine AC.oW 8 [.tmp 4] Tryz.call15 Tryz.func15 ?_;refine af ?_;refine aO.dm 1 rfl ?_;refine S BX (S As (nil ?_));refine af (S Mv ?_);refine s0 (makeFunc rfl) rfl ?_;obtain⟨l,j,b⟩:=vP (o:=rA g (fun k=>uh k f)) (by simp only [Kf,Ke]) b;refine s0 (fE rfl rfl (fun H=>Kc j H (fun _ _ hx=>Kg hx))) rfl ?_;refine S As (nil ?_);exact rt b
def oe (b:(Sl Bs)):Option (Sl Bs):=bif b.nl then(some (Sl.nil:Sl Bs)) else((aQ 16 (⟨false,[]⟩:Sl Bs) b).bind fun f=>some f)
def x_ (b:(Sl Bs)):Option (Sl Bs):=oe b
theorem CU (a0:(Sl Bs)):x_ a0=oe a0:=rfl
theorem CV {i:Sl Bs}{w0:Option Nat}{r:Sl Bs}(b:x_ i=some r) (H:ak) :AC Tryz.prog 34 [.d (Sl.d 1 aI w0 i)] H fun v h'=>v=.a (.d (Sl.d 1 aI none r))/\h'=H:=by
 unfold x_ oe at b;refine AC.oW 8 [.tmp 2] Tryz.call34 Tryz.func34 ?_;refine af ?_;refine s0 (dc (k':=1) rfl) rfl ?_;refine nil ?_;refine ax fun j g=>?_;refine af (S Mv ?_);refine s0 (Bt (TK rfl) rfl rfl) rfl ?_;refine nil ?_;refine cE b (fun k b=>?_) (fun k b=>?_)
 ·refine af ?_;refine s0 (dc (k':=1) rfl) rfl ?_;refine nil ?_;exact rt b
 refine sk g ?_;clear g j;refine af ?_;refine s0 (nF (TK rfl) rfl (TK rfl) rfl rfl rfl rfl rfl rfl) rfl ?_;refine S Mv ?_;obtain⟨m,l,b⟩:=qT rfl b;refine s0 (qZ (f:=aI) (TK rfl) rfl (TK rfl) (TK rfl) ⟨_,rfl⟩ rfl rfl (by decide) rfl rfl rfl (by intro q h; cases h<;>decide) rfl rfl l) rfl ?_;refine S As (nil ?_);exact rt b
def k9 (f:ag->Option ag):List ag->(Sl ag)->Option ((Sl ag))
 | [],b=>some b
 | g::i,b=>on (g) fun j=>(f j).bind fun k=>(aQ 80 b (⟨false,[k]⟩:Sl ag)).bind fun l=>k9 f (i) l
mutual
def jD:Nat->ag->Option ag
 | 0,_=>none
 | n+1,b=>((rB n) b.aN).bind fun f=>(oe b.a_).bind fun g=>some (ag.mk b.ar b.bx b.bw f.nl f.l g)
def rB:Nat->(Sl ag)->Option (Sl ag)
 | 0,_=>none
 | n+1,g=>Option.bind (k9 (jD n) g.l (Sl.nil:Sl ag)) fun b=>on (b) fun f=>some f
end
def uk (n:Nat):Prop:=∀{a0:ag}   {r:ag},jD n a0=some r->∀(H:ak),AC Tryz.prog 63 [.agg (ag.c a0)] H fun v h'=>v=.a (.agg (ag.c r))/\h'=H
def ul (n:Nat):Prop:=∀{a0:(Sl ag)}{w0:Option Nat}  {r:(Sl ag)},rB n a0=some r->∀(H:ak),AC Tryz.prog 100 [.d (Sl.d 5 ag.c w0 a0)] H fun v h'=>v=.a (.d (Sl.d 5 ag.c none r))/\h'=H
theorem Kh (n:Nat) (p:uk (az:=az) n) (i:ul (az:=az) n):uk (az:=az) (n+1):=by
 intro b   r f H;rw [jD] at f;refine AC.oW 12 [.cell 2 61] Tryz.call63 Tryz.func63 ?_;refine af ?_;refine sL (A2 rfl (by repeat (first|exact bN.nil|apply bN.cons))) rfl ?_;refine Sl ?_;refine nil ?_;refine af (S FL ?_);refine aO.cV 0 (ag.cu b) rfl (fun j w cs hh hx=>by rw [<- ag.l8]; exact hx) ?_;refine S LL ?_;obtain⟨g,k,f⟩:=qT rfl f;refine Sc rfl rfl (i k) ?_
 refine S FL ?_;refine Sf ?_;refine aO.cV 0 (ag.c (ag.mk b.ar b.bx b.bw g.nl g.l b.a_)) rfl (fun j w cs hh hx=>by rw [ag.l8]; exact hx) ?_;refine nil ?_;refine af (S FL (S LL ?_));obtain⟨m,o,f⟩:=qT (CU _) f;refine Sc rfl rfl (CV o) ?_;refine S FL ?_;refine aO.cV 0 (ag.cu (ag.mk b.ar b.bx b.bw g.nl g.l b.a_)) rfl (fun j w cs hh hx=>by rw [<- ag.l8]; exact hx) ?_
 refine Sf ?_;refine aO.cV 0 (ag.c (ag.mk b.ar b.bx b.bw g.nl g.l m)) rfl (fun j w cs hh hx=>by rw [ag.l8]; exact hx) ?_;refine nil ?_;refine af (S LL ?_);refine Sf ?_;refine nil ?_;exact rt f
theorem Ki (n:Nat) (w:uk (az:=az) n) (K:ul (az:=az) n):ul (az:=az) (n+1):=by
 intro j w0  r b H;rw [rB] at b;refine AC.oW 19 [.tmp 2] Tryz.call100 Tryz.func100 ?_;refine ah.tok 5 fun g k=>?_;refine af ?_;refine s0 (dc (k':=5) rfl) rfl ?_;refine nil ?_;refine af (S As (nil ?_));refine ah.eH 3 5 g rfl aB ?_;refine aP kN (fun(z:(Sl ag))=>[(3,.a (.d (Sl.d 5 ag.c (some g) z)))]) (fun z=>(H.set g (some (.tok 5 z.l.length)))) (fun z=>(some z)=some r) ?_ ?_
 ·intro L x;refine af (S Mv ?_);refine sLen (f:=ag.c) (s:=j) (TK rfl) rfl rfl rfl rfl fun M=>?_;refine S Mv (nil ?_);refine block ?_;obtain⟨m,y,b⟩:=bY b;refine bp (TA 6 (TA 7 kN)) (fun(z:(Sl ag)×Nat)=>[(3,.a (.d (Sl.d 5 ag.c (some g) z.1))),(8,.a (.d (.int .i64 ((z.2:Nat):Int))))]) (fun z=>(H.set g (some (.tok 5 z.1.l.length)))) (fun z=>j.l.length-z.2) (fun z=>Option.bind (k9 (jD n) (j.l.drop z.2) z.1) m=some r) ((Sl.nil:Sl ag),0) b wA ?_
  rintro ⟨o,p⟩ b N B;try dsimp only at b
  refine af (S BI (nil ?_));refine ax fun C q=>?_;refine ah.bK (fun l=>Option.bind (k9 (jD n) l o) m=some r) b rfl (fun O t i b=>?_) (fun i b=>?_)
  ·rw [k9] at b;try dsimp only at i
   have P:=oD i;refine sk q ?_;clear q C;refine ax fun E u=>?_;refine block ?_;refine af ?_;obtain⟨Q,F,b⟩:=vO t b;refine S (ix ag.c p F) (S Ld ?_);refine Sl ?_;refine Sf ?_;refine nil ?_;refine bA 5 _ rfl (KA 3 (KA 6 (KA 7 (KA 8 aY.nil)))) ?_;refine region ?_;refine S Mv (S Ld ?_);obtain⟨R,G,b⟩:=qO rfl b;refine Sc rfl rfl (w G) ?_
   refine S BV ?_;obtain⟨v,I,b⟩:=qO rfl b;refine SH (am ag.c (TK rfl) rfl (TK rfl) (TK rfl) I) ?_;refine hq (H.set g (some (.tok 5 v.l.length))) ?_;refine S As (nil ?_);refine u _ ?_;clear u E;refine region ?_;refine SI ?_;refine S Mv (nil ?_);exact B _ (v,(p+1)) wA b (dl t)
  rw [k9] at b;have b:=ku y b;refine ah.exit ?_;obtain⟨U,J,b⟩:=bT b;have b:=ku J b;exact x _ o wA b
 rintro W b;try dsimp only at b
 refine af (S Mv (S As (nil ?_)));refine ah.dm 2 rfl ?_;refine ah.ret ?_;repeat (first|refine bE ?_|refine bF ?_)
 obtain rfl:=oJ b;refine bn.bG H rfl ⟨rfl,rfl⟩ ?_
 first|exact ak.bS k|(simp only [ak.set_set]; exact ak.bS k)
theorem rC:∀(n:Nat),(uk (az:=az) n)/\(ul (az:=az) n)
 | 0=>⟨fun b=>by first|cases b|(rw [jD] at b; cases b),fun b=>by first|cases b|(rw [rB] at b; cases b)⟩
 | n+1=>⟨Kh n (rC n).1 (rC n).2,Ki n (rC n).1 (rC n).2⟩
def CW (a0:ag):Option ag:=jD F0 a0
theorem CX {b r:ag}(f:CW b=some r) (H:ak) :AC Tryz.prog 63 [.agg (ag.c b)] H fun v h'=>v=.a (.agg (ag.c r))/\h'=H:=(rC F0).1 f H 
def rD (b:ag):Option ag:=jD F0 b
theorem CY (a0:ag):CW a0=rD a0:=rfl
def k_ :List bz->av->Option (av)
 | [],b=>some b
 | g::i,b=>on (g) fun f=>(rD f.eW).bind fun j=>(aQ 96 b.aF (⟨false,[(bz.mk f.aa j)]⟩:Sl bz)).bind fun k=>k_  (i) (av.mk b.aa k)
def jE :List av->(Sl av)->Option ((Sl av))
 | [],b=>some b
 | g::i,b=>on (g) fun f=>Option.bind (k_  f.aF.l (av.mk f.aa (Sl.nil:Sl bz))) fun j=>on (j) fun k=>(aQ 40 b (⟨false,[k]⟩:Sl av)).bind fun m=>on (m) fun o=>jE  (i) o
def j4 (g:(Sl av)):Option (Sl av):=Option.bind (jE  g.l (Sl.nil:Sl av)) fun b=>on (b) fun f=>some f
def ya (b:(Sl av)):Option (Sl av):=j4 b
theorem um (a0:(Sl av)):ya a0=j4 a0:=rfl
theorem uo {k:Sl av}{w0:Option Nat}{r:Sl av}(b:ya k=some r) (H:ak) :AC Tryz.prog 35 [.d (Sl.d 2 av.c w0 k)] H fun v h'=>v=.a (.d (Sl.d 2 av.c none r))/\h'=H:=by
 unfold ya j4 at b;refine AC.oW 43 [.tmp 2] Tryz.call35 Tryz.func35 ?_;refine ah.tok 2 fun g G=>?_;refine af ?_;refine s0 (dc (k':=2) rfl) rfl ?_;refine nil ?_;refine af (S As (nil ?_));refine ah.eH 3 2 g rfl aB ?_;refine aP kN (fun(z:(Sl av))=>[(3,.a (.d (Sl.d 2 av.c (some g) z)))]) (fun z=>(H.set g (some (.tok 2 z.l.length)))) (fun z=>(some z)=some r) ?_ ?_
 ·intro aD Q;refine af (S Mv ?_);refine sLen (f:=av.c) (s:=k) (TK rfl) rfl rfl rfl rfl fun aE=>?_;refine S Mv (nil ?_);refine block ?_;obtain⟨o,R,b⟩:=bY b;refine bp (TA 9 (TA 10 kN)) (fun(z:(Sl av)×Nat)=>[(3,.a (.d (Sl.d 2 av.c (some g) z.1))),(11,.a (.d (.int .i64 ((z.2:Nat):Int))))]) (fun z=>(H.set g (some (.tok 2 z.1.l.length)))) (fun z=>k.l.length-z.2) (fun z=>Option.bind (jE  (k.l.drop z.2) z.1) o=some r) ((Sl.nil:Sl av),0) b wA ?_
  rintro ⟨m,p⟩ b aG U;try dsimp only at b
  refine af (S BI (nil ?_));refine ax fun W I=>?_;refine ah.bK (fun l=>Option.bind (jE  l m) o=some r) b rfl (fun aH J x b=>?_) (fun x b=>?_)
  ·rw [jE] at b;try dsimp only at x
   have aJ:=oD x;refine sk I ?_;clear I W;refine aP (TA 9 (TA 10 (TA 11 kN))) (fun(z:(Sl av))=>[(3,.a (.d (Sl.d 2 av.c (some g) z)))]) (fun z=>(H.set g (some (.tok 2 z.l.length)))) (fun z=>Option.bind (jE  (k.l.drop (p+1)) z) o=some r) ?_ ?_
   ·intro aK X;refine block ?_;refine af ?_;obtain⟨q,Y,b⟩:=vO J b;refine S (ix av.c p Y) (S Ld ?_);refine Sl ?_;refine Sf ?_;refine nil ?_;refine bA 5 _ rfl (KA 3 (KA 9 (KA 10 (KA 11 aY.nil)))) ?_;refine af (S Fv (S Ld (S BU ?_)));refine Sl ?_;refine aO.tok 6 fun i y=>?_;obtain⟨Z,y⟩:=ak.dJ y;refine aO.cV 0 _ rfl (fun j w cs hh hx=>tok_cell 1 6 6 hh (t:=i) aB hx rfl) ?_
    refine Sf ?_;refine aO.cV 0 _ rfl (fun j w cs hh hx=>tok_cell 1 6 6 hh (t:=i) aB hx rfl) ?_;refine nil ?_;refine ez (TA 3 (TA 6 (TA 9 (TA 10 (TA 11 kN))))) (fun(z:av)=>[]) (fun z=>[(aI z.aa++[Sl.d 6 bz.c (some i) z.aF])]) (fun z=>((H.set g (some (.tok 2 m.l.length))).set i (some (.tok 6 z.aF.l.length)))) (fun z=>Option.bind ((aQ 40 m (⟨false,[z]⟩:Sl av)).bind fun u=>on (u) fun B=>jE  (k.l.drop (p+1)) B) o=some r) ?_ ?_
    ·intro aL ab;refine af (S Fv (S Ld ?_));refine sLen (f:=bz.c) (s:=q.aF) (TK rfl) rfl rfl rfl rfl fun aM=>?_;refine S Mv (nil ?_);refine block ?_;obtain⟨K,ad,b⟩:=dZ b;refine fK (TA 3 (TA 6 (TA 9 (TA 10 (TA 11 (TA 19 (TA 20 kN))))))) (fun(z:Nat×av)=>[(21,.a (.d (.int .i64 ((z.1:Nat):Int))))]) (fun z=>[(aI z.2.aa++[Sl.d 6 bz.c (some i) z.2.aF])]) (fun z=>((H.set g (some (.tok 2 m.l.length))).set i (some (.tok 6 z.2.aF.l.length)))) (fun z=>q.aF.l.length-z.1) (fun z=>Option.bind (k_  (q.aF.l.drop z.1) z.2) K=some r) (0,(av.mk q.aa (Sl.nil:Sl bz))) b wA ?_
     rintro ⟨L,C⟩ b aN ae;try dsimp only at b
     refine af (S BI (nil ?_));refine ax fun ag M=>?_;refine ah.bK (fun l=>Option.bind (k_  l C) K=some r) b rfl (fun aR N E b=>?_) (fun E b=>?_)
     ·rw [k_] at b;try dsimp only at E
      have aS:=oD E;refine sk M ?_;clear M ag;refine ax fun ai O=>?_;refine block ?_;refine af ?_;obtain⟨aT,aj,b⟩:=vO N b;refine S (ix bz.c L aj) (S Ld ?_);refine Sl ?_;refine Sf ?_;refine nil ?_;refine bA 8 _ rfl (KA 3 (KA 6 (KA 9 (KA 10 (KA 11 (KA 19 (KA 20 (KA 21 aY.nil)))))))) ?_;refine ah.draw rfl ?_;refine Sd FL (Sd LL (Sd Fv (Sd Ld (Sd Fv (Sd Ld ?_)))))
      obtain⟨aU,al,b⟩:=qO (CY _) b;refine ct rfl rfl (CX al) ?_;refine Sd BU (Sd BV ?_);obtain⟨P,an,b⟩:=qO rfl b;refine au.sH (jf (f:=bz.c) (TK rfl) rfl (TK rfl) (TK rfl) ⟨_,rfl⟩ rfl rfl (by decide) rfl rfl rfl rfl aB rfl an) rfl ?_;refine au.Dh ((H.set g (some (.tok 2 m.l.length))).set i (some (.tok 6 P.l.length))) ?_;refine Sd FL ?_;refine au.dA (qU (TK rfl) rfl rfl rfl rfl (by repeat (first|exact bL.zero|apply bL.succ)) (by repeat (first|exact bL.zero|apply bL.succ))) ?_
      refine au.nil (by decide +kernel) ?_;refine O _ ?_;clear O ai;refine region ?_;refine SI ?_;refine S Mv (nil ?_);exact ae _ ((L+1),(av.mk C.aa P)) wA b (dl N)
     rw [k_] at b;have b:=ku ad b;refine ah.exit ?_;obtain⟨aV,ao,b⟩:=gT b;have b:=ku ao b;exact ab _ C wA b
    rintro ap b;try dsimp only at b
    refine ah.cV 0 _ rfl (fun j w cs hh hx=>jg 1 hx rfl) ?_;refine region ?_;refine S Mv (S LL (S BV ?_));obtain⟨u,ar,b⟩:=qO rfl b;refine SH (am av.c (TK rfl) rfl (TK rfl) (TK rfl) ar) ?_;refine hq ((H.set g (some (.tok 2 u.l.length))).set i (some (.tok 6 ap.aF.l.length))) ?_;refine S As (nil ?_);obtain⟨aW,aw,b⟩:=gT b;have b:=ku aw b;exact X _ u (bX.toFA (by(intro ay aX F); (have az:ay≠i:=fun aA=>by rw [aA] at F; simp [ak.set,y,Z] at F); (rw [<- F]); (simp only [ak.set,if_neg az]); (first|done|rfl))) b
   rintro B b;try dsimp only at b
   refine region ?_;refine SI ?_;refine S Mv (nil ?_);exact U _ (B,(p+1)) wA b (dl J)
  rw [jE] at b;have b:=ku R b;refine ah.exit ?_;obtain⟨aZ,aC,b⟩:=bT b;have b:=ku aC b;exact Q _ m wA b
 rintro a0 b;try dsimp only at b
 refine af (S Mv (S As (nil ?_)));refine ah.dm 2 rfl ?_;refine ah.ret ?_;repeat (first|refine bE ?_|refine bF ?_)
 obtain rfl:=oJ b;refine bn.bG H rfl ⟨rfl,rfl⟩ ?_
 first|exact ak.bS G|(simp only [ak.set_set]; exact ak.bS G)
def og (b:(Sl Int)):Option (Sl Int):=bif b.nl then(some (Sl.nil:Sl Int)) else((aQ 8 (⟨false,[]⟩:Sl Int) b).bind fun f=>some f)
def yb (b:(Sl Int)):Option (Sl Int):=og b
theorem CZ (a0:(Sl Int)):yb a0=og a0:=rfl
theorem C0 {i:Sl Int}{w0:Option Nat}{r:Sl Int}(b:yb i=some r) (H:ak) :AC Tryz.prog 39 [.d (Sl.d 1 (bJ .i64) w0 i)] H fun v h'=>v=.a (.d (Sl.d 1 (bJ .i64) none r))/\h'=H:=by
 unfold yb og at b;refine AC.oW 8 [.tmp 2] Tryz.call39 Tryz.func39 ?_;refine af ?_;refine s0 (dc (k':=1) rfl) rfl ?_;refine nil ?_;refine ax fun j g=>?_;refine af (S Mv ?_);refine s0 (Bt (TK rfl) rfl rfl) rfl ?_;refine nil ?_;refine cE b (fun k b=>?_) (fun k b=>?_)
 ·refine af ?_;refine s0 (dc (k':=1) rfl) rfl ?_;refine nil ?_;exact rt b
 refine sk g ?_;clear g j;refine af ?_;refine s0 (nF (TK rfl) rfl (TK rfl) rfl rfl rfl rfl rfl rfl) rfl ?_;refine S Mv ?_;obtain⟨m,l,b⟩:=qT rfl b;refine s0 (qZ (f:=(bJ .i64)) (TK rfl) rfl (TK rfl) (TK rfl) ⟨_,rfl⟩ rfl rfl (by decide) rfl rfl rfl (by intro q h; cases h<;>decide) rfl rfl l) rfl ?_;refine S As (nil ?_);exact rt b
def lc :List Z8->(Sl Z8)->Option ((Sl Z8))
 | [],f=>some f
 | g::i,f=>on (g) fun b=>(og b.aA.aK).bind fun j=>(rD b.dD).bind fun k=>(j4 b.bh).bind fun l=>(aQ 168 f (⟨false,[(Z8.mk b.aa (aG.mk b.aA.aa j) b.cT k l)]⟩:Sl Z8)).bind fun m=>lc  (i) m
def oh (g:(Sl Z8)):Option (Sl Z8):=Option.bind (lc  g.l (Sl.nil:Sl Z8)) fun b=>on (b) fun f=>some f
def yc (b:(Sl Z8)):Option (Sl Z8):=oh b
theorem C1 (a0:(Sl Z8)):yc a0=oh a0:=rfl
theorem C2 {i:Sl Z8}{w0:Option Nat}{r:Sl Z8}(b:yc i=some r) (H:ak) :AC Tryz.prog 36 [.d (Sl.d 10 Z8.c w0 i)] H fun v h'=>v=.a (.d (Sl.d 10 Z8.c none r))/\h'=H:=by
 unfold yc oh at b;refine AC.oW 32 [.tmp 2] Tryz.call36 Tryz.func36 ?_;refine ah.tok 10 fun g m=>?_;refine af ?_;refine s0 (dc (k':=10) rfl) rfl ?_;refine nil ?_;refine af (S As (nil ?_));refine ah.eH 3 10 g rfl aB ?_;refine aP kN (fun(z:(Sl Z8))=>[(3,.a (.d (Sl.d 10 Z8.c (some g) z)))]) (fun z=>(H.set g (some (.tok 10 z.l.length)))) (fun z=>(some z)=some r) ?_ ?_
 ·intro P y;refine af (S Mv ?_);refine sLen (f:=Z8.c) (s:=i) (TK rfl) rfl rfl rfl rfl fun Q=>?_;refine S Mv (nil ?_);refine block ?_;obtain⟨o,B,b⟩:=bY b;refine bp (TA 6 (TA 7 kN)) (fun(z:(Sl Z8)×Nat)=>[(3,.a (.d (Sl.d 10 Z8.c (some g) z.1))),(8,.a (.d (.int .i64 ((z.2:Nat):Int))))]) (fun z=>(H.set g (some (.tok 10 z.1.l.length)))) (fun z=>i.l.length-z.2) (fun z=>Option.bind (lc  (i.l.drop z.2) z.1) o=some r) ((Sl.nil:Sl Z8),0) b wA ?_
  rintro ⟨p,q⟩ b R C;try dsimp only at b
  refine af (S BI (nil ?_));refine ax fun E t=>?_;refine ah.bK (fun l=>Option.bind (lc  l p) o=some r) b rfl (fun U u k b=>?_) (fun k b=>?_)
  ·rw [lc] at b;try dsimp only at k
   have W:=oD k;refine sk t ?_;clear t E;refine ax fun F w=>?_;refine block ?_;refine af ?_;obtain⟨j,G,b⟩:=vO u b;refine S (ix Z8.c q G) (S Ld ?_);refine Sl ?_;refine Sf ?_;refine nil ?_;refine af (S FL (S FL (S LL ?_)));obtain⟨I,J,b⟩:=qO (CZ _) b;refine Sc rfl rfl (C0 J) ?_;refine S FL (S FL ?_);refine Sf ?_;refine nil ?_
   refine af (S FL (S LL ?_));obtain⟨K,L,b⟩:=qO (CY _) b;refine Sc rfl rfl (CX L) ?_;refine S FL ?_;refine dA (GS (xs':=Z8.c (Z8.mk j.aa (aG.mk j.aA.aa I) j.cT K j.bh)) (TK rfl) rfl rfl rfl rfl (Nat.le_of_ble_eq_true rfl) rfl (by repeat (first|exact bL.zero|apply bL.succ))) ?_;refine nil ?_;refine af (S FL (S LL ?_));obtain⟨X,M,b⟩:=qO (um _) b
   refine Sc rfl rfl (uo M) ?_;refine S FL ?_;refine Sf ?_;refine nil ?_;refine region ?_;refine S Mv (S LL (S BV ?_));obtain⟨x,N,b⟩:=qO rfl b;refine SH (am Z8.c (TK rfl) rfl (TK rfl) (TK rfl) N) ?_;refine hq (H.set g (some (.tok 10 x.l.length))) ?_;refine S As (nil ?_);refine w _ ?_;clear w F;refine region ?_;refine SI ?_;refine S Mv (nil ?_);exact C _ (x,(q+1)) wA b (dl u)
  rw [lc] at b;have b:=ku B b;refine ah.exit ?_;obtain⟨Y,O,b⟩:=bT b;have b:=ku O b;exact y _ p wA b
 rintro Z b;try dsimp only at b
 refine af (S Mv (S As (nil ?_)));refine ah.dm 2 rfl ?_;refine ah.ret ?_;repeat (first|refine bE ?_|refine bF ?_)
 obtain rfl:=oJ b;refine bn.bG H rfl ⟨rfl,rfl⟩ ?_
 first|exact ak.bS m|(simp only [ak.set_set]; exact ak.bS m)
def ol (b:Z3) (f:(Sl Bs)):Bool:=on (od f b.BN) fun g=>on (bif ((!g)&&!(decide (((b.q5.l.length:Nat):Int)=(0:Int)))) then od f b.q5 else false) fun i=>((!g)&&((decide (((b.q5.l.length:Nat):Int)=(0:Int)))||i))
def yd (f:Z3) (b:(Sl Bs)):Option Bool:=some (ol f b)
theorem C3 (a0:Z3) (b:(Sl Bs)):yd a0 b=some (ol a0 b):=rfl
theorem C4 {g:Z3}{i:Sl Bs}{j:Option Nat}{r:Bool}(b:yd g i=some r) (H:ak) :AC Tryz.prog 37 [.agg (Z3.c g),.d (Sl.d 1 aI j i)] H fun v h'=>v=.a (.d (.bool r))/\h'=H:=by
 unfold yd ol at b;refine AC.oW 22 [.tmp 4] Tryz.call37 Tryz.func37 ?_;refine af (S BX (S As (nil ?_)));refine af (S Mv (S Fv (S Ld ?_)));obtain⟨o,l,b⟩:=vP (CT _ _) b;refine Sc rfl rfl (xZ l) ?_;refine S NB (S Mv (G0 Fv ?_));refine G1 11 rfl Ld ?_;refine gC rfl rfl (fun hC=>aL (k:=12) rfl (b8 (f:=aI) (s:=g.q5) (TK rfl) rfl rfl rfl)) rfl ?_;refine G1 13 rfl BI ?_
 refine G1 14 rfl Mv ?_;refine G0 Mv (G0 Fv ?_);refine G1 17 rfl Ld ?_;obtain⟨p,m,b⟩:=kG (fun _=>(CT _ _)) b;refine fu 16 18 rfl rfl rfl rfl rfl rfl (fun hC=>xZ (m hC)) ?_;refine gC rfl rfl (fun hC=>aL (k:=15) rfl (o9 rfl rfl rfl)) rfl ?_;refine S PA (S As (nil ?_));exact rt b
def Tryz.Kj:Go.Shelf.Ren:=⟨fun|4=>64|n=>n,fun|22=>42|25=>9|3=>3|4=>4|9=>9|20=>20|0=>0|n=>n,fun|n=>n⟩
theorem Tryz.Kk:Go.Proofs.Lays8.n4 Tryz.prog Tryz.Kj:={
 mixed:=by kernel_rfl
 f4:=⟨Tryz.f64.name,by decide,Tryz.func64.trans (congrArg some (by kernel_rfl))⟩
 t0:=Tryz.underlying0
 a0:=Tryz.isAgg0
 z0:=Tryz.sizeOf0
 v0:=Tryz.zeroValue0
 t3:=Tryz.underlying3
 a3:=Tryz.isAgg3
 z3:=Tryz.sizeOf3
 v3:=Tryz.zeroValue3
 t4:=Tryz.underlying4
 a4:=Tryz.isAgg4
 z4:=Tryz.sizeOf4
 v4:=Tryz.zeroValue4
 t9:=Tryz.underlying9
 a9:=Tryz.isAgg9
 z9:=Tryz.sizeOf9
 v9:=Tryz.zeroValue9
 t20:=Tryz.underlying20
 a20:=Tryz.isAgg20
 z20:=Tryz.sizeOf20
 v20:=Tryz.zeroValue20
 t22:=Tryz.underlying42
 a22:=Tryz.isAgg42
 z22:=Tryz.sizeOf42
 v22:=Tryz.zeroValue42 }
def rE (n:Int):Option (Sl Bs):=if 0<=n/\n.toNat*16<=cq/\n.toNat<=cq then some ⟨decide (n=0),[]⟩ else none
theorem Kl {n:Int}{f:Nat}{r:Sl Bs}(b:rE n=some r) (H:ak):AC Tryz.prog 64 [.d (.slice f none true []),.d (.int .i64 n)] H fun v h'=>∃tk,H tk=none/\v=.a (.d (Sl.d 1 aI (some tk) r))/\h'=H.set tk (some (.tok 1 r.l.length)):=by
 unfold rE at b
 split at b
 ·rename_i h
  obtain rfl:=oJ b;exact HM Tryz.Kk (TK rfl) rfl rfl (by decide) h.1 h.2.1 h.2.2 rfl aI H
 cases b
def uq  (b:(Sl Bs)):Option (Sl Bs):=some b
def rF (f:(Sl (Sl Bs))) :Nat->(Sl Bs)->Nat->Option (Sl Bs)
 | 0,_,_=>none
 | i+1,g,b=>bif (decide (((b:Nat):Int)<((f.l.length:Nat):Int))) then((f.l[b]?).bind fun j=>(aQ 16 g j).bind fun k=>(rF f i) k (b+1)) else(uq   g)
def ur (b:(Sl (Sl Bs)))  (f:Int):Option (Sl Bs):=(rE f).bind fun g=>rF b (b.l.length+1) g 0
def uu (b:Nat) (f:Int->Nat->Option (Sl Bs)) (g:Int):Option (Sl Bs):=f g (b+1)
def oo (b:(Sl (Sl Bs))) :Nat->Int->Nat->Option (Sl Bs)
 | 0,_,_=>none
 | j+1,g,f=>bif (decide (((f:Nat):Int)<((b.l.length:Nat):Int))) then((b.l[f]?).bind fun k=>(cA g ((k.l.length:Nat):Int)).bind fun i=>bif (decide (i<(0:Int))) then(none) else(uu f ((oo b j)) i)) else(ur b  g)
def rG (b:(Sl (Sl Bs))):Option (Sl Bs):=oo b (b.l.length+1) (0:Int) 0
theorem C5 {g:(Sl (Sl Bs))}{w0:Option Nat}{r:Sl Bs}(b:rG g=some r) (H:ak) :AC Tryz.prog 38 [.d (Sl.d 1 (fun s=>[Sl.d 1 aI none s]) w0 g)] H fun v h'=>v=.a (.d (Sl.d 1 aI none r))/\h'=H:=by
 unfold rG at b;refine AC.oW 36 [.tmp 2] Tryz.call38 Tryz.func38 ?_;refine af ?_;refine s0 (dc (k':=1) rfl) rfl ?_;refine nil ?_;refine af (S As (nil ?_));refine aP (TA 0 kN) (fun(z:Int)=>[(3,.a (.d (.int .i64 z)))]) (fun z=>H) (fun z=>ur g z=some r) ?_ ?_
 ·intro ae B;refine af (S Mv ?_);refine sLen (f:=(fun s=>[Sl.d 1 aI none s])) (s:=g) (TK rfl) rfl rfl rfl rfl fun ag=>?_;refine S Mv (nil ?_);refine block ?_;refine bp (TA 0 (TA 9 (TA 10 kN))) (fun(z:Nat×Int×Nat)=>[(3,.a (.d (.int .i64 z.2.1))),(11,.a (.d (.int .i64 ((z.2.2:Nat):Int))))]) (fun z=>H) (fun z=>z.1) (fun z=>oo g z.1 z.2.1 z.2.2=some r) ((g.l.length+1),(0:Int),0) b wA ?_
  rintro ⟨j,C,k⟩ b ai E;try dsimp only at b
  cases j with
  | zero=>cases b
  | succ j =>
    rw [oo] at b;refine af (S BI (nil ?_));refine ax fun F q=>?_;refine cE b (fun m b=>?_) (fun m b=>?_)
    ·try dsimp only at m
     have aj:=oD m;refine sk q ?_;clear q F;refine aP (TA 0 (TA 9 (TA 10 (TA 11 kN)))) (fun(z:Int)=>[(3,.a (.d (.int .i64 z)))]) (fun z=>H) (fun z=>uu k ((oo g j)) z=some r) ?_ ?_
     ·intro al G;refine block ?_;refine af ?_;obtain⟨I,J,b⟩:=bO b;refine S (ix (fun s=>[Sl.d 1 aI none s]) k J) ?_;refine S Ld (S As (nil ?_));refine af (S Mv (S Mv ?_));refine sLen (f:=aI) (s:=I) (TK rfl) rfl rfl rfl rfl fun an=>?_;obtain⟨K,L,b⟩:=bO b;refine s0 (eL rfl rfl L) rfl ?_;refine S As (nil ?_);refine af (S Mv (S BI (nil ?_)));refine cE b (fun M b=>?_) (fun M b=>?_)
      ·cases b
      refine ah.skip ?_;exact G _ K wA b
     rintro N b;try dsimp only at b
     unfold uu at b;refine region ?_;refine SI ?_;refine S Mv (nil ?_);exact E _ (j,N,(k+1)) wA b (nS _)
    refine ah.exit ?_;exact B _ C wA b
 rintro ao b;try dsimp only at b
 unfold ur at b;refine af (S Mv ?_);obtain⟨O,P,b⟩:=bO b;refine sE (di.call rfl rfl (Kl P _)) rfl (fun _ _ _ ⟨⟨i,t,Q,R⟩,U⟩=>?_); subst Q R U;refine S As (nil ?_);refine aP kN (fun(z:(Sl Bs))=>[(6,.a (.d (Sl.d 1 aI (some i) z)))]) (fun z=>(H.set i (some (.tok 1 z.l.length)))) (fun z=>uq z=some r) ?_ ?_
 ·intro ap W;refine af (S Mv ?_);refine sLen (f:=(fun s=>[Sl.d 1 aI none s])) (s:=g) (TK rfl) rfl rfl rfl rfl fun ar=>?_;refine S Mv (nil ?_);refine block ?_;refine bp (TA 25 (TA 26 kN)) (fun(z:Nat×(Sl Bs)×Nat)=>[(6,.a (.d (Sl.d 1 aI (some i) z.2.1))),(27,.a (.d (.int .i64 ((z.2.2:Nat):Int))))]) (fun z=>(H.set i (some (.tok 1 z.2.1.l.length)))) (fun z=>z.1) (fun z=>rF g z.1 z.2.1 z.2.2=some r) ((g.l.length+1),O,0) b wA ?_
  rintro ⟨o,X,u⟩ b au Y;try dsimp only at b
  cases o with
  | zero=>cases b
  | succ o =>
    rw [rF] at b;refine af (S BI (nil ?_));refine ax fun Z w=>?_;refine cE b (fun p b=>?_) (fun p b=>?_)
    ·try dsimp only at p
     have av:=oD p;refine sk w ?_;clear w Z;refine ax fun aa x=>?_;refine block ?_;refine af ?_;obtain⟨aw,ab,b⟩:=bO b;refine S (ix (fun s=>[Sl.d 1 aI none s]) u ab) ?_;refine S Ld (S As (nil ?_));refine region ?_;refine S Mv (S Mv ?_);obtain⟨y,ad,b⟩:=bO b;refine SH (am aI (TK rfl) rfl (TK rfl) (TK rfl) ad) ?_;refine hq (H.set i (some (.tok 1 y.l.length))) ?_
     refine S As (nil ?_);refine x _ ?_;clear x aa;refine region ?_;refine SI ?_;refine S Mv (nil ?_);exact Y _ (o,y,(u+1)) wA b (nS _)
    refine ah.exit ?_;exact W _ X wA b
 rintro ay b;try dsimp only at b
 unfold uq at b;refine af (S Mv (S As (nil ?_)));refine ah.dm 2 rfl ?_;refine ah.ret ?_;repeat (first|refine bE ?_|refine bF ?_)
 obtain rfl:=oJ b;refine bn.bG H rfl ⟨rfl,rfl⟩ ?_
 first|exact ak.bS t|(simp only [ak.set_set]; exact ak.bS t)
def qc (b:(Sl (Sl Bs))):Option (Sl Bs):=rG b
theorem C6 (a0:(Sl (Sl Bs))):rG a0=qc a0:=rfl
def j5 (i:Z3) (g:(Sl Bs)):List Z7->ai->Option (ai)
 | [],b=>some b
 | j::k,b=>on (j) fun f=>(mz f.bh).bind fun l=>(qc (⟨false,[g,l]⟩:Sl (Sl Bs))).bind fun m=>on (ol i m) fun o=>Option.bind (bif o then((og f.aA.aK).bind fun p=>(j4 f.bh).bind fun q=>(oh f.aF).bind fun r=>(aQ 104 b.ay (⟨false,[(Z7.mk f.aa r (aG.mk f.aA.aa p) q)]⟩:Sl Z7)).bind fun s=>some (ai.mk b.ar b.aa b.aW b.bh s b.aJ b.aM)) else(some b)) fun t=>j5 i g (k) t
def iM (j:Z3) (f:ai) (i:(Sl Bs)):List Z9->ai->Option (ai)
 | [],b=>some b
 | k::l,b=>on (k) fun g=>aU (!(!decide (f.ar=(4:Int)))) (mz g.bh) (Sl.nil:Sl Bs) fun m=>aU (!(!decide (f.ar=(4:Int)))) (qc (⟨false,[i,m]⟩:Sl (Sl Bs))) (Sl.nil:Sl Bs) fun o=>on (bif !(!decide (f.ar=(4:Int))) then ol j o else false) fun p=>Option.bind (bif ((!decide (f.ar=(4:Int)))||p) then((j4 g.bh).bind fun q=>(aQ 40 b.aJ (⟨false,[(Z9.mk g.aa q)]⟩:Sl Z9)).bind fun r=>some (ai.mk b.ar b.aa b.aW b.bh b.ay r b.aM)) else(some b)) fun s=>iM j f i (l) s
def rH (g:Z3) (b:ai):Option ai:=(mz b.bh).bind fun f=>(oe b.aW).bind fun i=>(j4 b.bh).bind fun j=>(oh b.aM).bind fun k=>Option.bind (j5 g f b.ay.l (ai.mk b.ar b.aa i j (Sl.nil:Sl Z7) (Sl.nil:Sl Z9) k)) fun m=>on (m) fun o=>Option.bind (iM g b f b.aJ.l o) fun p=>on (p) fun q=>some q
def rI (f:Z3) (b:ai):Option ai:=rH f b
theorem Km (a0:Z3) (b:ai):rI a0 b=rH a0 b:=rfl
theorem C7 {q:Z3}{g r:ai}(b:rI q g=some r) (H:ak) :AC Tryz.prog 17 [.agg (Z3.c q),.agg (ai.c g)] H fun v h'=>v=.a (.agg (ai.c r))/\h'=H:=by
 unfold rI rH at b;refine AC.oW 97 [.cell 4 45] Tryz.call17 Tryz.func17 ?_;refine af (S BX (S BX ?_));refine Sl ?_;refine nil ?_;refine af (S Fv (S Ld ?_));obtain⟨u,ab,b⟩:=qT (xY _) b;refine Sc rfl rfl (ue ab) ?_;refine S As (nil ?_);refine ah.b5 (Sd Fv (Sd Ld (Sd Fv (Sd Ld (Sd Fv (Sd Ld ?_))))));obtain⟨ad,ae,b⟩:=qT (CU _) b;refine ct rfl rfl (CV ae) ?_
 refine Sd Fv (Sd Ld ?_);obtain⟨ag,aj,b⟩:=qT (um _) b;refine ct rfl rfl (uo aj) ?_;refine Sd Fv (Sd Ld ?_);obtain⟨al,an,b⟩:=qT (C1 _) b;refine ct rfl rfl (C2 an) ?_;refine Sd BU ?_;refine au.sB (TK rfl) rfl rfl ?_ (by repeat (first|exact bN.nil|apply bN.cons));refine au.dA (eA (TK rfl) rfl rfl rfl rfl rfl) ?_;refine au.nil (by decide +kernel) ?_;refine ah.tok 5 fun i a7=>?_
 refine ah.cV 1 _ rfl (fun j w cs hh hx=>tok_cell 4 5 5 hh (t:=i) aB hx rfl) ?_;refine ah.tok 2 fun m I=>?_;obtain⟨a8,I⟩:=ak.dJ I;refine ah.cV 1 _ rfl (fun j w cs hh hx=>tok_cell 5 2 2 hh (t:=m) aB hx rfl) ?_;refine ez (TA 2 (TA 3 (TA 4 (TA 5 (TA 6 kN))))) (fun(z:ai)=>[]) (fun z=>[ai.c ai.zero,((bJ .i64) z.ar++aI z.aa++(fun s=>[Sl.d 1 aI none s]) z.aW++(fun s=>[Sl.d 2 av.c none s]) z.bh++[Sl.d 5 Z7.c (some i) z.ay]++[Sl.d 2 Z9.c (some m) z.aJ]++(fun s=>[Sl.d 10 Z8.c none s]) z.aM)]) (fun z=>((H.set i (some (.tok 5 z.ay.l.length))).set m (some (.tok 2 z.aJ.l.length)))) (fun z=>(Option.bind (iM q g u g.aJ.l z) fun o=>on (o) fun J=>some J)=some r) ?_ ?_
 ·intro a9 ao;refine af (S Fv (S Ld ?_));refine sLen (f:=Z7.c) (s:=g.ay) (TK rfl) rfl rfl rfl rfl fun a_=>?_;refine S Mv (nil ?_);refine block ?_;obtain⟨x,ap,b⟩:=bY b;refine fK (TA 2 (TA 3 (TA 4 (TA 5 (TA 6 (TA 29 (TA 30 kN))))))) (fun(z:Nat×ai)=>[(31,.a (.d (.int .i64 ((z.1:Nat):Int))))]) (fun z=>[ai.c ai.zero,((bJ .i64) z.2.ar++aI z.2.aa++(fun s=>[Sl.d 1 aI none s]) z.2.aW++(fun s=>[Sl.d 2 av.c none s]) z.2.bh++[Sl.d 5 Z7.c (some i) z.2.ay]++[Sl.d 2 Z9.c (some m) z.2.aJ]++(fun s=>[Sl.d 10 Z8.c none s]) z.2.aM)]) (fun z=>((H.set i (some (.tok 5 z.2.ay.l.length))).set m (some (.tok 2 z.2.aJ.l.length)))) (fun z=>g.ay.l.length-z.1) (fun z=>Option.bind (j5 q u (g.ay.l.drop z.1) z.2) x=some r) (0,(ai.mk g.ar g.aa ad ag (Sl.nil:Sl Z7) (Sl.nil:Sl Z9) al)) b wA ?_
  rintro ⟨y,p⟩ b a' aw;try dsimp only at b
  refine af (S BI (nil ?_));refine ax fun az K=>?_;refine ah.bK (fun l=>Option.bind (j5 q u l p) x=some r) b rfl (fun ba L B b=>?_) (fun B b=>?_)
  ·rw [j5] at b;try dsimp only at B
   have bb:=oD B;refine sk K ?_;clear K az;refine ez (TA 2 (TA 3 (TA 4 (TA 5 (TA 6 (TA 29 (TA 30 (TA 31 kN)))))))) (fun(z:ai)=>[]) (fun z=>[ai.c ai.zero,((bJ .i64) z.ar++aI z.aa++(fun s=>[Sl.d 1 aI none s]) z.aW++(fun s=>[Sl.d 2 av.c none s]) z.bh++[Sl.d 5 Z7.c (some i) z.ay]++[Sl.d 2 Z9.c (some m) z.aJ]++(fun s=>[Sl.d 10 Z8.c none s]) z.aM)]) (fun z=>((H.set i (some (.tok 5 z.ay.l.length))).set m (some (.tok 2 z.aJ.l.length)))) (fun z=>Option.bind (j5 q u (g.ay.l.drop (y+1)) z) x=some r) ?_ ?_
   ·intro bc M;refine block ?_;refine af ?_;obtain⟨bd,aA,b⟩:=vO L b;refine S (ix Z7.c y aA) (S Ld ?_);refine Sl ?_;refine Sf ?_;refine nil ?_;refine ah.b5 (Sd Ld (Sd Mv (Sd FL (Sd LL ?_))));obtain⟨be,aC,b⟩:=qO (xY _) b;refine ct rfl rfl (ue aC) ?_;refine Sd BV ?_;obtain⟨bf,aD,b⟩:=qO (C6 _) b;refine ct rfl rfl (C5 aD) ?_;obtain⟨bg,aE,b⟩:=vO (C3 _ _) b
    refine ct rfl rfl (C4 aE) ?_;refine au.nil (by decide +kernel) ?_;obtain⟨bi,N,b⟩:=dZ b;refine cO b (fun aF b=>?_) (fun aF b=>?_)
    ·refine af (S FL (S FL (S LL ?_)));obtain⟨bj,aG,b⟩:=qO (CZ _) b;refine Sc rfl rfl (C0 aG) ?_;refine S FL (S FL ?_);refine Sf ?_;refine nil ?_;refine af (S FL (S LL ?_));obtain⟨bk,aH,b⟩:=qO (um _) b;refine Sc rfl rfl (uo aH) ?_;refine S FL ?_;refine Sf ?_;refine nil ?_;refine af (S FL (S LL ?_));obtain⟨bl,aK,b⟩:=qO (C1 _) b;refine Sc rfl rfl (C2 aK) ?_
     refine S FL ?_;refine Sf ?_;refine nil ?_;refine region ?_;refine S FL (S LL (S LL (S BV ?_)));obtain⟨O,aN,b⟩:=qO rfl b;refine SH (am Z7.c (TK rfl) rfl (TK rfl) (TK rfl) aN) ?_;refine hq ((H.set i (some (.tok 5 O.l.length))).set m (some (.tok 2 p.aJ.l.length))) ?_;refine S FL ?_;refine Sf ?_;refine nil ?_;have b:=ku N b;exact M _ (ai.mk p.ar p.aa p.aW p.bh O p.aJ p.aM) wA b
    refine ah.skip ?_;have b:=ku N b;exact M _ p wA b
   rintro aO b;try dsimp only at b
   refine region ?_;refine SI ?_;refine S Mv (nil ?_);exact aw _ ((y+1),aO) wA b (dl L)
  rw [j5] at b;have b:=ku ap b;refine ah.exit ?_;obtain⟨bm,aP,b⟩:=bT b;have b:=ku aP b;exact ao _ p wA b
 rintro aQ b;try dsimp only at b
 refine ez (TA 4 (TA 6 kN)) (fun(z:ai)=>[]) (fun z=>[ai.c ai.zero,((bJ .i64) z.ar++aI z.aa++(fun s=>[Sl.d 1 aI none s]) z.aW++(fun s=>[Sl.d 2 av.c none s]) z.bh++[Sl.d 5 Z7.c (some i) z.ay]++[Sl.d 2 Z9.c (some m) z.aJ]++(fun s=>[Sl.d 10 Z8.c none s]) z.aM)]) (fun z=>((H.set i (some (.tok 5 z.ay.l.length))).set m (some (.tok 2 z.aJ.l.length)))) (fun z=>(some z)=some r) ?_ ?_
 ·intro bo aR;refine af (S Fv (S Ld ?_));refine sLen (f:=Z9.c) (s:=g.aJ) (TK rfl) rfl rfl rfl rfl fun bp=>?_;refine S Mv (nil ?_);refine block ?_;obtain⟨C,aS,b⟩:=bY b;refine fK (TA 2 (TA 3 (TA 4 (TA 5 (TA 6 (TA 65 (TA 66 kN))))))) (fun(z:Nat×ai)=>[(67,.a (.d (.int .i64 ((z.1:Nat):Int))))]) (fun z=>[ai.c ai.zero,((bJ .i64) z.2.ar++aI z.2.aa++(fun s=>[Sl.d 1 aI none s]) z.2.aW++(fun s=>[Sl.d 2 av.c none s]) z.2.bh++[Sl.d 5 Z7.c (some i) z.2.ay]++[Sl.d 2 Z9.c (some m) z.2.aJ]++(fun s=>[Sl.d 10 Z8.c none s]) z.2.aM)]) (fun z=>((H.set i (some (.tok 5 z.2.ay.l.length))).set m (some (.tok 2 z.2.aJ.l.length)))) (fun z=>g.aJ.l.length-z.1) (fun z=>Option.bind (iM q g u (g.aJ.l.drop z.1) z.2) C=some r) (0,aQ) b wA ?_
  rintro ⟨E,o⟩ b bq aT;try dsimp only at b
  refine af (S BI (nil ?_));refine ax fun aU P=>?_;refine ah.bK (fun l=>Option.bind (iM q g u l o) C=some r) b rfl (fun br Q F b=>?_) (fun F b=>?_)
  ·rw [iM] at b;try dsimp only at F
   have bs:=oD F;refine sk P ?_;clear P aU;refine ez (TA 2 (TA 3 (TA 4 (TA 5 (TA 6 (TA 65 (TA 66 (TA 67 kN)))))))) (fun(z:ai)=>[]) (fun z=>[ai.c ai.zero,((bJ .i64) z.ar++aI z.aa++(fun s=>[Sl.d 1 aI none s]) z.aW++(fun s=>[Sl.d 2 av.c none s]) z.bh++[Sl.d 5 Z7.c (some i) z.ay]++[Sl.d 2 Z9.c (some m) z.aJ]++(fun s=>[Sl.d 10 Z8.c none s]) z.aM)]) (fun z=>((H.set i (some (.tok 5 z.ay.l.length))).set m (some (.tok 2 z.aJ.l.length)))) (fun z=>Option.bind (iM q g u (g.aJ.l.drop (E+1)) z) C=some r) ?_ ?_
   ·intro bt R;refine block ?_;refine af ?_;obtain⟨bu,aV,b⟩:=vO Q b;refine S (ix Z9.c E aV) (S Ld ?_);refine Sl ?_;refine Sf ?_;refine nil ?_;refine bA 10 _ rfl (KA 2 (KA 3 (KA 4 (KA 5 (KA 6 (KA 65 (KA 66 (KA 67 aY.nil)))))))) ?_;refine ah.b5 (Sd Fv (Sd Ld (Sd BI (Sd Mv (cD Ld (cD Mv (cD Fv ?_)))))));refine cM 77 rfl Ld ?_;obtain⟨bv,aX,b⟩:=eC (xY _) b;refine l7 78 rfl rfl rfl rfl rfl (fun hC=>ue (aX hC)) ?_
    refine au.gC rfl rfl (fun hC=>aL (k:=76) rfl (aL (k:=79) rfl (buildSlice (TK rfl) rfl (TK rfl) rfl rfl rfl rfl rfl rfl))) rfl ?_;obtain⟨bw,aZ,b⟩:=eC (C6 _) b;refine l7 80 rfl rfl rfl rfl rfl (fun hC=>C5 (aZ hC)) ?_;obtain⟨bx,a0,b⟩:=eB (fun _=>(C3 _ _)) b;refine pe 75 81 rfl rfl rfl rfl rfl rfl (fun hC=>C4 (a0 hC)) ?_;refine Sd PO ?_;refine au.nil (by decide +kernel) ?_
    obtain⟨bz,U,b⟩:=dZ b;refine cO b (fun a1 b=>?_) (fun a1 b=>?_)
    ·refine ah.draw rfl ?_;refine Sd FL (Sd LL (Sd Fv (Sd Ld (Sd Fv (Sd Ld ?_)))));obtain⟨bB,a2,b⟩:=qO (um _) b;refine ct rfl rfl (uo a2) ?_;refine Sd BU (Sd BV ?_);obtain⟨W,a3,b⟩:=qO rfl b;refine au.sH (jf (f:=Z9.c) (TK rfl) rfl (TK rfl) (TK rfl) ⟨_,rfl⟩ rfl rfl (by decide) rfl rfl rfl rfl aB rfl a3) rfl ?_;refine au.Dh ((H.set i (some (.tok 5 o.ay.l.length))).set m (some (.tok 2 W.l.length))) ?_
     refine Sd FL ?_;refine au.dA (qU (TK rfl) rfl rfl rfl rfl (by repeat (first|exact bL.zero|apply bL.succ)) (by repeat (first|exact bL.zero|apply bL.succ))) ?_;refine au.nil (by decide +kernel) ?_;have b:=ku U b;exact R _ (ai.mk o.ar o.aa o.aW o.bh o.ay W o.aM) wA b
    refine ah.skip ?_;have b:=ku U b;exact R _ o wA b
   rintro a4 b;try dsimp only at b
   refine region ?_;refine SI ?_;refine S Mv (nil ?_);exact aT _ ((E+1),a4) wA b (dl Q)
  rw [iM] at b;have b:=ku aS b;refine ah.exit ?_;obtain⟨bC,a5,b⟩:=bT b;have b:=ku a5 b;exact aR _ o wA b
 rintro J b;try dsimp only at b
 refine ax fun a6 X=>?_;refine ah.cV 1 _ rfl (fun j w cs hh hx=>jg 4 hx rfl) ?_;refine ah.cV 1 _ rfl (fun j w cs hh hx=>jg 5 hx rfl) ?_;refine region ?_;refine S LL ?_;refine Sf ?_;refine nil ?_;refine X _ ?_;clear X a6;refine ah.ret ?_;repeat (first|refine bE ?_|refine bF ?_)
 obtain rfl:=oJ b;refine bn.bG H rfl ⟨rfl,rfl⟩ ?_;intro Y bD Z;have bH:Y≠i:=fun G=>by subst G; simp_all [ak.set]
 have bI:Y≠m:=fun G=>by subst G; simp_all [ak.set]
 rw [<- Z];simp only [ak.set] at Z ⊢
 (repeat' split)<;>simp_all
def ye  :Option Int:=some (-1:Int)
def yf (f:(Sl Z8)) :Nat->Nat->Option Int
 | 0,_=>none
 | g+1,b=>bif (decide (((b:Nat):Int)<((f.l.length:Nat):Int))) then(none) else(ye   )
def rJ (b:(Sl Z8)) (f:(Z8->Option Bool)):Option Int:=yf b (b.l.length+1) 0
theorem C8 {g:Sl Z8}{j:Z8->Option Bool}{w0:Option Nat}{k:List D}{m:Nat}{r:Int}(b:rJ g j=some r) (H:ak) (t:∀o r,j o=some r->∀H,AC Tryz.prog m ([.agg (Z8.c o)]++k.map A.d) H fun v h'=>v=.a (.d (.bool r))/\h'=H):AC Tryz.prog 131 [.d (Sl.d 10 Z8.c w0 g),.d (.func m k)] H fun v h'=>v=.a (.d (.int .i64 r))/\h'=H:=by
 unfold rJ at b;refine AC.oW 19 [.tmp 4] Tryz.call131 Tryz.func131 ?_;refine af (S As (nil ?_));refine aP kN (fun(z:Unit)=>[]) (fun z=>H) (fun z=>ye =some r) ?_ ?_
 ·intro u q;refine af (S Mv ?_);refine sLen (f:=Z8.c) (s:=g) (TK rfl) rfl rfl rfl rfl fun w=>?_;refine S Mv (nil ?_);refine block ?_;refine bp (TA 0 (TA 1 (TA 7 kN))) (fun(z:Nat×Nat)=>[(8,.a (.d (.int .i64 ((z.2:Nat):Int))))]) (fun z=>H) (fun z=>z.1) (fun z=>yf g z.1 z.2=some r) ((g.l.length+1),0) b wA ?_;rintro ⟨p,x⟩ b y B;try dsimp only at b
  cases p with
  | zero=>cases b
  | succ p =>
    rw [yf] at b;refine af (S BI (nil ?_));refine ax fun C E=>?_;refine cE b (fun i b=>?_) (fun i b=>?_)
    ·try dsimp only at i
     have F:=oD i;cases b
    refine ah.exit ?_;exact q _ () wA b
 rintro _ b;try dsimp only at b
 unfold ye at b;refine af (S As (nil ?_));exact rt b
def rK (g:(Sl Z8)) (b:(Z8->Option Bool)):Option Bool:=(rJ g b).bind fun f=>some (decide ((0:Int)<=f))
theorem Kn {k:Sl Z8}{f:Z8->Option Bool}{w0:Option Nat}{g:List D}{i:Nat}{r:Bool}(b:rK k f=some r) (H:ak) (l:∀j r,f j=some r->∀H,AC Tryz.prog i ([.agg (Z8.c j)]++g.map A.d) H fun v h'=>v=.a (.d (.bool r))/\h'=H):AC Tryz.prog 101 [.d (Sl.d 10 Z8.c w0 k),.d (.func i g)] H fun v h'=>v=.a (.d (.bool r))/\h'=H:=by
 unfold rK at b;refine AC.oW 9 [.tmp 4] Tryz.call101 Tryz.func101 ?_;refine af (S As (nil ?_));refine af (S Mv (S Mv ?_));obtain⟨o,m,b⟩:=bO b;refine s0 (fE rfl rfl (fun H=>C8 m H l)) rfl ?_;refine S BI (S As (nil ?_));exact rt b
def yg (g:(Sl Z8)) (b:(Z8->Option Bool)):Option Bool:=(rJ g b).bind fun f=>some (decide ((0:Int)<=f))
theorem Ko (a0:(Sl Z8)) (b:(Z8->Option Bool)):rK a0 b=yg a0 b:=by
 unfold rK yg;refine Qs ?_;refine Q.jh rfl fun f=>?_;all_goals rfl
def mA (b:Bs):List ai->Unit ⊕ ((ai×Bool))
 | []=>Sum.inl ()
 | g::i=>on (g) fun f=>bif ((f.aa==b)) then(Sum.inr (f,true)) else(mA b (i) )
def mB (i:aj) (b:Bs):(ai×Bool):=on (mA b i.an.l ) fun f=>match f with|Sum.inl _=>(on (()) fun _=>((ai.mk (0:Int) ([]:Bs) (Sl.nil:Sl Bs) (Sl.nil:Sl av) (Sl.nil:Sl Z7) (Sl.nil:Sl Z9) (Sl.nil:Sl Z8)),false))|Sum.inr g=>(g)
def rL (f:aj) (b:Bs):Option (ai×Bool):=some (mB f b)
theorem yh (a0:aj) (b:Bs):rL a0 b=some (mB a0 b):=rfl
theorem rM {g:aj}{i:Bs}{r:ai×Bool}(b:rL g i=some r) (H:ak) :AC Tryz.prog 22 [.agg (aj.c g),.d (.str i)] H fun v h'=>v=.dz [.agg (ai.c r.1),.d (.bool r.2)]/\h'=H:=by
 unfold rL mB at b;refine AC.oW 22 [.cell 4 45,.tmp 5] Tryz.call22 Tryz.func22 ?_;refine af (S BX ?_);refine Sl ?_;refine S As (nil ?_);refine ez (TA 4 kN) (fun(z:ai)=>[]) (fun z=>[ai.c z]) (fun z=>H) (fun z=>some (((ai.mk (0:Int) ([]:Bs) (Sl.nil:Sl Bs) (Sl.nil:Sl av) (Sl.nil:Sl Z7) (Sl.nil:Sl Z9) (Sl.nil:Sl Z8)),false))=some r) ?_ ?_
 ·intro G w;refine af (S Fv (S Ld ?_));refine sLen (f:=ai.c) (s:=g.an) (TK rfl) rfl rfl rfl rfl fun I=>?_;refine S Mv (nil ?_);refine block ?_;obtain⟨k,m,b⟩:=dU b;refine fK (TA 1 (TA 4 (TA 9 (TA 10 kN)))) (fun(z:Nat×ai)=>[(11,.a (.d (.int .i64 ((z.1:Nat):Int))))]) (fun z=>[ai.c z.2]) (fun z=>H) (fun z=>g.an.l.length-z.1) (fun z=>k (mA i (g.an.l.drop z.1) )=some r) (0,ai.zero) b wA ?_
  rintro ⟨o,p⟩ b J x;try dsimp only at b
  refine af (S BI (nil ?_));refine ax fun y q=>?_;refine ah.bK (fun l=>k (mA i l )=some r) b rfl (fun K t j b=>?_) (fun j b=>?_)
  ·rw [mA] at b;try dsimp only at j
   have L:=oD j;refine sk q ?_;clear q y;refine ax fun B u=>?_;refine block ?_;refine af ?_;obtain⟨M,C,b⟩:=vP t b;refine S (ix ai.c o C) (S Ld ?_);refine Sl ?_;refine Sf ?_;refine nil ?_;refine bA 7 _ rfl (KA 1 (KA 4 (KA 9 (KA 10 (KA 11 aY.nil))))) ?_;refine af (S Fv (S Ld (S Mv (S BS (nil ?_)))));refine cP b (fun E b=>?_) (fun E b=>?_)
   ·refine af (S Ld ?_);refine Sf ?_;refine S As (nil ?_);refine ah.ret ?_;repeat (first|refine bE ?_|refine bF ?_)
    have b:=ku m b;obtain rfl:=oJ b;refine bn.bG H rfl ⟨rfl,rfl⟩ ?_;exact(fun _ _ h=>h)
   refine sk u ?_;clear u B;refine region ?_;refine SI ?_;refine S Mv (nil ?_);exact x _ ((o+1),p) wA b (dl t)
  rw [mA] at b;have b:=ku m b;try dsimp only at b
  refine ah.exit ?_;obtain⟨N,F,b⟩:=dU b;have b:=ku F b;exact w _ p wA b
 rintro O b;try dsimp only at b
 refine af (S BU ?_);refine Sf ?_;refine S As (nil ?_);exact rt b
def uv (b:Bs):Bool:=(((((b==([73,110,116]:Bs)))||((b==([83,116,114,105,110,103]:Bs))))||((b==([66,111,111,108,101,97,110]:Bs))))||((b==([73,68]:Bs))))
def qd (b:Bs):Option Bool:=some (uv b)
theorem Kp (a0:Bs):qd a0=some (uv a0):=rfl
theorem uw {f:Bs}{r:Bool}(b:qd f=some r) (H:ak) :AC Tryz.prog 106 [.d (.str f)] H fun v h'=>v=.a (.d (.bool r))/\h'=H:=by
 unfold qd uv at b;refine AC.oW 17 [.tmp 2] Tryz.call106 Tryz.func106 ?_;refine af (S As (nil ?_));refine af (S Mv (S BS (S Mv (G0 Mv ?_))));refine G1 6 rfl BS ?_;refine S PO (S Mv (G0 Mv ?_));refine G1 10 rfl BS ?_;refine S PO (S Mv (G0 Mv ?_));refine G1 14 rfl BS ?_;refine S PO (S As (nil ?_));exact rt b
def C9 (i:Z2) (b:Bs):Bool:=on (mB i.Fd b) fun f=>on (bif (!f.2) then uv b else false) fun g=>((!f.2)&&(!g))
def yj (f:Z2) (b:Bs):Option Bool:=some (C9 f b)
theorem Kq {i:Z2}{f:Bs}{g:Nat}{r:Bool}(b:yj i f=some r) (H:ak) (l:H g=some (.cells (Z2.c i))):AC Tryz.prog 66 [.d (.ptr g 0),.d (.str f)] H fun v h'=>v=.a (.d (.bool r))/\h'=H:=by
 unfold yj C9 at b;refine AC.oW 23 [.tmp 4] Tryz.call66 Tryz.func66 ?_;refine af (S As (nil ?_));refine af (S Mv (S NP ?_));refine s0 (bP (TK rfl) rfl rfl (TK rfl) rfl rfl) rfl ?_;refine s0 (b7 (TK rfl) rfl rfl aB rfl) rfl ?_;refine S Mv ?_;obtain⟨m,j,b⟩:=vP (yh _ _) b;refine Sc rfl rfl (rM j) ?_;refine S Mv (S EX (S EX ?_));refine Sl ?_;refine Sf ?_;refine S As (nil ?_)
 refine bA 5 _ rfl (KA 1 (KA 6 aY.nil)) ?_;refine af (S Mv (S NB (S Mv (G0 Mv ?_))));obtain⟨o,k,b⟩:=kG (fun _=>(Kp _)) b;refine c6 19 rfl rfl rfl rfl rfl (fun hC=>uw (k hC)) ?_;refine G1 20 rfl NB ?_;refine S PA (S As (nil ?_));exact rt b
def yl (b:(Sl Z8)) (f:(Z8->Option Bool)):Option (Sl Z8):=(rJ b f).bind fun g=>bif (decide (g=(-1:Int))) then(some b) else(none)
theorem Kr {k:Sl Z8}{f:Z8->Option Bool}{w0:Option Nat}{g:List D}{i:Nat}{r:Sl Z8}(b:yl k f=some r) (H:ak) (l:∀j r,f j=some r->∀H,AC Tryz.prog i ([.agg (Z8.c j)]++g.map A.d) H fun v h'=>v=.a (.d (.bool r))/\h'=H):AC Tryz.prog 104 [.d (Sl.d 10 Z8.c w0 k),.d (.func i g)] H fun v h'=>v=.a (.d (Sl.d 10 Z8.c none r))/\h'=H:=by
 unfold yl at b;refine AC.oW 42 [.tmp 4] Tryz.call104 Tryz.func104 ?_;refine af ?_;refine s0 (dc (k':=10) rfl) rfl ?_;refine nil ?_;refine af (S Mv (S Mv ?_));obtain⟨p,m,b⟩:=bO b;refine s0 (fE rfl rfl (fun H=>C8 m H l)) rfl ?_;refine S As (nil ?_);refine ax fun q s=>?_;refine af (S Mv (S BI (nil ?_)));refine cE b (fun o b=>?_) (fun o b=>?_)
 ·refine af (S Mv (S As (nil ?_)));refine ah.dm 4 rfl ?_;exact rt b
 cases b
def C_ (g:Z2) (b:(Sl Z8)):Option ((Sl Z8)×Bool×Z2):=(yg b (fun _=>none)).bind fun i=>(yl b (fun _=>none)).bind fun f=>some (f,i,(Z2.mk g.Fd (g.eT||(decide (((f.l.length:Nat):Int)<((b.l.length:Nat):Int))))))
def ux (f:Z2) (b:(Sl Z8)):Option ((Sl Z8)×Bool×Z2):=C_ f b
theorem C' {j:Z2}{g:Sl Z8}{o:Option Nat}{i:Nat}{r:((Sl Z8)×Bool×Z2)}(b:ux j g=some r) (H:ak) (t:H i=some (.cells (Z2.c j))):AC Tryz.prog 65 [.d (.ptr i 0),.d (Sl.d 10 Z8.c o g)] H fun v h'=>v=.dz [.d (Sl.d 10 Z8.c none r.1),.d (.bool r.2.1)]/\h'=(H.set i (some (.cells (Z2.c r.2.2)))):=by
 unfold ux C_ at b;refine AC.oW 31 [.tmp 4,.tmp 5] Tryz.call65 Tryz.func65 ?_;refine ah.dQ (h':=(H.set i (some (.cells (Z2.c j))))) (by funext n_; simp only [ak.set]; (repeat' split)<;>simp_all) ?_;refine af (S BX ?_);refine s0 (dc (k':=10) rfl) rfl ?_;refine S As (nil ?_);refine af (S Mv ?_);refine s0 (makeFunc rfl) rfl ?_;obtain⟨u,p,b⟩:=qT (o':=rK g (fun _=>none)) (by simp only [Ko]) b
 refine s0 (fE rfl rfl (fun H=>Kn p H (fun _ _ hx=>by cases hx))) rfl ?_;refine S As (nil ?_);refine af (S Mv ?_);refine sLen (f:=Z8.c) (s:=g) (TK rfl) rfl rfl rfl rfl fun w=>?_;refine S As (nil ?_);refine af (S Mv ?_);refine s0 (makeFunc rfl) rfl ?_;obtain⟨m,q,b⟩:=qT rfl b;refine s0 (fE rfl rfl (fun H=>Kr q H (fun _ _ hx=>by cases hx))) rfl ?_;refine S As (nil ?_)
 refine ah.b5 (Sd Ld (Sd Ld (Sd NP ?_)));refine au.s0 (bP (TK rfl) rfl rfl (TK rfl) rfl rfl) rfl ?_;refine au.s0 (b7 (TK rfl) rfl rfl aB rfl) rfl ?_;refine Sd Mv (cD Mv ?_);refine au.gC rfl rfl (fun hC=>aL (k:=22) rfl (b8 (f:=Z8.c) (s:=m) (TK rfl) rfl rfl rfl)) rfl ?_;refine cD Mv ?_;refine tu 23 24 rfl rfl BI ?_;refine Sd PO (Sd NP ?_);refine au.s0 (bP (TK rfl) rfl rfl (TK rfl) rfl rfl) rfl ?_
 refine au.eR (gj (TK rfl) rfl rfl aB rfl (by repeat (first|exact bL.zero|apply bL.succ))) rfl rfl ?_;refine au.Dh (H.set i (some (.cells (Z2.c (Z2.mk j.Fd (j.eT||(decide (((m.l.length:Nat):Int)<((g.l.length:Nat):Int))))))))) ?_;refine au.nil (by decide +kernel) ?_;refine af (S Mv (S Mv (S As (S As (nil ?_)))));exact rt b
end Go.Proofs
