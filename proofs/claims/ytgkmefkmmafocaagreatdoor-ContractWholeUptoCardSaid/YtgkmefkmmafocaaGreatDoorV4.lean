import Derived.Test.YtgkmefkmmafocaaGreatDoorV3
set_option maxRecDepth 100000
set_option maxHeartbeats 2000000
set_option linter.unusedVariables false
set_option linter.unusedSimpArgs false
namespace Go.Proofs
open Go Go.Ab
open aP ar ah aS fp
variable {ax:bK}
def vl (b:af):Bool:=(((((decide (b.an=(0:Int)))&&(decide (b.bl=(0:Int))))&&((b.bg==([]:Bs))))&&(decide (((b.aD.l.length:Nat):Int)=(0:Int))))&&(decide (((b.aN.l.length:Nat):Int)=(0:Int))))
def BC (b:af):Option Bool:=some (vl b)
theorem Pn (a0:af):BC a0=some (vl a0):=rfl
theorem Po {b:af}{r:Bool}(g:BC b=some r) (H:ai) :AC Tryz.prog 99 [.agg (af.c b)] H fun v h'=>v=.a (.d (.bool r))/\h'=H:=by
 unfold BC vl at g;refine AC.oW 28 [.tmp 2] Tryz.call99 Tryz.func99 ?_;refine ag (S BX (S As (nil ?_)));refine ag (S Fv (S Ld (S BI (S Mv (G0 Fv ?_)))));refine G1 7 rfl Ld ?_;refine G1 8 rfl BI ?_;refine S PA (S Mv (G0 Fv ?_));refine G1 12 rfl Ld ?_;refine G1 13 rfl BS ?_;refine S PA (S Mv (G0 Fv ?_));refine gC rfl rfl (fun hC=>aK (k:=17) rfl (dZ (TK rfl) rfl rfl (congrArg (fun x=>some (A.d x)) (af.dW _)))) rfl ?_
 refine gC rfl rfl (fun hC=>aK (k:=18) rfl (cK (f:=af.c) (s:=b.aD) (TK rfl) rfl rfl rfl)) rfl ?_;refine G1 19 rfl BI ?_;refine S PA (S Mv (G0 Fv ?_));refine G1 23 rfl Ld ?_;refine gC rfl rfl (fun hC=>aK (k:=24) rfl (cK (f:=aO) (s:=b.aN) (TK rfl) rfl rfl rfl)) rfl ?_;refine G1 25 rfl BI ?_;refine S PA (S As (nil ?_));exact rt g
def kj :List Z8->Option (Unit ⊕ Bool)
 | []=>some (Sum.inl ())
 | k::l=>on (k) fun b=>on (d_ b.aa) fun f=>aR (!(!f)) (q9 b.aA) false fun i=>aR (!((!f)||(!i))) (pI b.bp) false fun m=>bif (((!f)||(!i))||(!m)) then(some (Sum.inr false)) else(aR (b.bY) (fE b.cB) false fun g=>aR ((b.bY&&!(!g))) (xO b.cB) false fun j=>on (bif (!(b.bY&&((!g)||(!j)))&&(!b.bY)) then vl b.cB else false) fun o=>bif ((b.bY&&((!g)||(!j)))||((!b.bY)&&(!o))) then(some (Sum.inr false)) else(kj  (l) ))
def mI (b:(Sl Z8)):Option Bool:=bif (decide ((16:Int)<((b.l.length:Nat):Int))) then(some false) else(Option.bind (kj  b.l ) fun f=>match f with|Sum.inl _=>(on (()) fun _=>some true)|Sum.inr g=>(some g))
def BD (b:(Sl Z8)):Option Bool:=mI b
theorem GJ (a0:(Sl Z8)):BD a0=mI a0:=rfl
theorem GK {g:Sl Z8}{w0:Option Nat}{r:Bool}(b:BD g=some r) (H:ai) :AC Tryz.prog 60 [.d (Sl.d 10 Z8.c w0 g)] H fun v h'=>v=.a (.d (.bool r))/\h'=H:=by
 unfold BD mI at b;refine AC.oW 59 [.tmp 2] Tryz.call60 Tryz.func60 ?_;refine ag (S As (nil ?_));refine ay fun x m=>?_;refine ag (S Mv ?_);refine sLen (f:=Z8.c) (s:=g) (TK rfl) rfl rfl rfl rfl fun U=>?_;refine S BI (nil ?_);refine cE b (fun y b=>?_) (fun y b=>?_)
 ·refine ag (S As (nil ?_));exact rt b
 refine sk m ?_;clear m x;refine aQ kN (fun(z:Unit)=>[]) (fun z=>H) (fun z=>(some true)=some r) ?_ ?_
 ·intro W B;refine ag (S As (nil ?_));refine block ?_;obtain⟨o,i,b⟩:=b_ b;refine bA (TA 0 kN) (fun(z:Nat)=>[(3,.a (.d (.int .i64 ((z:Nat):Int))))]) (fun z=>H) (fun z=>g.l.length-z) (fun z=>Option.bind (kj  (g.l.drop z) ) o=some r) 0 b wA ?_;rintro p b X C;try dsimp only at b
  refine ay fun E q=>?_;refine ag (S Mv (S Mv ?_));refine sLen (f:=Z8.c) (s:=g) (TK rfl) rfl rfl rfl rfl fun Y=>?_;refine S BI (nil ?_);refine ah.bN (fun l=>Option.bind (kj  l ) o=some r) b rfl (fun Z t j b=>?_) (fun j b=>?_)
  ·rw [kj] at b;try dsimp only at j
   have aa:=oD j;refine sk q ?_;clear q E;refine ay fun F u=>?_;refine block ?_;refine ag (S Mv (S Mv ?_));obtain⟨ab,G,b⟩:=vO t b;refine S (ix Z8.c p G) (S Ld ?_);refine Sl ?_;refine Sf ?_;refine nil ?_;refine bu 4 _ rfl (KA 0 (KA 3 aS.nil)) ?_;refine ay fun I w=>?_;refine ag (S Fv (S Ld ?_));obtain⟨ad,J,b⟩:=vO (jY _) b
   refine Sc rfl rfl (jZ J) ?_;refine S NB (S Mv (G0 Fv ?_));refine G1 23 rfl Ld ?_;obtain⟨ae,K,b⟩:=eS (GH _) b;refine dz 24 rfl rfl rfl rfl rfl (fun hC=>GI (K hC)) ?_;refine G1 25 rfl NB ?_;refine S PO (S Mv (G0 Fv ?_));refine G1 29 rfl Ld ?_;obtain⟨af,L,b⟩:=eS (xR _) b;refine dz 30 rfl rfl rfl rfl rfl (fun hC=>xQ (L hC)) ?_;refine G1 31 rfl NB ?_
   refine S PO (nil ?_);refine cO b (fun M b=>?_) (fun M b=>?_)
   ·refine ag (S As (nil ?_));refine ah.ret ?_;repeat (first|refine bF ?_|refine bG ?_)
    have b:=ku i b;obtain rfl:=oJ b;refine bn.bH H rfl ⟨rfl,rfl⟩ ?_;exact(fun _ _ h=>h)
   refine sk w ?_;clear w I;refine ag (S Fv (S Ld (S Mv (G0 Fv ?_))));refine G1 37 rfl Ld ?_;obtain⟨aj,N,b⟩:=eS (GB _) b;refine dz 38 rfl rfl rfl rfl rfl (fun hC=>GC (N hC)) ?_;refine G1 39 rfl NB ?_;refine G1 40 rfl Mv ?_;refine G0 Fv ?_;refine G1 42 rfl Ld ?_;obtain⟨ak,O,b⟩:=eS (GG _) b;refine dz 43 rfl rfl rfl rfl rfl (fun hC=>GF (O hC)) ?_;refine G1 44 rfl NB ?_
   refine gC rfl rfl (fun hC=>aK (k:=41) rfl (sX rfl rfl rfl)) rfl ?_;refine S PA (S Mv (G0 Fv ?_));refine G1 49 rfl Ld ?_;refine G1 50 rfl NB ?_;refine G1 51 rfl Mv ?_;refine G0 Fv ?_;refine G1 53 rfl Ld ?_;obtain⟨al,P,b⟩:=eH (fun _=>(Pn _)) b;refine dz 54 rfl rfl rfl rfl rfl (fun hC=>Po (P hC)) ?_;refine G1 55 rfl NB ?_;refine gC rfl rfl (fun hC=>aK (k:=52) rfl (iM rfl rfl rfl)) rfl ?_
   refine S PO (nil ?_);refine cO b (fun Q b=>?_) (fun Q b=>?_)
   ·refine ag (S As (nil ?_));refine ah.ret ?_;repeat (first|refine bF ?_|refine bG ?_)
    have b:=ku i b;obtain rfl:=oJ b;refine bn.bH H rfl ⟨rfl,rfl⟩ ?_;exact(fun _ _ h=>h)
   refine sk u ?_;clear u F;refine region ?_;refine S Mv ?_;refine SI ?_;refine S As (nil ?_);exact C _ (p+1) wA b (dl t)
  rw [kj] at b;have b:=ku i b;try dsimp only at b
  refine ah.exit ?_;obtain⟨am,R,b⟩:=bW b;have b:=ku R b;exact B _ () wA b
 rintro _ b;try dsimp only at b
 refine ag (S As (nil ?_));exact rt b
def ko :List Z7->Option (Unit ⊕ Bool)
 | []=>some (Sum.inl ())
 | g::j=>on (g) fun k=>on (d_ k.aa) fun b=>on (bif !(!b) then g else Z7.zero) fun l=>aR (!(!b)) (mI l.aH) false fun f=>on (bif !((!b)||(!f)) then g else Z7.zero) fun m=>aR (!((!b)||(!f))) (q9 m.aA) false fun i=>on (bif !(((!b)||(!f))||(!i)) then g else Z7.zero) fun o=>aR (!(((!b)||(!f))||(!i))) (pI o.bp) false fun p=>bif ((((!b)||(!f))||(!i))||(!p)) then(some (Sum.inr false)) else(ko  (j) )
def lI (b:(Sl Z7)):Option Bool:=bif ((decide (((b.l.length:Nat):Int)<(1:Int)))||(decide ((64:Int)<((b.l.length:Nat):Int)))) then(some false) else(Option.bind (ko  b.l ) fun f=>match f with|Sum.inl _=>(on (()) fun _=>some true)|Sum.inr g=>(some g))
def BE (b:(Sl Z7)):Option Bool:=lI b
theorem GL (a0:(Sl Z7)):BE a0=lI a0:=rfl
theorem GM {g:Sl Z7}{w0:Option Nat}{r:Bool}(b:BE g=some r) (H:ai) :AC Tryz.prog 58 [.d (Sl.d 5 Z7.c w0 g)] H fun v h'=>v=.a (.d (.bool r))/\h'=H:=by
 unfold BE lI at b;refine AC.oW 52 [.tmp 2] Tryz.call58 Tryz.func58 ?_;refine ag (S As (nil ?_));refine ay fun w o=>?_;refine ag (S Mv ?_);refine sLen (f:=Z7.c) (s:=g) (TK rfl) rfl rfl rfl rfl fun Q=>?_;refine S BI (S Mv (G0 Mv ?_));refine gC rfl rfl (fun hC=>aK (k:=8) rfl (cK (f:=Z7.c) (s:=g) (TK rfl) rfl rfl rfl)) rfl ?_;refine G1 9 rfl BI ?_;refine S PO (nil ?_);refine cE b (fun x b=>?_) (fun x b=>?_)
 ·refine ag (S As (nil ?_));exact rt b
 refine sk o ?_;clear o w;refine aQ kN (fun(z:Unit)=>[]) (fun z=>H) (fun z=>(some true)=some r) ?_ ?_
 ·intro R y;refine ag (S As (nil ?_));refine block ?_;obtain⟨p,q,b⟩:=b_ b;refine bA (TA 0 kN) (fun(z:Nat)=>[(3,.a (.d (.int .i64 ((z:Nat):Int))))]) (fun z=>H) (fun z=>g.l.length-z) (fun z=>Option.bind (ko  (g.l.drop z) ) p=some r) 0 b wA ?_;rintro i b U B;try dsimp only at b
  refine ay fun C t=>?_;refine ag (S Mv (S Mv ?_));refine sLen (f:=Z7.c) (s:=g) (TK rfl) rfl rfl rfl rfl fun W=>?_;refine S BI (nil ?_);refine ah.bN (fun l=>Option.bind (ko  l ) p=some r) b rfl (fun X j m b=>?_) (fun m b=>?_)
  ·rw [ko] at b;try dsimp only at m
   have Y:=oD m;refine sk t ?_;clear t C;refine ay fun E u=>?_;refine block ?_;refine ag (S Mv (S Mv ?_));obtain⟨Z,F,b⟩:=vO j b;refine S (ix Z7.c i F) (S Fv (S Ld ?_));obtain⟨aa,G,b⟩:=vO (jY _) b;refine Sc rfl rfl (jZ G) ?_;refine S NB (S Mv (G0 Mv (G0 Mv ?_)));obtain⟨ab,I,b⟩:=eH (fun _=>j) b;refine gC rfl rfl (fun hC=>aK (k:=26) rfl (aK (k:=27) rfl (ee (f:=Z7.c) (n:=i) (TK rfl) rfl (TK rfl) rfl rfl rfl (I hC)))) rfl ?_
   refine G1 28 rfl Fv ?_;refine G1 29 rfl Ld ?_;obtain⟨ad,J,b⟩:=eS (GJ _) b;refine dz 30 rfl rfl rfl rfl rfl (fun hC=>GK (J hC)) ?_;refine G1 31 rfl NB ?_;refine S PO (S Mv (G0 Mv (G0 Mv ?_)));obtain⟨ae,K,b⟩:=eH (fun _=>j) b;refine gC rfl rfl (fun hC=>aK (k:=35) rfl (aK (k:=36) rfl (ee (f:=Z7.c) (n:=i) (TK rfl) rfl (TK rfl) rfl rfl rfl (K hC)))) rfl ?_
   refine G1 37 rfl Fv ?_;refine G1 38 rfl Ld ?_;obtain⟨af,L,b⟩:=eS (GH _) b;refine dz 39 rfl rfl rfl rfl rfl (fun hC=>GI (L hC)) ?_;refine G1 40 rfl NB ?_;refine S PO (S Mv (G0 Mv (G0 Mv ?_)));obtain⟨aj,M,b⟩:=eH (fun _=>j) b;refine gC rfl rfl (fun hC=>aK (k:=44) rfl (aK (k:=45) rfl (ee (f:=Z7.c) (n:=i) (TK rfl) rfl (TK rfl) rfl rfl rfl (M hC)))) rfl ?_
   refine G1 46 rfl Fv ?_;refine G1 47 rfl Ld ?_;obtain⟨ak,N,b⟩:=eS (xR _) b;refine dz 48 rfl rfl rfl rfl rfl (fun hC=>xQ (N hC)) ?_;refine G1 49 rfl NB ?_;refine S PO (nil ?_);refine cO b (fun O b=>?_) (fun O b=>?_)
   ·refine ag (S As (nil ?_));refine ah.ret ?_;repeat (first|refine bF ?_|refine bG ?_)
    have b:=ku q b;obtain rfl:=oJ b;refine bn.bH H rfl ⟨rfl,rfl⟩ ?_;exact(fun _ _ h=>h)
   refine sk u ?_;clear u E;refine region ?_;refine S Mv ?_;refine SI ?_;refine S As (nil ?_);exact B _ (i+1) wA b (dl j)
  rw [ko] at b;have b:=ku q b;try dsimp only at b
  refine ah.exit ?_;obtain⟨al,P,b⟩:=bW b;have b:=ku P b;exact y _ () wA b
 rintro _ b;try dsimp only at b
 refine ag (S As (nil ?_));exact rt b
def pK (f:Bool):List Z9->Option (Unit ⊕ Bool)
 | []=>some (Sum.inl ())
 | g::j=>on (g) fun k=>on (d_ k.aa) fun b=>on (bif !(!b) then g else Z9.zero) fun m=>aR (!(!b)) (pI m.bp) false fun i=>on (bif (!((!b)||(!i))&&f) then g else Z9.zero) fun o=>bif (((!b)||(!i))||(f&&(decide ((0:Int)<((o.bp.l.length:Nat):Int))))) then(some (Sum.inr false)) else(pK f (j) )
def nZ (b:(Sl Z9)) (f:Bool):Option Bool:=bif ((decide (((b.l.length:Nat):Int)<(1:Int)))||(decide ((64:Int)<((b.l.length:Nat):Int)))) then(some false) else(Option.bind (pK f b.l ) fun g=>match g with|Sum.inl _=>(on (()) fun _=>some true)|Sum.inr i=>(some i))
def BF (f:(Sl Z9)) (b:Bool):Option Bool:=nZ f b
theorem GN (a0:(Sl Z9)) (b:Bool):BF a0 b=nZ a0 b:=rfl
theorem GO {g:Sl Z9}{i:Bool}{w0:Option Nat}{r:Bool}(b:BF g i=some r) (H:ai) :AC Tryz.prog 59 [.d (Sl.d 2 Z9.c w0 g),.d (.bool i)] H fun v h'=>v=.a (.d (.bool r))/\h'=H:=by
 unfold BF nZ at b;refine AC.oW 48 [.tmp 4] Tryz.call59 Tryz.func59 ?_;refine ag (S As (nil ?_));refine ay fun x p=>?_;refine ag (S Mv ?_);refine sLen (f:=Z9.c) (s:=g) (TK rfl) rfl rfl rfl rfl fun P=>?_;refine S BI (S Mv (G0 Mv ?_));refine gC rfl rfl (fun hC=>aK (k:=10) rfl (cK (f:=Z9.c) (s:=g) (TK rfl) rfl rfl rfl)) rfl ?_;refine G1 11 rfl BI ?_;refine S PO (nil ?_);refine cE b (fun y b=>?_) (fun y b=>?_)
 ·refine ag (S As (nil ?_));exact rt b
 refine sk p ?_;clear p x;refine aQ kN (fun(z:Unit)=>[]) (fun z=>H) (fun z=>(some true)=some r) ?_ ?_
 ·intro Q B;refine ag (S As (nil ?_));refine block ?_;obtain⟨q,t,b⟩:=b_ b;refine bA (TA 0 (TA 1 kN)) (fun(z:Nat)=>[(5,.a (.d (.int .i64 ((z:Nat):Int))))]) (fun z=>H) (fun z=>g.l.length-z) (fun z=>Option.bind (pK i (g.l.drop z) ) q=some r) 0 b wA ?_;rintro j b R C;try dsimp only at b
  refine ay fun E u=>?_;refine ag (S Mv (S Mv ?_));refine sLen (f:=Z9.c) (s:=g) (TK rfl) rfl rfl rfl rfl fun U=>?_;refine S BI (nil ?_);refine ah.bN (fun l=>Option.bind (pK i l ) q=some r) b rfl (fun W m o b=>?_) (fun o b=>?_)
  ·rw [pK] at b;try dsimp only at o
   have X:=oD o;refine sk u ?_;clear u E;refine ay fun F w=>?_;refine block ?_;refine ag (S Mv (S Mv ?_));obtain⟨Y,G,b⟩:=vO m b;refine S (ix Z9.c j G) (S Fv (S Ld ?_));obtain⟨Z,I,b⟩:=vO (jY _) b;refine Sc rfl rfl (jZ I) ?_;refine S NB (S Mv (G0 Mv (G0 Mv ?_)));obtain⟨aa,J,b⟩:=eH (fun _=>m) b;refine gC rfl rfl (fun hC=>aK (k:=28) rfl (aK (k:=29) rfl (ee (f:=Z9.c) (n:=j) (TK rfl) rfl (TK rfl) rfl rfl rfl (J hC)))) rfl ?_
   refine G1 30 rfl Fv ?_;refine G1 31 rfl Ld ?_;obtain⟨ab,K,b⟩:=eS (xR _) b;refine dz 32 rfl rfl rfl rfl rfl (fun hC=>xQ (K hC)) ?_;refine G1 33 rfl NB ?_;refine S PO (S Mv (G0 Mv ?_));refine G1 37 rfl Mv ?_;refine G0 Mv (G0 Mv ?_);obtain⟨L,M,b⟩:=eH (fun _=>m) b;refine gC rfl rfl (fun hC=>aK (k:=39) rfl (aK (k:=40) rfl (ee (f:=Z9.c) (n:=j) (TK rfl) rfl (TK rfl) rfl rfl rfl (M hC)))) rfl ?_
   refine G1 41 rfl Fv ?_;refine G1 42 rfl Ld ?_;refine gC rfl rfl (fun hC=>aK (k:=43) rfl (cK (f:=aC.c) (s:=L.bp) (TK rfl) rfl rfl rfl)) rfl ?_;refine G1 44 rfl BI ?_;refine gC rfl rfl (fun hC=>aK (k:=38) rfl (iM rfl rfl rfl)) rfl ?_;refine S PO (nil ?_);refine cO b (fun N b=>?_) (fun N b=>?_)
   ·refine ag (S As (nil ?_));refine ah.ret ?_;repeat (first|refine bF ?_|refine bG ?_)
    have b:=ku t b;obtain rfl:=oJ b;refine bn.bH H rfl ⟨rfl,rfl⟩ ?_;exact(fun _ _ h=>h)
   refine sk w ?_;clear w F;refine region ?_;refine S Mv ?_;refine SI ?_;refine S As (nil ?_);exact C _ (j+1) wA b (dl m)
  rw [pK] at b;have b:=ku t b;try dsimp only at b
  refine ah.exit ?_;obtain⟨ad,O,b⟩:=bW b;have b:=ku O b;exact B _ () wA b
 rintro _ b;try dsimp only at b
 refine ag (S As (nil ?_));exact rt b
def lJ :List Bs->Unit ⊕ Bool
 | []=>Sum.inl ()
 | b::f=>on (b) fun g=>on (d_ g) fun i=>bif (!i) then(Sum.inr false) else(lJ  (f) )
def iC (b:aj):Option Bool:=on (d_ b.aa) fun f=>aR (!(!f)) (pI b.bp) false fun g=>bif (((!f)||(!g))||(decide ((64:Int)<((b.aX.l.length:Nat):Int)))) then(some false) else(on (lJ  b.aX.l ) fun i=>match i with|Sum.inl _=>(on (()) fun _=>bif (decide (b.an=(1:Int))) then((lI b.aB).bind fun j=>some ((j&&(decide (((b.aG.l.length:Nat):Int)=(0:Int))))&&(decide (((b.aL.l.length:Nat):Int)=(0:Int))))) else(bif (decide (b.an=(2:Int))) then(aR ((decide (((b.aX.l.length:Nat):Int)=(0:Int)))) (lI b.aB) false fun k=>some ((((decide (((b.aX.l.length:Nat):Int)=(0:Int)))&&k)&&(decide (((b.aG.l.length:Nat):Int)=(0:Int))))&&(decide (((b.aL.l.length:Nat):Int)=(0:Int))))) else(bif (decide (b.an=(3:Int))) then(aR (((decide (((b.aX.l.length:Nat):Int)=(0:Int)))&&(decide (((b.aB.l.length:Nat):Int)=(0:Int))))) (nZ b.aG true) false fun m=>some ((((decide (((b.aX.l.length:Nat):Int)=(0:Int)))&&(decide (((b.aB.l.length:Nat):Int)=(0:Int))))&&m)&&(decide (((b.aL.l.length:Nat):Int)=(0:Int))))) else(bif (decide (b.an=(4:Int))) then(aR (((decide (((b.aX.l.length:Nat):Int)=(0:Int)))&&(decide (((b.aB.l.length:Nat):Int)=(0:Int))))) (nZ b.aG false) false fun o=>some ((((decide (((b.aX.l.length:Nat):Int)=(0:Int)))&&(decide (((b.aB.l.length:Nat):Int)=(0:Int))))&&o)&&(decide (((b.aL.l.length:Nat):Int)=(0:Int))))) else(bif (decide (b.an=(5:Int))) then(aR (((((decide (((b.aX.l.length:Nat):Int)=(0:Int)))&&(decide (((b.aB.l.length:Nat):Int)=(0:Int))))&&(decide (((b.aG.l.length:Nat):Int)=(0:Int))))&&(decide ((0:Int)<((b.aL.l.length:Nat):Int))))) (mI b.aL) false fun p=>some (((((decide (((b.aX.l.length:Nat):Int)=(0:Int)))&&(decide (((b.aB.l.length:Nat):Int)=(0:Int))))&&(decide (((b.aG.l.length:Nat):Int)=(0:Int))))&&(decide ((0:Int)<((b.aL.l.length:Nat):Int))))&&p)) else(some false))))))|Sum.inr q=>(some q))
def BG (b:aj):Option Bool:=iC b
theorem Pp (a0:aj):BG a0=iC a0:=rfl
theorem Pq {g:aj}{r:Bool}(b:BG g=some r) (H:ai) :AC Tryz.prog 30 [.agg (aj.c g)] H fun v h'=>v=.a (.d (.bool r))/\h'=H:=by
 unfold BG iC at b;refine AC.oW 129 [.tmp 2] Tryz.call30 Tryz.func30 ?_;refine ag (S BX (S As (nil ?_)));refine ay fun F j=>?_;refine ag (S Fv (S Ld ?_));obtain⟨al,G,b⟩:=vT (jY _) b;refine Sc rfl rfl (jZ G) ?_;refine S NB (S Mv (G0 Fv ?_));refine G1 13 rfl Ld ?_;obtain⟨am,I,b⟩:=dQ (xR _) b;refine dz 14 rfl rfl rfl rfl rfl (fun hC=>xQ (I hC)) ?_;refine G1 15 rfl NB ?_
 refine S PO (S Mv (G0 Fv ?_));refine G1 19 rfl Ld ?_;refine gC rfl rfl (fun hC=>aK (k:=20) rfl (cK (f:=aO) (s:=g.aX) (TK rfl) rfl rfl rfl)) rfl ?_;refine G1 21 rfl BI ?_;refine S PO (nil ?_);refine cE b (fun J b=>?_) (fun J b=>?_)
 ·refine ag (S As (nil ?_));exact rt b
 refine sk j ?_;clear j F;refine aQ (TA 1 kN) (fun(z:Unit)=>[]) (fun z=>H) (fun z=>(bif (decide (g.an=(1:Int))) then((lI g.aB).bind fun m=>some ((m&&(decide (((g.aG.l.length:Nat):Int)=(0:Int))))&&(decide (((g.aL.l.length:Nat):Int)=(0:Int))))) else(bif (decide (g.an=(2:Int))) then(aR ((decide (((g.aX.l.length:Nat):Int)=(0:Int)))) (lI g.aB) false fun o=>some ((((decide (((g.aX.l.length:Nat):Int)=(0:Int)))&&o)&&(decide (((g.aG.l.length:Nat):Int)=(0:Int))))&&(decide (((g.aL.l.length:Nat):Int)=(0:Int))))) else(bif (decide (g.an=(3:Int))) then(aR (((decide (((g.aX.l.length:Nat):Int)=(0:Int)))&&(decide (((g.aB.l.length:Nat):Int)=(0:Int))))) (nZ g.aG true) false fun p=>some ((((decide (((g.aX.l.length:Nat):Int)=(0:Int)))&&(decide (((g.aB.l.length:Nat):Int)=(0:Int))))&&p)&&(decide (((g.aL.l.length:Nat):Int)=(0:Int))))) else(bif (decide (g.an=(4:Int))) then(aR (((decide (((g.aX.l.length:Nat):Int)=(0:Int)))&&(decide (((g.aB.l.length:Nat):Int)=(0:Int))))) (nZ g.aG false) false fun q=>some ((((decide (((g.aX.l.length:Nat):Int)=(0:Int)))&&(decide (((g.aB.l.length:Nat):Int)=(0:Int))))&&q)&&(decide (((g.aL.l.length:Nat):Int)=(0:Int))))) else(bif (decide (g.an=(5:Int))) then(aR (((((decide (((g.aX.l.length:Nat):Int)=(0:Int)))&&(decide (((g.aB.l.length:Nat):Int)=(0:Int))))&&(decide (((g.aG.l.length:Nat):Int)=(0:Int))))&&(decide ((0:Int)<((g.aL.l.length:Nat):Int))))) (mI g.aL) false fun t=>some (((((decide (((g.aX.l.length:Nat):Int)=(0:Int)))&&(decide (((g.aB.l.length:Nat):Int)=(0:Int))))&&(decide (((g.aG.l.length:Nat):Int)=(0:Int))))&&(decide ((0:Int)<((g.aL.l.length:Nat):Int))))&&t)) else(some false))))))=some r) ?_ ?_
 ·intro ao K;refine ag (S As (nil ?_));refine block ?_;obtain⟨u,w,b⟩:=bW b;refine bA (TA 1 kN) (fun(z:Nat)=>[(3,.a (.d (.int .i64 ((z:Nat):Int))))]) (fun z=>H) (fun z=>g.aX.l.length-z) (fun z=>u (lJ  (g.aX.l.drop z) )=some r) 0 b wA ?_;rintro x b ap L;try dsimp only at b
  refine ay fun M y=>?_;refine ag (S Mv (S Fv (S Ld ?_)));refine sLen (f:=aO) (s:=g.aX) (TK rfl) rfl rfl rfl rfl fun aq=>?_;refine S BI (nil ?_);refine ah.bN (fun l=>u (lJ  l )=some r) b rfl (fun aw B i b=>?_) (fun i b=>?_)
  ·rw [lJ] at b;try dsimp only at i
   have ax:=oD i;refine sk y ?_;clear y M;refine ay fun N C=>?_;refine block ?_;refine ag (S Fv (S Ld (S Mv ?_)));obtain⟨az,O,b⟩:=vP B b;refine S (ix aO x O) (S Ld ?_);obtain⟨aA,P,b⟩:=vP (jY _) b;refine Sc rfl rfl (jZ P) ?_;refine S NB (nil ?_);refine cP b (fun Q b=>?_) (fun Q b=>?_)
   ·refine ag (S As (nil ?_));refine ah.ret ?_;repeat (first|refine bF ?_|refine bG ?_)
    have b:=ku w b;obtain rfl:=oJ b;refine bn.bH H rfl ⟨rfl,rfl⟩ ?_;exact(fun _ _ h=>h)
   refine sk C ?_;clear C N;refine region ?_;refine S Mv ?_;refine SI ?_;refine S As (nil ?_);exact L _ (x+1) wA b (dl B)
  rw [lJ] at b;have b:=ku w b;try dsimp only at b
  refine ah.exit ?_;obtain⟨aC,R,b⟩:=bW b;have b:=ku R b;exact K _ () wA b
 rintro _ b;try dsimp only at b
 refine ah.cr (Sd Fv (Sd Ld ?_));refine au.s0 (cK (f:=aO) (s:=g.aX) (TK rfl) rfl rfl rfl) rfl ?_;refine Sd BI (Sd Fv (Sd Ld ?_));refine au.s0 (cK (f:=Z7.c) (s:=g.aB) (TK rfl) rfl rfl rfl) rfl ?_;refine Sd BI (Sd Fv (Sd Ld ?_));refine au.s0 (cK (f:=Z9.c) (s:=g.aG) (TK rfl) rfl rfl rfl) rfl ?_;refine Sd BI (Sd Fv (Sd Ld ?_));refine au.s0 (cK (f:=Z8.c) (s:=g.aL) (TK rfl) rfl rfl rfl) rfl ?_
 refine Sd BI (Sd As (Sd As (Sd As (Sd As ?_))));refine au.nil (by decide +kernel) ?_;refine ay fun U E=>?_;refine ag (S Fv (S Ld (nil ?_)));refine block ?_;refine ag (S BI (S As (nil ?_)));refine cE b (fun W b=>?_) (fun W b=>?_)
 ·refine ag (S Fv (S Ld ?_));obtain⟨m,X,b⟩:=qT (GL _) b;refine Sc rfl rfl (GM X) ?_;refine S Mv (G0 Mv (S PA (S Mv (G0 Mv (S PA (S As (nil ?_)))))));exact rt b
 refine ag (S BI (S As (nil ?_)));refine cE b (fun Y b=>?_) (fun Y b=>?_)
 ·refine ag (S Mv (S Mv (G0 Fv ?_)));refine G1 71 rfl Ld ?_;obtain⟨o,Z,b⟩:=dQ (GL _) b;refine dz 72 rfl rfl rfl rfl rfl (fun hC=>GM (Z hC)) ?_;refine S PA (S Mv (G0 Mv (S PA (S Mv (G0 Mv (S PA (S As (nil ?_))))))));exact rt b
 refine ag (S BI (S As (nil ?_)));refine cE b (fun aa b=>?_) (fun aa b=>?_)
 ·refine ag (S Mv (S Mv (G0 Mv (S PA (S Mv (G0 Fv ?_))))));refine G1 88 rfl Ld ?_;obtain⟨p,ab,b⟩:=dQ (GN _ _) b;refine dz 89 rfl rfl rfl rfl rfl (fun hC=>GO (ab hC)) ?_;refine S PA (S Mv (G0 Mv (S PA (S As (nil ?_)))));exact rt b
 refine ag (S BI (S As (nil ?_)));refine cE b (fun ad b=>?_) (fun ad b=>?_)
 ·refine ag (S Mv (S Mv (G0 Mv (S PA (S Mv (G0 Fv ?_))))));refine G1 102 rfl Ld ?_;obtain⟨q,ae,b⟩:=dQ (GN _ _) b;refine dz 103 rfl rfl rfl rfl rfl (fun hC=>GO (ae hC)) ?_;refine S PA (S Mv (G0 Mv (S PA (S As (nil ?_)))));exact rt b
 refine ag (S BI (S As (nil ?_)));refine cE b (fun af b=>?_) (fun af b=>?_)
 ·refine ag (S Mv (S Mv (G0 Mv (S PA (S Mv (G0 Mv (S PA (S Mv (G0 Fv ?_)))))))));refine G1 119 rfl Ld ?_;refine gC rfl rfl (fun hC=>aK (k:=120) rfl (cK (f:=Z8.c) (s:=g.aL) (TK rfl) rfl rfl rfl)) rfl ?_;refine G1 121 rfl BI ?_;refine S PA (S Mv (G0 Fv ?_));refine G1 125 rfl Ld ?_;obtain⟨t,ak,b⟩:=dQ (GJ _) b;refine dz 126 rfl rfl rfl rfl rfl (fun hC=>GK (ak hC)) ?_;refine S PA (S As (nil ?_))
  exact rt b
 refine sk E ?_;clear E U;refine ag (S As (nil ?_));exact rt b
def lK :List aj->Option (Unit ⊕ Bool)
 | []=>some (Sum.inl ())
 | b::f=>on (b) fun g=>(iC g).bind fun i=>bif (!i) then(some (Sum.inr false)) else(lK  (f) )
def gW (b:ak):Option Bool:=bif ((decide (((b.aq.l.length:Nat):Int)<(1:Int)))||(decide ((64:Int)<((b.aq.l.length:Nat):Int)))) then(some false) else(Option.bind (lK  b.aq.l ) fun f=>match f with|Sum.inl _=>(on (()) fun _=>some true)|Sum.inr g=>(some g))
def BH (b:ak):Option Bool:=gW b
theorem Pr (a0:ak):BH a0=gW a0:=rfl
theorem Ps {g:ak}{r:Bool}(b:BH g=some r) (H:ai) :AC Tryz.prog 13 [.agg (ak.c g)] H fun v h'=>v=.a (.d (.bool r))/\h'=H:=by
 unfold BH gW at b;refine AC.oW 28 [.tmp 2] Tryz.call13 Tryz.func13 ?_;refine ag (S BX (S As (nil ?_)));refine ay fun w j=>?_;refine ag (S Fv (S Ld ?_));refine sLen (f:=aj.c) (s:=g.aq) (TK rfl) rfl rfl rfl rfl fun K=>?_;refine S BI (S Mv (G0 Fv ?_));refine G1 9 rfl Ld ?_;refine gC rfl rfl (fun hC=>aK (k:=10) rfl (cK (f:=aj.c) (s:=g.aq) (TK rfl) rfl rfl rfl)) rfl ?_
 refine G1 11 rfl BI ?_;refine S PO (nil ?_);refine cE b (fun x b=>?_) (fun x b=>?_)
 ·refine ag (S As (nil ?_));exact rt b
 refine sk j ?_;clear j w;refine aQ kN (fun(z:Unit)=>[]) (fun z=>H) (fun z=>(some true)=some r) ?_ ?_
 ·intro L y;refine ag (S As (nil ?_));refine block ?_;obtain⟨m,o,b⟩:=b_ b;refine bA (TA 1 kN) (fun(z:Nat)=>[(3,.a (.d (.int .i64 ((z:Nat):Int))))]) (fun z=>H) (fun z=>g.aq.l.length-z) (fun z=>Option.bind (lK  (g.aq.l.drop z) ) m=some r) 0 b wA ?_;rintro p b M B;try dsimp only at b
  refine ay fun C q=>?_;refine ag (S Mv (S Fv (S Ld ?_)));refine sLen (f:=aj.c) (s:=g.aq) (TK rfl) rfl rfl rfl rfl fun N=>?_;refine S BI (nil ?_);refine ah.bN (fun l=>Option.bind (lK  l ) m=some r) b rfl (fun O t i b=>?_) (fun i b=>?_)
  ·rw [lK] at b;try dsimp only at i
   have P:=oD i;refine sk q ?_;clear q C;refine ay fun E u=>?_;refine block ?_;refine ag (S Fv (S Ld (S Mv ?_)));obtain⟨Q,F,b⟩:=vO t b;refine S (ix aj.c p F) (S Ld ?_);obtain⟨R,G,b⟩:=qO (Pp _) b;refine Sc rfl rfl (Pq G) ?_;refine S NB (nil ?_);refine cO b (fun I b=>?_) (fun I b=>?_)
   ·refine ag (S As (nil ?_));refine ah.ret ?_;repeat (first|refine bF ?_|refine bG ?_)
    have b:=ku o b;obtain rfl:=oJ b;refine bn.bH H rfl ⟨rfl,rfl⟩ ?_;exact(fun _ _ h=>h)
   refine sk u ?_;clear u E;refine region ?_;refine S Mv ?_;refine SI ?_;refine S As (nil ?_);exact B _ (p+1) wA b (dl t)
  rw [lK] at b;have b:=ku o b;try dsimp only at b
  refine ah.exit ?_;obtain⟨U,J,b⟩:=bW b;have b:=ku J b;exact y _ () wA b
 rintro _ b;try dsimp only at b
 refine ag (S As (nil ?_));exact rt b
def tL (f:ak):Option Bool:=(tG f).bind fun b=>aR ((!b)) (gW f) false fun g=>aR (((!b)&&g)) (tF f) (Sl.nil:Sl Z6) fun i=>some (((!b)&&g)&&(decide (((i.l.length:Nat):Int)=(0:Int))))
def BJ (b:ak):Option Bool:=tL b
theorem Pt (a0:ak):BJ a0=tL a0:=rfl
theorem Pu {g:ak}{r:Bool}(b:BJ g=some r) (H:ai) :AC Tryz.prog 5 [.agg (ak.c g)] H fun v h'=>v=.a (.d (.bool r))/\h'=H:=by
 unfold BJ tL at b;refine AC.oW 16 [.tmp 2] Tryz.call5 Tryz.func5 ?_;refine ag (S BX (S As (nil ?_)));refine ag (S Ld ?_);obtain⟨o,i,b⟩:=qT (O4 _) b;refine Sc rfl rfl (O5 i) ?_;refine S NB (S Mv (G0 Ld ?_));obtain⟨p,j,b⟩:=dQ (Pr _) b;refine dz 7 rfl rfl rfl rfl rfl (fun hC=>Ps (j hC)) ?_;refine S PA (S Mv (G0 Ld ?_));obtain⟨l,m,b⟩:=dQ (OZ _) b
 refine dz 11 rfl rfl rfl rfl rfl (fun hC=>O3 (m hC)) ?_;refine gC rfl rfl (fun hC=>aK (k:=12) rfl (cK (f:=Z6.c) (s:=l) (TK rfl) rfl rfl rfl)) rfl ?_;refine G1 13 rfl BI ?_;refine S PA (S As (nil ?_));exact rt b
def kr (f:Bs):List Bs->Nat->Unit ⊕ Int
 | [],b=>Sum.inl ()
 | g::i,b=>on (g) fun j=>bif ((f==j)) then(Sum.inr ((b:Nat):Int)) else(kr f (i) (b+1) )
def lM (i:(Sl Bs)) (b:Bs):Int:=on (kr b i.l 0 ) fun f=>match f with|Sum.inl _=>(on (()) fun _=>(-1:Int))|Sum.inr g=>(g)
def BK (f:(Sl Bs)) (b:Bs):Option Int:=some (lM f b)
theorem GP (a0:(Sl Bs)) (b:Bs):BK a0 b=some (lM a0 b):=rfl
theorem GQ {g:Sl Bs}{i:Bs}{w0:Option Nat}{r:Int}(b:BK g i=some r) (H:ai) :AC Tryz.prog 48 [.d (Sl.d 1 aO w0 g),.d (.str i)] H fun v h'=>v=.a (.d (.int .i64 r))/\h'=H:=by
 unfold BK lM at b;refine AC.oW 19 [.tmp 4] Tryz.call48 Tryz.func48 ?_;refine ag (S As (nil ?_));refine aQ kN (fun(z:Unit)=>[]) (fun z=>H) (fun z=>some ((-1:Int))=some r) ?_ ?_
 ·intro F u;refine ag (S Mv ?_);refine sLen (f:=aO) (s:=g) (TK rfl) rfl rfl rfl rfl fun G=>?_;refine S Mv (nil ?_);refine block ?_;obtain⟨m,o,b⟩:=eL b;refine bA (TA 0 (TA 1 (TA 7 kN))) (fun(z:Nat)=>[(8,.a (.d (.int .i64 ((z:Nat):Int))))]) (fun z=>H) (fun z=>g.l.length-z) (fun z=>m (kr i (g.l.drop z) z )=some r) 0 b wA ?_;rintro j b I w;try dsimp only at b
  refine ag (S BI (nil ?_));refine ay fun x p=>?_;refine ah.bN (fun l=>m (kr i l j )=some r) b rfl (fun J q k b=>?_) (fun k b=>?_)
  ·rw [kr] at b;try dsimp only at k
   have K:=oD k;refine sk p ?_;clear p x;refine ay fun y t=>?_;refine block ?_;refine ag (S Mv (S As (nil ?_)));refine ag (S Mv (S Mv (S Mv ?_)));obtain⟨L,B,b⟩:=vP q b;refine S (ix aO j B) (S Ld (S BS (nil ?_)));refine cP b (fun C b=>?_) (fun C b=>?_)
   ·refine ag (S Mv (S As (nil ?_)));refine ah.ret ?_;repeat (first|refine bF ?_|refine bG ?_)
    have b:=ku o b;obtain rfl:=oJ b;refine bn.bH H rfl ⟨rfl,rfl⟩ ?_;exact(fun _ _ h=>h)
   refine sk t ?_;clear t y;refine region ?_;refine SI ?_;refine S Mv (nil ?_);exact w _ (j+1) wA b (dl q)
  rw [kr] at b;have b:=ku o b;try dsimp only at b
  refine ah.exit ?_;obtain⟨M,E,b⟩:=eL b;have b:=ku E b;exact u _ () wA b
 rintro _ b;try dsimp only at b
 refine ag (S As (nil ?_));exact rt b
def lN (g:(Sl Bs)) (b:Bs):Bool:=on (lM g b) fun f=>(decide ((0:Int)<=f))
def xS (f:(Sl Bs)) (b:Bs):Option Bool:=some (lN f b)
theorem vm (a0:(Sl Bs)) (b:Bs):xS a0 b=some (lN a0 b):=rfl
theorem tM {g:Sl Bs}{f:Bs}{w0:Option Nat}{r:Bool}(b:xS g f=some r) (H:ai) :AC Tryz.prog 23 [.d (Sl.d 1 aO w0 g),.d (.str f)] H fun v h'=>v=.a (.d (.bool r))/\h'=H:=by
 unfold xS lN at b;refine AC.oW 9 [.tmp 4] Tryz.call23 Tryz.func23 ?_;refine ag (S As (nil ?_));refine ag (S Mv (S Mv ?_));obtain⟨j,i,b⟩:=vP (GP _ _) b;refine Sc rfl rfl (GQ i) ?_;refine S BI (S As (nil ?_));exact rt b
def tN (b:Bs):List bQ->Unit ⊕ ((af×Bool))
 | []=>Sum.inl ()
 | g::i=>on (g) fun f=>bif ((f.aa==b)) then(Sum.inr (f.gh,true)) else(tN b (i) )
def lP (i:aC) (b:Bs):(af×Bool):=on (tN b i.aH.l ) fun f=>match f with|Sum.inl _=>(on (()) fun _=>((af.mk (0:Int) (0:Int) ([]:Bs) true ([]) (Sl.nil:Sl Bs)),false))|Sum.inr g=>(g)
def BL (f:aC) (b:Bs):Option (af×Bool):=some (lP f b)
theorem Pv (a0:aC) (b:Bs):BL a0 b=some (lP a0 b):=rfl
theorem Pw {g:aC}{i:Bs}{r:af×Bool}(b:BL g i=some r) (H:ai) :AC Tryz.prog 62 [.agg (aC.c g),.d (.str i)] H fun v h'=>v=.cF [.agg (af.c r.1),.d (.bool r.2)]/\h'=H:=by
 unfold BL lP at b;refine AC.oW 23 [.cell 4 61,.tmp 5] Tryz.call62 Tryz.func62 ?_;refine ag (S BX ?_);refine Sl ?_;refine S As (nil ?_);refine eb (TA 4 kN) (fun(z:af)=>[]) (fun z=>[af.c z]) (fun z=>H) (fun z=>some (((af.mk (0:Int) (0:Int) ([]:Bs) true ([]) (Sl.nil:Sl Bs)),false))=some r) ?_ ?_
 ·intro G w;refine ag (S Fv (S Ld ?_));refine sLen (f:=bQ.c) (s:=g.aH) (TK rfl) rfl rfl rfl rfl fun I=>?_;refine S Mv (nil ?_);refine block ?_;obtain⟨k,m,b⟩:=eL b;refine gb (TA 1 (TA 4 (TA 9 (TA 10 kN)))) (fun(z:Nat×af)=>[(11,.a (.d (.int .i64 ((z.1:Nat):Int))))]) (fun z=>[af.c z.2]) (fun z=>H) (fun z=>g.aH.l.length-z.1) (fun z=>k (tN i (g.aH.l.drop z.1) )=some r) (0,af.zero) b wA ?_
  rintro ⟨o,p⟩ b J x;try dsimp only at b
  refine ag (S BI (nil ?_));refine ay fun y q=>?_;refine ah.bN (fun l=>k (tN i l )=some r) b rfl (fun K t j b=>?_) (fun j b=>?_)
  ·rw [tN] at b;try dsimp only at j
   have L:=oD j;refine sk q ?_;clear q y;refine ay fun B u=>?_;refine block ?_;refine ag ?_;obtain⟨M,C,b⟩:=vP t b;refine S (ix bQ.c o C) (S Ld ?_);refine Sl ?_;refine Sf ?_;refine nil ?_;refine bu 7 _ rfl (KA 1 (KA 4 (KA 9 (KA 10 (KA 11 aS.nil))))) ?_;refine ag (S Fv (S Ld (S Mv (S BS (nil ?_)))));refine cP b (fun E b=>?_) (fun E b=>?_)
   ·refine ag (S Fv (S Ld ?_));refine Sf ?_;refine S As (nil ?_);refine ah.ret ?_;repeat (first|refine bF ?_|refine bG ?_)
    have b:=ku m b;obtain rfl:=oJ b;refine bn.bH H rfl ⟨rfl,rfl⟩ ?_;exact(fun _ _ h=>h)
   refine sk u ?_;clear u B;refine region ?_;refine SI ?_;refine S Mv (nil ?_);exact x _ ((o+1),p) wA b (dl t)
  rw [tN] at b;have b:=ku m b;try dsimp only at b
  refine ah.exit ?_;obtain⟨N,F,b⟩:=eL b;have b:=ku F b;exact w _ p wA b
 rintro O b;try dsimp only at b
 refine ag (S BU ?_);refine Sf ?_;refine S As (nil ?_);exact rt b
def n9 (f:Bs) (j:Bs):List aC->(Sl af)->Option ((Sl af))
 | [],b=>some b
 | k::l,b=>on (k) fun g=>on (lP g j) fun i=>Option.bind (bif (i.2&&((g.aa==f))) then((aW 80 b (⟨false,[i.1]⟩:Sl af)).bind fun m=>some m) else(some b)) fun o=>n9 f j (l) o
def vn (i:(Sl aC)) (b:Bs) (j:Bs):Option (Sl af):=Option.bind (n9 b j i.l (Sl.nil:Sl af)) fun f=>on (f) fun g=>some g
def BM (f:(Sl aC)) (b:Bs) (g:Bs):Option (Sl af):=vn f b g
theorem Px (a0:(Sl aC)) (b:Bs) (a2:Bs):BM a0 b a2=vn a0 b a2:=rfl
theorem Py {i:Sl aC}{j k:Bs}{w0:Option Nat}{r:Sl af}(b:BM i j k=some r) (H:ai) :AC Tryz.prog 33 [.d (Sl.d 2 aC.c w0 i),.d (.str j),.d (.str k)] H fun v h'=>v=.a (.d (Sl.d 5 af.c none r))/\h'=H:=by
 unfold BM vn at b;refine AC.oW 37 [.tmp 6] Tryz.call33 Tryz.func33 ?_;refine ah.tok 5 fun g t=>?_;refine ag ?_;refine s0 (dR (k':=5) rfl) rfl ?_;refine nil ?_;refine ag (S As (nil ?_));refine ah.fJ 7 5 g rfl av ?_;refine aQ kN (fun(z:(Sl af))=>[(7,.a (.d (Sl.d 5 af.c (some g) z)))]) (fun z=>(H.set g (some (.tok 5 z.l.length)))) (fun z=>(some z)=some r) ?_ ?_
 ·intro O C;refine ag (S Mv ?_);refine sLen (f:=aC.c) (s:=i) (TK rfl) rfl rfl rfl rfl fun P=>?_;refine S Mv (nil ?_);refine block ?_;obtain⟨m,E,b⟩:=b_ b;refine bA (TA 1 (TA 2 (TA 12 (TA 13 kN)))) (fun(z:(Sl af)×Nat)=>[(7,.a (.d (Sl.d 5 af.c (some g) z.1))),(14,.a (.d (.int .i64 ((z.2:Nat):Int))))]) (fun z=>(H.set g (some (.tok 5 z.1.l.length)))) (fun z=>i.l.length-z.2) (fun z=>Option.bind (n9 j k (i.l.drop z.2) z.1) m=some r) ((Sl.nil:Sl af),0) b wA ?_
  rintro ⟨o,p⟩ b Q F;try dsimp only at b
  refine ag (S BI (nil ?_));refine ay fun G u=>?_;refine ah.bN (fun l=>Option.bind (n9 j k l o) m=some r) b rfl (fun R w q b=>?_) (fun q b=>?_)
  ·rw [n9] at b;try dsimp only at q
   have U:=oD q;refine sk u ?_;clear u G;refine aQ (TA 1 (TA 2 (TA 12 (TA 13 (TA 14 kN))))) (fun(z:(Sl af))=>[(7,.a (.d (Sl.d 5 af.c (some g) z)))]) (fun z=>(H.set g (some (.tok 5 z.l.length)))) (fun z=>Option.bind (n9 j k (i.l.drop (p+1)) z) m=some r) ?_ ?_
   ·intro W x;refine block ?_;refine ag ?_;obtain⟨X,I,b⟩:=vO w b;refine S (ix aC.c p I) (S Ld ?_);refine Sl ?_;refine Sf ?_;refine nil ?_;refine bu 9 _ rfl (KA 1 (KA 2 (KA 7 (KA 12 (KA 13 (KA 14 aS.nil)))))) ?_;refine ag (S Ld (S Mv ?_));obtain⟨Y,J,b⟩:=vO (Pv _ _) b;refine Sc rfl rfl (Pw J) ?_;refine S Mv (S EX (S EX ?_));refine Sl ?_;refine Sf ?_
    refine S As (nil ?_);refine bu 10 _ rfl (KA 1 (KA 2 (KA 7 (KA 9 (KA 11 (KA 12 (KA 13 (KA 14 aS.nil)))))))) ?_;refine ag (S Mv (S Mv (G0 Fv ?_)));refine G1 26 rfl Ld ?_;refine G0 Mv ?_;refine G2 27 28 rfl rfl BS ?_;refine S PA (nil ?_);obtain⟨Z,y,b⟩:=dI b;refine cO b (fun K b=>?_) (fun K b=>?_)
    ·refine region ?_;refine S Mv (S Ld (S BV ?_));obtain⟨B,L,b⟩:=qO rfl b;refine SH (am af.c (TK rfl) rfl (TK rfl) (TK rfl) L) ?_;refine hq (H.set g (some (.tok 5 B.l.length))) ?_;refine S As (nil ?_);have b:=ku y b;exact x _ B wA b
    refine ah.skip ?_;have b:=ku y b;exact x _ o wA b
   rintro M b;try dsimp only at b
   refine region ?_;refine SI ?_;refine S Mv (nil ?_);exact F _ (M,(p+1)) wA b (dl w)
  rw [n9] at b;have b:=ku E b;refine ah.exit ?_;obtain⟨aa,N,b⟩:=bW b;have b:=ku N b;exact C _ o wA b
 rintro ab b;try dsimp only at b
 refine ag (S Mv (S As (nil ?_)));refine ah.dU 6 rfl ?_;refine ah.ret ?_;repeat (first|refine bF ?_|refine bG ?_)
 obtain rfl:=oJ b;refine bn.bH H rfl ⟨rfl,rfl⟩ ?_
 first|exact ai.cm t|(simp only [ai.set_set]; exact ai.cm t)
def oa :List af->(Sl Bs)->Option ((Sl Bs))
 | [],b=>some b
 | g::i,b=>on (g) fun f=>on (bif (decide (f.an=(3:Int))) then lN b f.bg else false) fun j=>Option.bind (bif ((decide (f.an=(3:Int)))&&(!j)) then((aW 16 b (⟨false,[f.bg]⟩:Sl Bs)).bind fun k=>some k) else(some b)) fun l=>oa  (i) l
def pL (i:(Sl aC)):Option (Sl Bs):=(vn i ([116,97,103]:Bs) ([110,97,109,101]:Bs)).bind fun b=>Option.bind (oa  b.l (Sl.nil:Sl Bs)) fun f=>on (f) fun g=>some g
def xT (b:(Sl aC)):Option (Sl Bs):=pL b
theorem xU (a0:(Sl aC)):xT a0=pL a0:=rfl
theorem xV {y:Sl aC}{w0:Option Nat}{r:Sl Bs}(b:xT y=some r) (H:ai) :AC Tryz.prog 16 [.d (Sl.d 2 aC.c w0 y)] H fun v h'=>v=.a (.d (Sl.d 1 aO none r))/\h'=H:=by
 unfold xT pL at b;refine AC.oW 30 [.tmp 2] Tryz.call16 Tryz.func16 ?_;refine ah.tok 1 fun g p=>?_;refine ag ?_;refine s0 (dR (k':=1) rfl) rfl ?_;refine nil ?_;refine ag (S As (nil ?_));refine ah.fJ 3 1 g rfl av ?_;refine aQ kN (fun(z:(Sl Bs))=>[(3,.a (.d (Sl.d 1 aO (some g) z)))]) (fun z=>(H.set g (some (.tok 1 z.l.length)))) (fun z=>(some z)=some r) ?_ ?_
 ·intro O B;refine ag (S Mv ?_);obtain⟨i,C,b⟩:=qT (Px _ _ _) b;refine Sc rfl rfl (Py C) ?_;refine sLen (f:=af.c) (s:=i) (TK rfl) rfl rfl rfl rfl fun P=>?_;refine S Mv (nil ?_);refine block ?_;obtain⟨j,E,b⟩:=b_ b;refine bA (TA 7 (TA 8 kN)) (fun(z:(Sl Bs)×Nat)=>[(3,.a (.d (Sl.d 1 aO (some g) z.1))),(9,.a (.d (.int .i64 ((z.2:Nat):Int))))]) (fun z=>(H.set g (some (.tok 1 z.1.l.length)))) (fun z=>i.l.length-z.2) (fun z=>Option.bind (oa  (i.l.drop z.2) z.1) j=some r) ((Sl.nil:Sl Bs),0) b wA ?_
  rintro ⟨k,m⟩ b Q F;try dsimp only at b
  refine ag (S BI (nil ?_));refine ay fun G q=>?_;refine ah.bN (fun l=>Option.bind (oa  l k) j=some r) b rfl (fun R t o b=>?_) (fun o b=>?_)
  ·rw [oa] at b;try dsimp only at o
   have U:=oD o;refine sk q ?_;clear q G;refine aQ (TA 7 (TA 8 (TA 9 kN))) (fun(z:(Sl Bs))=>[(3,.a (.d (Sl.d 1 aO (some g) z)))]) (fun z=>(H.set g (some (.tok 1 z.l.length)))) (fun z=>Option.bind (oa  (i.l.drop (m+1)) z) j=some r) ?_ ?_
   ·intro W u;refine block ?_;refine ag ?_;obtain⟨X,I,b⟩:=vO t b;refine S (ix af.c m I) (S Ld ?_);refine Sl ?_;refine Sf ?_;refine nil ?_;refine bu 5 _ rfl (KA 3 (KA 7 (KA 8 (KA 9 aS.nil)))) ?_;refine ag (S Fv (S Ld (S BI (S Mv (G0 Mv (G0 Fv ?_))))));refine G1 18 rfl Ld ?_;obtain⟨Y,J,b⟩:=eH (fun _=>(vm _ _)) b;refine fw 17 19 rfl rfl rfl rfl rfl rfl (fun hC=>tM (J hC)) ?_
    refine G1 20 rfl NB ?_;refine S PA (nil ?_);obtain⟨Z,w,b⟩:=dI b;refine cO b (fun K b=>?_) (fun K b=>?_)
    ·refine region ?_;refine S Mv (S Fv (S Ld (S BV ?_)));obtain⟨x,L,b⟩:=qO rfl b;refine SH (am aO (TK rfl) rfl (TK rfl) (TK rfl) L) ?_;refine hq (H.set g (some (.tok 1 x.l.length))) ?_;refine S As (nil ?_);have b:=ku w b;exact u _ x wA b
    refine ah.skip ?_;have b:=ku w b;exact u _ k wA b
   rintro M b;try dsimp only at b
   refine region ?_;refine SI ?_;refine S Mv (nil ?_);exact F _ (M,(m+1)) wA b (dl t)
  rw [oa] at b;have b:=ku E b;refine ah.exit ?_;obtain⟨aa,N,b⟩:=bW b;have b:=ku N b;exact B _ k wA b
 rintro ab b;try dsimp only at b
 refine ag (S Mv (S As (nil ?_)));refine ah.dU 2 rfl ?_;refine ah.ret ?_;repeat (first|refine bF ?_|refine bG ?_)
 obtain rfl:=oJ b;refine bn.bH H rfl ⟨rfl,rfl⟩ ?_
 first|exact ai.cm p|(simp only [ai.set_set]; exact ai.cm p)
def tO  :Option Int:=some (-1:Int)
def pM (f:(Sl Bs)) (g:(Bs->Option Bool)) :Nat->Nat->Option Int
 | 0,_=>none
 | i+1,b=>bif (decide (((b:Nat):Int)<((f.l.length:Nat):Int))) then((f.l[b]?).bind fun j=>(g j).bind fun k=>bif k then(some ((b:Nat):Int)) else((pM f g i) (b+1))) else(tO   )
def q_ (b:(Sl Bs)) (f:(Bs->Option Bool)):Option Int:=pM b f (b.l.length+1) 0
theorem GR {g:Sl Bs}{i:Bs->Option Bool}{w0:Option Nat}{m:D}{r:Int}(b:q_ g i=some r) (H:ai) (u:∀o r,i o=some r->k7 Tryz.prog m [.d (.str o)] H fun v h'=>v=.a (.d (.bool r))/\h'=H):AC Tryz.prog 61 [.d (Sl.d 1 aO w0 g),.d m] H fun v h'=>v=.a (.d (.int .i64 r))/\h'=H:=by
 unfold q_ at b;refine AC.oW 19 [.tmp 4] Tryz.call61 Tryz.func61 ?_;refine ag (S As (nil ?_));refine aQ kN (fun(z:Unit)=>[]) (fun z=>H) (fun z=>tO =some r) ?_ ?_
 ·intro G w;refine ag (S Mv ?_);refine sLen (f:=aO) (s:=g) (TK rfl) rfl rfl rfl rfl fun I=>?_;refine S Mv (nil ?_);refine block ?_;refine bA (TA 0 (TA 1 (TA 7 kN))) (fun(z:Nat×Nat)=>[(8,.a (.d (.int .i64 ((z.2:Nat):Int))))]) (fun z=>H) (fun z=>z.1) (fun z=>pM g i z.1 z.2=some r) ((g.l.length+1),0) b wA ?_;rintro ⟨j,p⟩ b J x;try dsimp only at b
  cases j with
  | zero=>cases b
  | succ j =>
    rw [pM] at b;refine ag (S BI (nil ?_));refine ay fun y q=>?_;refine cE b (fun k b=>?_) (fun k b=>?_)
    ·try dsimp only at k
     have K:=oD k;refine sk q ?_;clear q y;refine ay fun B t=>?_;refine block ?_;refine ag (S Mv (S As (nil ?_)));refine ag (S Mv (S Mv (S Mv ?_)));obtain⟨L,C,b⟩:=bO b;refine S (ix aO p C) (S Ld ?_);obtain⟨M,E,b⟩:=bO b;refine s0 (Ag rfl rfl (u _ _ E)) rfl ?_;refine nil ?_;refine cE b (fun F b=>?_) (fun F b=>?_)
     ·refine ag (S Mv (S As (nil ?_)));exact rt b
     refine sk t ?_;clear t B;refine region ?_;refine SI ?_;refine S Mv (nil ?_);exact x _ (j,(p+1)) wA b (nS _)
    refine ah.exit ?_;exact w _ () wA b
 rintro _ b;try dsimp only at b
 unfold tO at b;refine ag (S As (nil ?_));exact rt b
def rf (f:(Bs->Bool)):List Bs->Nat->Unit ⊕ Int
 | [],b=>Sum.inl ()
 | g::i,b=>on (g) fun j=>on (f j) fun k=>bif k then(Sum.inr ((b:Nat):Int)) else(rf f (i) (b+1) )
theorem Pz {g:Sl Bs}{j:Bs->Bool}(i:(Unit ⊕ Int)->Option Int) (m:∀(f:Nat) (b:Nat),tO   =i (Sum.inl ())) (o:∀e:Int,some e=i (Sum.inr e)):∀(f:Nat) (b:Nat),(0<f/\g.l.length<b+f)->pM g (fun p=>some (j p)) f b=i (rf j (g.l.drop b) b ):=by
 intro f;induction f with
 | zero=>intro b hn; exact absurd hn.1 (by omega)
 | succ f q =>
  intro b hn;rw [pM];by_cases bw:b<g.l.length
  ·obtain⟨r,k⟩:=Qa bw;rw [Q.k8 k,rf];refine QT bw ?_;refine Q.nD k fun s t=>?_;refine Q.nD rfl fun u v=>?_;refine Q.uY ?_ ?_
   ·all_goals exact o _
   all_goals exact q _ ⟨by omega,by omega⟩
  rw [dL (by omega),rf];refine QF bw ?_;exact m f b
def vp (i:(Sl Bs)) (b:(Bs->Bool)):Int:=on (rf b i.l 0 ) fun f=>match f with|Sum.inl _=>(on (()) fun _=>(-1:Int))|Sum.inr g=>(g)
theorem PB (a0:(Sl Bs)) (b:(Bs->Bool)):q_ a0 (fun g=>some (b g))=some (vp a0 b):=by
 unfold q_ vp;refine Q.sZ fun i f=>?_;refine Pz  i ?_ ?_ _ _ ⟨Nat.succ_pos _,by omega⟩
 ·intro m o;refine Qe (f _) ?_;try dsimp only
  refine Q.sZ fun j k=>?_;have l:tO  =j ():=by
   refine Qe (k _) ?_;unfold tO;all_goals rfl
  all_goals exact l
 intro p;refine Qe (f _) ?_;try dsimp only
 all_goals rfl
def vq (g:(Sl Bs)) (b:(Bs->Option Bool)):Option Bool:=(q_ g b).bind fun f=>some (decide ((0:Int)<=f))
theorem PC {j:Sl Bs}{f:Bs->Option Bool}{w0:Option Nat}{g:D}{r:Bool}(b:vq j f=some r) (H:ai) (k:∀i r,f i=some r->k7 Tryz.prog g [.d (.str i)] H fun v h'=>v=.a (.d (.bool r))/\h'=H):AC Tryz.prog 31 [.d (Sl.d 1 aO w0 j),.d g] H fun v h'=>v=.a (.d (.bool r))/\h'=H:=by
 unfold vq at b;refine AC.oW 9 [.tmp 4] Tryz.call31 Tryz.func31 ?_;refine ag (S As (nil ?_));refine ag (S Mv (S Mv ?_));obtain⟨m,l,b⟩:=bO b;refine s0 (eu rfl rfl (GR l _ k)) rfl ?_;refine S BI (S As (nil ?_));exact rt b
def vr (g:(Sl Bs)) (b:(Bs->Bool)):Bool:=on (vp g b) fun f=>(decide ((0:Int)<=f))
theorem PD (a0:(Sl Bs)) (b:(Bs->Bool)):vq a0 (fun f=>some (b f))=some (vr a0 b):=by
 unfold vq vr;refine Q.nD (PB _ _) fun g i=>?_;all_goals rfl
def tP (g:Bs) (b:(Sl Bs)):Bool:=on (lN b g) fun f=>f
def xW (f:Bs) (b:(Sl Bs)):Option Bool:=some (tP f b)
theorem PE (a0:Bs) (b:(Sl Bs)):xW a0 b=some (tP a0 b):=rfl
theorem PF {g:Bs}{f:Sl Bs}{r:Bool}(b:xW g f=some r) (H:ai) :AC Tryz.prog 32 [.d (.str g),.d (.view ((fun s=>[Sl.d 1 aO none s]) f))] H fun v h'=>v=.a (.d (.bool r))/\h'=H:=by
 unfold xW tP at b;refine AC.oW 7 [.tmp 3] Tryz.call32 Tryz.func32 ?_;refine ag (S As (nil ?_));refine ag (S Ld (S Mv ?_));obtain⟨j,i,b⟩:=vP (vm _ _) b;refine Sc rfl rfl (tM i) ?_;refine S As (nil ?_);exact rt b
def oc (i:(Sl Bs)) (b:(Sl Bs)):Bool:=on (vr i (fun f=>tP f b)) fun g=>g
def xX (f:(Sl Bs)) (b:(Sl Bs)):Option Bool:=some (oc f b)
theorem BN (a0:(Sl Bs)) (b:(Sl Bs)):xX a0 b=some (oc a0 b):=rfl
theorem BO {g f:Sl Bs}{w0 i:Option Nat}{r:Bool}(b:xX g f=some r) (H:ai) :AC Tryz.prog 15 [.d (Sl.d 1 aO w0 g),.d (Sl.d 1 aO i f)] H fun v h'=>v=.a (.d (.bool r))/\h'=H:=by
 unfold xX oc at b;refine AC.oW 8 [.tmp 4] Tryz.call15 Tryz.func15 ?_;refine ag ?_;refine aP.dU 1 rfl ?_;refine S BX (S As (nil ?_));refine ag (S Mv ?_);refine s0 (makeFunc rfl) rfl ?_;obtain⟨l,j,b⟩:=vP (o:=vq g (fun k=>xW k f)) (by simp only [PE,PD]) b;refine s0 (iJ rfl rfl (fun H=>PC j H (fun _ _ hx=>PF hx _))) rfl ?_;refine S As (nil ?_)
 exact rt b
def od (b:(Sl Bs)):Option (Sl Bs):=bif b.nl then(some (Sl.nil:Sl Bs)) else((aW 16 (⟨false,[]⟩:Sl Bs) b).bind fun f=>some f)
def BP (b:(Sl Bs)):Option (Sl Bs):=od b
theorem GS (a0:(Sl Bs)):BP a0=od a0:=rfl
theorem GU {i:Sl Bs}{w0:Option Nat}{r:Sl Bs}(b:BP i=some r) (H:ai) :AC Tryz.prog 34 [.d (Sl.d 1 aO w0 i)] H fun v h'=>v=.a (.d (Sl.d 1 aO none r))/\h'=H:=by
 unfold BP od at b;refine AC.oW 8 [.tmp 2] Tryz.call34 Tryz.func34 ?_;refine ag ?_;refine s0 (dR (k':=1) rfl) rfl ?_;refine nil ?_;refine ay fun j g=>?_;refine ag (S Mv ?_);refine s0 (Fe (TK rfl) rfl rfl) rfl ?_;refine nil ?_;refine cE b (fun k b=>?_) (fun k b=>?_)
 ·refine ag ?_;refine s0 (dR (k':=1) rfl) rfl ?_;refine nil ?_;exact rt b
 refine sk g ?_;clear g j;refine ag ?_;refine s0 (sP (TK rfl) rfl (TK rfl) rfl rfl rfl rfl rfl rfl) rfl ?_;refine S Mv ?_;obtain⟨m,l,b⟩:=qT rfl b;refine s0 (uV (f:=aO) (TK rfl) rfl (TK rfl) (TK rfl) ⟨_,rfl⟩ rfl rfl (by decide) rfl rfl rfl (by intro q h; cases h<;>decide) rfl rfl l) rfl ?_;refine S As (nil ?_);exact rt b
def lQ (f:af->Option af):List af->(Sl af)->Option ((Sl af))
 | [],b=>some b
 | g::i,b=>on (g) fun j=>(f j).bind fun k=>(aW 80 b (⟨false,[k]⟩:Sl af)).bind fun l=>lQ f (i) l
mutual
def iT:Nat->af->Option af
 | 0,_=>none
 | n+1,b=>((tQ n) b.aD).bind fun f=>(od b.aN).bind fun g=>some (af.mk b.an b.bl b.bg f.nl f.l g)
def tQ:Nat->(Sl af)->Option (Sl af)
 | 0,_=>none
 | n+1,g=>Option.bind (lQ (iT n) g.l (Sl.nil:Sl af)) fun b=>on (b) fun f=>some f
end
def xY (n:Nat):Prop:=∀{a0:af}   {r:af},iT n a0=some r->∀(H:ai),AC Tryz.prog 63 [.agg (af.c a0)] H fun v h'=>v=.a (.agg (af.c r))/\h'=H
def xZ (n:Nat):Prop:=∀{a0:(Sl af)}{w0:Option Nat}  {r:(Sl af)},tQ n a0=some r->∀(H:ai),AC Tryz.prog 100 [.d (Sl.d 5 af.c w0 a0)] H fun v h'=>v=.a (.d (Sl.d 5 af.c none r))/\h'=H
theorem PG (n:Nat) (p:xY (ax:=ax) n) (i:xZ (ax:=ax) n):xY (ax:=ax) (n+1):=by
 intro b   r f H;rw [iT] at f;refine AC.oW 12 [.cell 2 61] Tryz.call63 Tryz.func63 ?_;refine ag ?_;refine sL (sM rfl (by repeat (first|exact bL.nil|apply bL.cons))) rfl ?_;refine Sl ?_;refine nil ?_;refine ag (S FL ?_);refine aP.cU 0 (af.cu b) rfl (fun j w cs hh hx=>by rw [<- af.jX]; exact hx) ?_;refine S LL ?_;obtain⟨g,k,f⟩:=qT rfl f;refine Sc rfl rfl (i k) ?_
 refine S FL ?_;refine Sf ?_;refine aP.cU 0 (af.c (af.mk b.an b.bl b.bg g.nl g.l b.aN)) rfl (fun j w cs hh hx=>by rw [af.jX]; exact hx) ?_;refine nil ?_;refine ag (S FL (S LL ?_));obtain⟨m,o,f⟩:=qT (GS _) f;refine Sc rfl rfl (GU o) ?_;refine S FL ?_;refine aP.cU 0 (af.cu (af.mk b.an b.bl b.bg g.nl g.l b.aN)) rfl (fun j w cs hh hx=>by rw [<- af.jX]; exact hx) ?_
 refine Sf ?_;refine aP.cU 0 (af.c (af.mk b.an b.bl b.bg g.nl g.l m)) rfl (fun j w cs hh hx=>by rw [af.jX]; exact hx) ?_;refine nil ?_;refine ag (S LL ?_);refine Sf ?_;refine nil ?_;exact rt f
theorem PI (n:Nat) (w:xY (ax:=ax) n) (K:xZ (ax:=ax) n):xZ (ax:=ax) (n+1):=by
 intro j w0  r b H;rw [tQ] at b;refine AC.oW 19 [.tmp 2] Tryz.call100 Tryz.func100 ?_;refine ah.tok 5 fun g k=>?_;refine ag ?_;refine s0 (dR (k':=5) rfl) rfl ?_;refine nil ?_;refine ag (S As (nil ?_));refine ah.fJ 3 5 g rfl av ?_;refine aQ kN (fun(z:(Sl af))=>[(3,.a (.d (Sl.d 5 af.c (some g) z)))]) (fun z=>(H.set g (some (.tok 5 z.l.length)))) (fun z=>(some z)=some r) ?_ ?_
 ·intro L x;refine ag (S Mv ?_);refine sLen (f:=af.c) (s:=j) (TK rfl) rfl rfl rfl rfl fun M=>?_;refine S Mv (nil ?_);refine block ?_;obtain⟨m,y,b⟩:=b_ b;refine bA (TA 6 (TA 7 kN)) (fun(z:(Sl af)×Nat)=>[(3,.a (.d (Sl.d 5 af.c (some g) z.1))),(8,.a (.d (.int .i64 ((z.2:Nat):Int))))]) (fun z=>(H.set g (some (.tok 5 z.1.l.length)))) (fun z=>j.l.length-z.2) (fun z=>Option.bind (lQ (iT n) (j.l.drop z.2) z.1) m=some r) ((Sl.nil:Sl af),0) b wA ?_
  rintro ⟨o,p⟩ b N B;try dsimp only at b
  refine ag (S BI (nil ?_));refine ay fun C q=>?_;refine ah.bN (fun l=>Option.bind (lQ (iT n) l o) m=some r) b rfl (fun O t i b=>?_) (fun i b=>?_)
  ·rw [lQ] at b;try dsimp only at i
   have P:=oD i;refine sk q ?_;clear q C;refine ay fun E u=>?_;refine block ?_;refine ag ?_;obtain⟨Q,F,b⟩:=vO t b;refine S (ix af.c p F) (S Ld ?_);refine Sl ?_;refine Sf ?_;refine nil ?_;refine bu 5 _ rfl (KA 3 (KA 6 (KA 7 (KA 8 aS.nil)))) ?_;refine region ?_;refine S Mv (S Ld ?_);obtain⟨R,G,b⟩:=qO rfl b;refine Sc rfl rfl (w G) ?_
   refine S BV ?_;obtain⟨v,I,b⟩:=qO rfl b;refine SH (am af.c (TK rfl) rfl (TK rfl) (TK rfl) I) ?_;refine hq (H.set g (some (.tok 5 v.l.length))) ?_;refine S As (nil ?_);refine u _ ?_;clear u E;refine region ?_;refine SI ?_;refine S Mv (nil ?_);exact B _ (v,(p+1)) wA b (dl t)
  rw [lQ] at b;have b:=ku y b;refine ah.exit ?_;obtain⟨U,J,b⟩:=bW b;have b:=ku J b;exact x _ o wA b
 rintro W b;try dsimp only at b
 refine ag (S Mv (S As (nil ?_)));refine ah.dU 2 rfl ?_;refine ah.ret ?_;repeat (first|refine bF ?_|refine bG ?_)
 obtain rfl:=oJ b;refine bn.bH H rfl ⟨rfl,rfl⟩ ?_
 first|exact ai.cm k|(simp only [ai.set_set]; exact ai.cm k)
theorem vt:∀(n:Nat),(xY (ax:=ax) n)/\(xZ (ax:=ax) n)
 | 0=>⟨fun b=>by first|cases b|(rw [iT] at b; cases b),fun b=>by first|cases b|(rw [tQ] at b; cases b)⟩
 | n+1=>⟨PG n (vt n).1 (vt n).2,PI n (vt n).1 (vt n).2⟩
def GV (a0:af):Option af:=iT F0 a0
theorem x_ {b r:af}(f:GV b=some r) (H:ai) :AC Tryz.prog 63 [.agg (af.c b)] H fun v h'=>v=.a (.agg (af.c r))/\h'=H:=(vt F0).1 f H 
def mJ (b:af):Option af:=iT F0 b
theorem ya (a0:af):GV a0=mJ a0:=rfl
def oe :List bQ->aC->Option (aC)
 | [],b=>some b
 | g::i,b=>on (g) fun f=>(mJ f.gh).bind fun j=>(aW 96 b.aH (⟨false,[(bQ.mk f.aa j)]⟩:Sl bQ)).bind fun k=>oe  (i) (aC.mk b.aa k)
def lR :List aC->(Sl aC)->Option ((Sl aC))
 | [],b=>some b
 | g::i,b=>on (g) fun f=>Option.bind (oe  f.aH.l (aC.mk f.aa (Sl.nil:Sl bQ))) fun j=>on (j) fun k=>(aW 40 b (⟨false,[k]⟩:Sl aC)).bind fun m=>on (m) fun o=>lR  (i) o
def mK (g:(Sl aC)):Option (Sl aC):=Option.bind (lR  g.l (Sl.nil:Sl aC)) fun b=>on (b) fun f=>some f
def BQ (b:(Sl aC)):Option (Sl aC):=mK b
theorem yb (a0:(Sl aC)):BQ a0=mK a0:=rfl
theorem yc {k:Sl aC}{w0:Option Nat}{r:Sl aC}(b:BQ k=some r) (H:ai) :AC Tryz.prog 35 [.d (Sl.d 2 aC.c w0 k)] H fun v h'=>v=.a (.d (Sl.d 2 aC.c none r))/\h'=H:=by
 unfold BQ mK at b;refine AC.oW 43 [.tmp 2] Tryz.call35 Tryz.func35 ?_;refine ah.tok 2 fun g G=>?_;refine ag ?_;refine s0 (dR (k':=2) rfl) rfl ?_;refine nil ?_;refine ag (S As (nil ?_));refine ah.fJ 3 2 g rfl av ?_;refine aQ kN (fun(z:(Sl aC))=>[(3,.a (.d (Sl.d 2 aC.c (some g) z)))]) (fun z=>(H.set g (some (.tok 2 z.l.length)))) (fun z=>(some z)=some r) ?_ ?_
 ·intro aD Q;refine ag (S Mv ?_);refine sLen (f:=aC.c) (s:=k) (TK rfl) rfl rfl rfl rfl fun aE=>?_;refine S Mv (nil ?_);refine block ?_;obtain⟨o,R,b⟩:=b_ b;refine bA (TA 9 (TA 10 kN)) (fun(z:(Sl aC)×Nat)=>[(3,.a (.d (Sl.d 2 aC.c (some g) z.1))),(11,.a (.d (.int .i64 ((z.2:Nat):Int))))]) (fun z=>(H.set g (some (.tok 2 z.1.l.length)))) (fun z=>k.l.length-z.2) (fun z=>Option.bind (lR  (k.l.drop z.2) z.1) o=some r) ((Sl.nil:Sl aC),0) b wA ?_
  rintro ⟨m,p⟩ b aF U;try dsimp only at b
  refine ag (S BI (nil ?_));refine ay fun W I=>?_;refine ah.bN (fun l=>Option.bind (lR  l m) o=some r) b rfl (fun aG J x b=>?_) (fun x b=>?_)
  ·rw [lR] at b;try dsimp only at x
   have aI:=oD x;refine sk I ?_;clear I W;refine aQ (TA 9 (TA 10 (TA 11 kN))) (fun(z:(Sl aC))=>[(3,.a (.d (Sl.d 2 aC.c (some g) z)))]) (fun z=>(H.set g (some (.tok 2 z.l.length)))) (fun z=>Option.bind (lR  (k.l.drop (p+1)) z) o=some r) ?_ ?_
   ·intro aJ X;refine block ?_;refine ag ?_;obtain⟨q,Y,b⟩:=vO J b;refine S (ix aC.c p Y) (S Ld ?_);refine Sl ?_;refine Sf ?_;refine nil ?_;refine bu 5 _ rfl (KA 3 (KA 9 (KA 10 (KA 11 aS.nil)))) ?_;refine ag (S Fv (S Ld (S BU ?_)));refine Sl ?_;refine aP.tok 6 fun i y=>?_;obtain⟨Z,y⟩:=ai.dP y;refine aP.cU 0 _ rfl (fun j w cs hh hx=>tok_cell 1 6 6 hh (t:=i) av hx rfl) ?_
    refine Sf ?_;refine aP.cU 0 _ rfl (fun j w cs hh hx=>tok_cell 1 6 6 hh (t:=i) av hx rfl) ?_;refine nil ?_;refine eb (TA 3 (TA 6 (TA 9 (TA 10 (TA 11 kN))))) (fun(z:aC)=>[]) (fun z=>[(aO z.aa++[Sl.d 6 bQ.c (some i) z.aH])]) (fun z=>((H.set g (some (.tok 2 m.l.length))).set i (some (.tok 6 z.aH.l.length)))) (fun z=>Option.bind ((aW 40 m (⟨false,[z]⟩:Sl aC)).bind fun u=>on (u) fun B=>lR  (k.l.drop (p+1)) B) o=some r) ?_ ?_
    ·intro aK ab;refine ag (S Fv (S Ld ?_));refine sLen (f:=bQ.c) (s:=q.aH) (TK rfl) rfl rfl rfl rfl fun aL=>?_;refine S Mv (nil ?_);refine block ?_;obtain⟨K,ad,b⟩:=dI b;refine gb (TA 3 (TA 6 (TA 9 (TA 10 (TA 11 (TA 19 (TA 20 kN))))))) (fun(z:Nat×aC)=>[(21,.a (.d (.int .i64 ((z.1:Nat):Int))))]) (fun z=>[(aO z.2.aa++[Sl.d 6 bQ.c (some i) z.2.aH])]) (fun z=>((H.set g (some (.tok 2 m.l.length))).set i (some (.tok 6 z.2.aH.l.length)))) (fun z=>q.aH.l.length-z.1) (fun z=>Option.bind (oe  (q.aH.l.drop z.1) z.2) K=some r) (0,(aC.mk q.aa (Sl.nil:Sl bQ))) b wA ?_
     rintro ⟨L,C⟩ b aM ae;try dsimp only at b
     refine ag (S BI (nil ?_));refine ay fun af M=>?_;refine ah.bN (fun l=>Option.bind (oe  l C) K=some r) b rfl (fun aN N E b=>?_) (fun E b=>?_)
     ·rw [oe] at b;try dsimp only at E
      have aR:=oD E;refine sk M ?_;clear M af;refine ay fun aj O=>?_;refine block ?_;refine ag ?_;obtain⟨aT,ak,b⟩:=vO N b;refine S (ix bQ.c L ak) (S Ld ?_);refine Sl ?_;refine Sf ?_;refine nil ?_;refine bu 8 _ rfl (KA 3 (KA 6 (KA 9 (KA 10 (KA 11 (KA 19 (KA 20 (KA 21 aS.nil)))))))) ?_;refine ah.draw rfl ?_;refine Sd FL (Sd LL (Sd Fv (Sd Ld (Sd Fv (Sd Ld ?_)))))
      obtain⟨aU,al,b⟩:=qO (ya _) b;refine cM rfl rfl (x_ al) ?_;refine Sd BU (Sd BV ?_);obtain⟨P,an,b⟩:=qO rfl b;refine au.sH (jU (f:=bQ.c) (TK rfl) rfl (TK rfl) (TK rfl) ⟨_,rfl⟩ rfl rfl (by decide) rfl rfl rfl rfl av rfl an) rfl ?_;refine au.Dh ((H.set g (some (.tok 2 m.l.length))).set i (some (.tok 6 P.l.length))) ?_;refine Sd FL ?_;refine au.dB (qE (TK rfl) rfl rfl rfl rfl (by repeat (first|exact bJ.zero|apply bJ.succ)) (by repeat (first|exact bJ.zero|apply bJ.succ))) ?_
      refine au.nil (by decide +kernel) ?_;refine O _ ?_;clear O aj;refine region ?_;refine SI ?_;refine S Mv (nil ?_);exact ae _ ((L+1),(aC.mk C.aa P)) wA b (dl N)
     rw [oe] at b;have b:=ku ad b;refine ah.exit ?_;obtain⟨aV,ao,b⟩:=gH b;have b:=ku ao b;exact ab _ C wA b
    rintro ap b;try dsimp only at b
    refine ah.cU 0 _ rfl (fun j w cs hh hx=>jt 1 hx rfl) ?_;refine region ?_;refine S Mv (S LL (S BV ?_));obtain⟨u,aq,b⟩:=qO rfl b;refine SH (am aC.c (TK rfl) rfl (TK rfl) (TK rfl) aq) ?_;refine hq ((H.set g (some (.tok 2 u.l.length))).set i (some (.tok 6 ap.aH.l.length))) ?_;refine S As (nil ?_);obtain⟨aX,aw,b⟩:=gH b;have b:=ku aw b;exact X _ u (cq.toFA (by(intro ax aY F); (have az:ax≠i:=fun aA=>by rw [aA] at F; simp [ai.set,y,Z] at F); (rw [<- F]); (simp only [ai.set,if_neg az]); (first|done|rfl))) b
   rintro B b;try dsimp only at b
   refine region ?_;refine SI ?_;refine S Mv (nil ?_);exact U _ (B,(p+1)) wA b (dl J)
  rw [lR] at b;have b:=ku R b;refine ah.exit ?_;obtain⟨aZ,aB,b⟩:=bW b;have b:=ku aB b;exact Q _ m wA b
 rintro a0 b;try dsimp only at b
 refine ag (S Mv (S As (nil ?_)));refine ah.dU 2 rfl ?_;refine ah.ret ?_;repeat (first|refine bF ?_|refine bG ?_)
 obtain rfl:=oJ b;refine bn.bH H rfl ⟨rfl,rfl⟩ ?_
 first|exact ai.cm G|(simp only [ai.set_set]; exact ai.cm G)
def lS (b:(Sl Int)):Option (Sl Int):=bif b.nl then(some (Sl.nil:Sl Int)) else((aW 8 (⟨false,[]⟩:Sl Int) b).bind fun f=>some f)
def BR (b:(Sl Int)):Option (Sl Int):=lS b
theorem BT (a0:(Sl Int)):BR a0=lS a0:=rfl
theorem BW {i:Sl Int}{w0:Option Nat}{r:Sl Int}(b:BR i=some r) (H:ai) :AC Tryz.prog 39 [.d (Sl.d 1 (bC .i64) w0 i)] H fun v h'=>v=.a (.d (Sl.d 1 (bC .i64) none r))/\h'=H:=by
 unfold BR lS at b;refine AC.oW 8 [.tmp 2] Tryz.call39 Tryz.func39 ?_;refine ag ?_;refine s0 (dR (k':=1) rfl) rfl ?_;refine nil ?_;refine ay fun j g=>?_;refine ag (S Mv ?_);refine s0 (Fe (TK rfl) rfl rfl) rfl ?_;refine nil ?_;refine cE b (fun k b=>?_) (fun k b=>?_)
 ·refine ag ?_;refine s0 (dR (k':=1) rfl) rfl ?_;refine nil ?_;exact rt b
 refine sk g ?_;clear g j;refine ag ?_;refine s0 (sP (TK rfl) rfl (TK rfl) rfl rfl rfl rfl rfl rfl) rfl ?_;refine S Mv ?_;obtain⟨m,l,b⟩:=qT rfl b;refine s0 (uV (f:=(bC .i64)) (TK rfl) rfl (TK rfl) (TK rfl) ⟨_,rfl⟩ rfl rfl (by decide) rfl rfl rfl (by intro q h; cases h<;>decide) rfl rfl l) rfl ?_;refine S As (nil ?_);exact rt b
def og :List Z8->(Sl Z8)->Option ((Sl Z8))
 | [],f=>some f
 | g::i,f=>on (g) fun b=>(lS b.aA.aF).bind fun j=>(mJ b.cB).bind fun k=>(mK b.bp).bind fun l=>(aW 168 f (⟨false,[(Z8.mk b.aa (az.mk b.aA.aa j) b.bY k l)]⟩:Sl Z8)).bind fun m=>og  (i) m
def ri (g:(Sl Z8)):Option (Sl Z8):=Option.bind (og  g.l (Sl.nil:Sl Z8)) fun b=>on (b) fun f=>some f
def BY (b:(Sl Z8)):Option (Sl Z8):=ri b
theorem GW (a0:(Sl Z8)):BY a0=ri a0:=rfl
theorem GX {i:Sl Z8}{w0:Option Nat}{r:Sl Z8}(b:BY i=some r) (H:ai) :AC Tryz.prog 36 [.d (Sl.d 10 Z8.c w0 i)] H fun v h'=>v=.a (.d (Sl.d 10 Z8.c none r))/\h'=H:=by
 unfold BY ri at b;refine AC.oW 32 [.tmp 2] Tryz.call36 Tryz.func36 ?_;refine ah.tok 10 fun g m=>?_;refine ag ?_;refine s0 (dR (k':=10) rfl) rfl ?_;refine nil ?_;refine ag (S As (nil ?_));refine ah.fJ 3 10 g rfl av ?_;refine aQ kN (fun(z:(Sl Z8))=>[(3,.a (.d (Sl.d 10 Z8.c (some g) z)))]) (fun z=>(H.set g (some (.tok 10 z.l.length)))) (fun z=>(some z)=some r) ?_ ?_
 ·intro P y;refine ag (S Mv ?_);refine sLen (f:=Z8.c) (s:=i) (TK rfl) rfl rfl rfl rfl fun Q=>?_;refine S Mv (nil ?_);refine block ?_;obtain⟨o,B,b⟩:=b_ b;refine bA (TA 6 (TA 7 kN)) (fun(z:(Sl Z8)×Nat)=>[(3,.a (.d (Sl.d 10 Z8.c (some g) z.1))),(8,.a (.d (.int .i64 ((z.2:Nat):Int))))]) (fun z=>(H.set g (some (.tok 10 z.1.l.length)))) (fun z=>i.l.length-z.2) (fun z=>Option.bind (og  (i.l.drop z.2) z.1) o=some r) ((Sl.nil:Sl Z8),0) b wA ?_
  rintro ⟨p,q⟩ b R C;try dsimp only at b
  refine ag (S BI (nil ?_));refine ay fun E t=>?_;refine ah.bN (fun l=>Option.bind (og  l p) o=some r) b rfl (fun U u k b=>?_) (fun k b=>?_)
  ·rw [og] at b;try dsimp only at k
   have W:=oD k;refine sk t ?_;clear t E;refine ay fun F w=>?_;refine block ?_;refine ag ?_;obtain⟨j,G,b⟩:=vO u b;refine S (ix Z8.c q G) (S Ld ?_);refine Sl ?_;refine Sf ?_;refine nil ?_;refine ag (S FL (S FL (S LL ?_)));obtain⟨I,J,b⟩:=qO (BT _) b;refine Sc rfl rfl (BW J) ?_;refine S FL (S FL ?_);refine Sf ?_;refine nil ?_
   refine ag (S FL (S LL ?_));obtain⟨K,L,b⟩:=qO (ya _) b;refine Sc rfl rfl (x_ L) ?_;refine S FL ?_;refine dB (LY (xs':=Z8.c (Z8.mk j.aa (az.mk j.aA.aa I) j.bY K j.bp)) (TK rfl) rfl rfl rfl rfl (Nat.le_of_ble_eq_true rfl) rfl (by repeat (first|exact bJ.zero|apply bJ.succ))) ?_;refine nil ?_;refine ag (S FL (S LL ?_));obtain⟨X,M,b⟩:=qO (yb _) b
   refine Sc rfl rfl (yc M) ?_;refine S FL ?_;refine Sf ?_;refine nil ?_;refine region ?_;refine S Mv (S LL (S BV ?_));obtain⟨x,N,b⟩:=qO rfl b;refine SH (am Z8.c (TK rfl) rfl (TK rfl) (TK rfl) N) ?_;refine hq (H.set g (some (.tok 10 x.l.length))) ?_;refine S As (nil ?_);refine w _ ?_;clear w F;refine region ?_;refine SI ?_;refine S Mv (nil ?_);exact C _ (x,(q+1)) wA b (dl u)
  rw [og] at b;have b:=ku B b;refine ah.exit ?_;obtain⟨Y,O,b⟩:=bW b;have b:=ku O b;exact y _ p wA b
 rintro Z b;try dsimp only at b
 refine ag (S Mv (S As (nil ?_)));refine ah.dU 2 rfl ?_;refine ah.ret ?_;repeat (first|refine bF ?_|refine bG ?_)
 obtain rfl:=oJ b;refine bn.bH H rfl ⟨rfl,rfl⟩ ?_
 first|exact ai.cm m|(simp only [ai.set_set]; exact ai.cm m)
def rj (b:Z3) (f:(Sl Bs)):Bool:=on (oc f b.FI) fun g=>on (bif ((!g)&&!(decide (((b.u4.l.length:Nat):Int)=(0:Int)))) then oc f b.u4 else false) fun i=>((!g)&&((decide (((b.u4.l.length:Nat):Int)=(0:Int)))||i))
def BZ (f:Z3) (b:(Sl Bs)):Option Bool:=some (rj f b)
theorem GY (a0:Z3) (b:(Sl Bs)):BZ a0 b=some (rj a0 b):=rfl
theorem GZ {g:Z3}{i:Sl Bs}{j:Option Nat}{r:Bool}(b:BZ g i=some r) (H:ai) :AC Tryz.prog 37 [.agg (Z3.c g),.d (Sl.d 1 aO j i)] H fun v h'=>v=.a (.d (.bool r))/\h'=H:=by
 unfold BZ rj at b;refine AC.oW 22 [.tmp 4] Tryz.call37 Tryz.func37 ?_;refine ag (S BX (S As (nil ?_)));refine ag (S Mv (S Fv (S Ld ?_)));obtain⟨o,l,b⟩:=vP (BN _ _) b;refine Sc rfl rfl (BO l) ?_;refine S NB (S Mv (G0 Fv ?_));refine G1 11 rfl Ld ?_;refine gC rfl rfl (fun hC=>aK (k:=12) rfl (cK (f:=aO) (s:=g.u4) (TK rfl) rfl rfl rfl)) rfl ?_;refine G1 13 rfl BI ?_
 refine G1 14 rfl Mv ?_;refine G0 Mv (G0 Fv ?_);refine G1 17 rfl Ld ?_;obtain⟨p,m,b⟩:=iu (fun _=>(BN _ _)) b;refine fw 16 18 rfl rfl rfl rfl rfl rfl (fun hC=>BO (m hC)) ?_;refine gC rfl rfl (fun hC=>aK (k:=15) rfl (sX rfl rfl rfl)) rfl ?_;refine S PA (S As (nil ?_));exact rt b
def Tryz.PJ:Go.Shelf.Ren:=⟨fun|4=>64|n=>n,fun|22=>42|25=>9|3=>3|4=>4|9=>9|20=>20|0=>0|n=>n,fun|n=>n⟩
theorem Tryz.PK:Go.Proofs.Lays8.n4 Tryz.prog Tryz.PJ:={
 mixed:=by kernel_rfl
 f4:=⟨Tryz.f64.name,by decide,Tryz.func64.trans (congrArg some (by kernel_rfl))⟩
 t0:=Tryz.underlying0
 a0:=Tryz.isAgg0
 z0:=Tryz.sizeOf0
 v0:=Tryz.zeroValue0
 t3:=Tryz.underlying3
 a3:=Tryz.isAgg3
 z3:=Tryz.sizeOf3
 v3:=Tryz.zeroValue3
 t4:=Tryz.underlying4
 a4:=Tryz.isAgg4
 z4:=Tryz.sizeOf4
 v4:=Tryz.zeroValue4
 t9:=Tryz.underlying9
 a9:=Tryz.isAgg9
 z9:=Tryz.sizeOf9
 v9:=Tryz.zeroValue9
 t20:=Tryz.underlying20
 a20:=Tryz.isAgg20
 z20:=Tryz.sizeOf20
 v20:=Tryz.zeroValue20
 t22:=Tryz.underlying42
 a22:=Tryz.isAgg42
 z22:=Tryz.sizeOf42
 v22:=Tryz.zeroValue42 }
def vu (n:Int):Option (Sl Bs):=if 0<=n/\n.toNat*16<=cS/\n.toNat<=cS then some ⟨decide (n=0),[]⟩ else none
theorem PL {n:Int}{f:Nat}{r:Sl Bs}(b:vu n=some r) (H:ai):AC Tryz.prog 64 [.d (.slice f none true []),.d (.int .i64 n)] H fun v h'=>∃tk,H tk=none/\v=.a (.d (Sl.d 1 aO (some tk) r))/\h'=H.set tk (some (.tok 1 r.l.length)):=by
 unfold vu at b
 split at b
 ·rename_i h
  obtain rfl:=oJ b;exact MY Tryz.PK (TK rfl) rfl rfl (by decide) h.1 h.2.1 h.2.2 rfl aO H
 cases b
def yd  (b:(Sl Bs)):Option (Sl Bs):=some b
def vv (f:(Sl (Sl Bs))) :Nat->(Sl Bs)->Nat->Option (Sl Bs)
 | 0,_,_=>none
 | i+1,g,b=>bif (decide (((b:Nat):Int)<((f.l.length:Nat):Int))) then((f.l[b]?).bind fun j=>(aW 16 g j).bind fun k=>(vv f i) k (b+1)) else(yd   g)
def ye (b:(Sl (Sl Bs)))  (f:Int):Option (Sl Bs):=(vu f).bind fun g=>vv b (b.l.length+1) g 0
def yf (b:Nat) (f:Int->Nat->Option (Sl Bs)) (g:Int):Option (Sl Bs):=f g (b+1)
def rm (b:(Sl (Sl Bs))) :Nat->Int->Nat->Option (Sl Bs)
 | 0,_,_=>none
 | j+1,g,f=>bif (decide (((f:Nat):Int)<((b.l.length:Nat):Int))) then((b.l[f]?).bind fun k=>(cG g ((k.l.length:Nat):Int)).bind fun i=>bif (decide (i<(0:Int))) then(none) else(yf f ((rm b j)) i)) else(ye b  g)
def vw (b:(Sl (Sl Bs))):Option (Sl Bs):=rm b (b.l.length+1) (0:Int) 0
theorem G3 {g:(Sl (Sl Bs))}{w0:Option Nat}{r:Sl Bs}(b:vw g=some r) (H:ai) :AC Tryz.prog 38 [.d (Sl.d 1 (fun s=>[Sl.d 1 aO none s]) w0 g)] H fun v h'=>v=.a (.d (Sl.d 1 aO none r))/\h'=H:=by
 unfold vw at b;refine AC.oW 36 [.tmp 2] Tryz.call38 Tryz.func38 ?_;refine ag ?_;refine s0 (dR (k':=1) rfl) rfl ?_;refine nil ?_;refine ag (S As (nil ?_));refine aQ (TA 0 kN) (fun(z:Int)=>[(3,.a (.d (.int .i64 z)))]) (fun z=>H) (fun z=>ye g z=some r) ?_ ?_
 ·intro ae B;refine ag (S Mv ?_);refine sLen (f:=(fun s=>[Sl.d 1 aO none s])) (s:=g) (TK rfl) rfl rfl rfl rfl fun af=>?_;refine S Mv (nil ?_);refine block ?_;refine bA (TA 0 (TA 9 (TA 10 kN))) (fun(z:Nat×Int×Nat)=>[(3,.a (.d (.int .i64 z.2.1))),(11,.a (.d (.int .i64 ((z.2.2:Nat):Int))))]) (fun z=>H) (fun z=>z.1) (fun z=>rm g z.1 z.2.1 z.2.2=some r) ((g.l.length+1),(0:Int),0) b wA ?_
  rintro ⟨j,C,k⟩ b aj E;try dsimp only at b
  cases j with
  | zero=>cases b
  | succ j =>
    rw [rm] at b;refine ag (S BI (nil ?_));refine ay fun F q=>?_;refine cE b (fun m b=>?_) (fun m b=>?_)
    ·try dsimp only at m
     have ak:=oD m;refine sk q ?_;clear q F;refine aQ (TA 0 (TA 9 (TA 10 (TA 11 kN)))) (fun(z:Int)=>[(3,.a (.d (.int .i64 z)))]) (fun z=>H) (fun z=>yf k ((rm g j)) z=some r) ?_ ?_
     ·intro al G;refine block ?_;refine ag ?_;obtain⟨I,J,b⟩:=bO b;refine S (ix (fun s=>[Sl.d 1 aO none s]) k J) ?_;refine S Ld (S As (nil ?_));refine ag (S Mv (S Mv ?_));refine sLen (f:=aO) (s:=I) (TK rfl) rfl rfl rfl rfl fun an=>?_;obtain⟨K,L,b⟩:=bO b;refine s0 (eR rfl rfl L) rfl ?_;refine S As (nil ?_);refine ag (S Mv (S BI (nil ?_)));refine cE b (fun M b=>?_) (fun M b=>?_)
      ·cases b
      refine ah.skip ?_;exact G _ K wA b
     rintro N b;try dsimp only at b
     unfold yf at b;refine region ?_;refine SI ?_;refine S Mv (nil ?_);exact E _ (j,N,(k+1)) wA b (nS _)
    refine ah.exit ?_;exact B _ C wA b
 rintro ao b;try dsimp only at b
 unfold ye at b;refine ag (S Mv ?_);obtain⟨O,P,b⟩:=bO b;refine sE (c_.call rfl rfl (PL P _)) rfl (fun _ _ _ ⟨⟨i,t,Q,R⟩,U⟩=>?_); subst Q R U;refine S As (nil ?_);refine aQ kN (fun(z:(Sl Bs))=>[(6,.a (.d (Sl.d 1 aO (some i) z)))]) (fun z=>(H.set i (some (.tok 1 z.l.length)))) (fun z=>yd z=some r) ?_ ?_
 ·intro ap W;refine ag (S Mv ?_);refine sLen (f:=(fun s=>[Sl.d 1 aO none s])) (s:=g) (TK rfl) rfl rfl rfl rfl fun aq=>?_;refine S Mv (nil ?_);refine block ?_;refine bA (TA 25 (TA 26 kN)) (fun(z:Nat×(Sl Bs)×Nat)=>[(6,.a (.d (Sl.d 1 aO (some i) z.2.1))),(27,.a (.d (.int .i64 ((z.2.2:Nat):Int))))]) (fun z=>(H.set i (some (.tok 1 z.2.1.l.length)))) (fun z=>z.1) (fun z=>vv g z.1 z.2.1 z.2.2=some r) ((g.l.length+1),O,0) b wA ?_
  rintro ⟨o,X,u⟩ b au Y;try dsimp only at b
  cases o with
  | zero=>cases b
  | succ o =>
    rw [vv] at b;refine ag (S BI (nil ?_));refine ay fun Z w=>?_;refine cE b (fun p b=>?_) (fun p b=>?_)
    ·try dsimp only at p
     have aw:=oD p;refine sk w ?_;clear w Z;refine ay fun aa x=>?_;refine block ?_;refine ag ?_;obtain⟨ax,ab,b⟩:=bO b;refine S (ix (fun s=>[Sl.d 1 aO none s]) u ab) ?_;refine S Ld (S As (nil ?_));refine region ?_;refine S Mv (S Mv ?_);obtain⟨y,ad,b⟩:=bO b;refine SH (am aO (TK rfl) rfl (TK rfl) (TK rfl) ad) ?_;refine hq (H.set i (some (.tok 1 y.l.length))) ?_
     refine S As (nil ?_);refine x _ ?_;clear x aa;refine region ?_;refine SI ?_;refine S Mv (nil ?_);exact Y _ (o,y,(u+1)) wA b (nS _)
    refine ah.exit ?_;exact W _ X wA b
 rintro az b;try dsimp only at b
 unfold yd at b;refine ag (S Mv (S As (nil ?_)));refine ah.dU 2 rfl ?_;refine ah.ret ?_;repeat (first|refine bF ?_|refine bG ?_)
 obtain rfl:=oJ b;refine bn.bH H rfl ⟨rfl,rfl⟩ ?_
 first|exact ai.cm t|(simp only [ai.set_set]; exact ai.cm t)
def tR (b:(Sl (Sl Bs))):Option (Sl Bs):=vw b
theorem G4 (a0:(Sl (Sl Bs))):vw a0=tR a0:=rfl
def mL (i:Z3) (g:(Sl Bs)):List Z7->aj->Option (aj)
 | [],b=>some b
 | j::k,b=>on (j) fun f=>(pL f.bp).bind fun l=>(tR (⟨false,[g,l]⟩:Sl (Sl Bs))).bind fun m=>on (rj i m) fun o=>Option.bind (bif o then((lS f.aA.aF).bind fun p=>(mK f.bp).bind fun q=>(ri f.aH).bind fun r=>(aW 104 b.aB (⟨false,[(Z7.mk f.aa r (az.mk f.aA.aa p) q)]⟩:Sl Z7)).bind fun s=>some (aj.mk b.an b.aa b.aX b.bp s b.aG b.aL)) else(some b)) fun t=>mL i g (k) t
def kw (j:Z3) (f:aj) (i:(Sl Bs)):List Z9->aj->Option (aj)
 | [],b=>some b
 | k::l,b=>on (k) fun g=>aR (!(!decide (f.an=(4:Int)))) (pL g.bp) (Sl.nil:Sl Bs) fun m=>aR (!(!decide (f.an=(4:Int)))) (tR (⟨false,[i,m]⟩:Sl (Sl Bs))) (Sl.nil:Sl Bs) fun o=>on (bif !(!decide (f.an=(4:Int))) then rj j o else false) fun p=>Option.bind (bif ((!decide (f.an=(4:Int)))||p) then((mK g.bp).bind fun q=>(aW 40 b.aG (⟨false,[(Z9.mk g.aa q)]⟩:Sl Z9)).bind fun r=>some (aj.mk b.an b.aa b.aX b.bp b.aB r b.aL)) else(some b)) fun s=>kw j f i (l) s
def vz (g:Z3) (b:aj):Option aj:=(pL b.bp).bind fun f=>(od b.aX).bind fun i=>(mK b.bp).bind fun j=>(ri b.aL).bind fun k=>Option.bind (mL g f b.aB.l (aj.mk b.an b.aa i j (Sl.nil:Sl Z7) (Sl.nil:Sl Z9) k)) fun m=>on (m) fun o=>Option.bind (kw g b f b.aG.l o) fun p=>on (p) fun q=>some q
def vA (f:Z3) (b:aj):Option aj:=vz f b
theorem PM (a0:Z3) (b:aj):vA a0 b=vz a0 b:=rfl
theorem G5 {q:Z3}{g r:aj}(b:vA q g=some r) (H:ai) :AC Tryz.prog 17 [.agg (Z3.c q),.agg (aj.c g)] H fun v h'=>v=.a (.agg (aj.c r))/\h'=H:=by
 unfold vA vz at b;refine AC.oW 97 [.cell 4 45] Tryz.call17 Tryz.func17 ?_;refine ag (S BX (S BX ?_));refine Sl ?_;refine nil ?_;refine ag (S Fv (S Ld ?_));obtain⟨u,ab,b⟩:=qT (xU _) b;refine Sc rfl rfl (xV ab) ?_;refine S As (nil ?_);refine ah.cr (Sd Fv (Sd Ld (Sd Fv (Sd Ld (Sd Fv (Sd Ld ?_))))));obtain⟨ad,ae,b⟩:=qT (GS _) b;refine cM rfl rfl (GU ae) ?_
 refine Sd Fv (Sd Ld ?_);obtain⟨af,ak,b⟩:=qT (yb _) b;refine cM rfl rfl (yc ak) ?_;refine Sd Fv (Sd Ld ?_);obtain⟨al,ao,b⟩:=qT (GW _) b;refine cM rfl rfl (GX ao) ?_;refine Sd BU ?_;refine au.sB (TK rfl) rfl rfl ?_ (by repeat (first|exact bL.nil|apply bL.cons));refine au.dB (eG (TK rfl) rfl rfl rfl rfl rfl) ?_;refine au.nil (by decide +kernel) ?_;refine ah.tok 5 fun i a7=>?_
 refine ah.cU 1 _ rfl (fun j w cs hh hx=>tok_cell 4 5 5 hh (t:=i) av hx rfl) ?_;refine ah.tok 2 fun m I=>?_;obtain⟨a8,I⟩:=ai.dP I;refine ah.cU 1 _ rfl (fun j w cs hh hx=>tok_cell 5 2 2 hh (t:=m) av hx rfl) ?_;refine eb (TA 2 (TA 3 (TA 4 (TA 5 (TA 6 kN))))) (fun(z:aj)=>[]) (fun z=>[aj.c aj.zero,((bC .i64) z.an++aO z.aa++(fun s=>[Sl.d 1 aO none s]) z.aX++(fun s=>[Sl.d 2 aC.c none s]) z.bp++[Sl.d 5 Z7.c (some i) z.aB]++[Sl.d 2 Z9.c (some m) z.aG]++(fun s=>[Sl.d 10 Z8.c none s]) z.aL)]) (fun z=>((H.set i (some (.tok 5 z.aB.l.length))).set m (some (.tok 2 z.aG.l.length)))) (fun z=>(Option.bind (kw q g u g.aG.l z) fun o=>on (o) fun J=>some J)=some r) ?_ ?_
 ·intro a9 ap;refine ag (S Fv (S Ld ?_));refine sLen (f:=Z7.c) (s:=g.aB) (TK rfl) rfl rfl rfl rfl fun a_=>?_;refine S Mv (nil ?_);refine block ?_;obtain⟨x,aq,b⟩:=b_ b;refine gb (TA 2 (TA 3 (TA 4 (TA 5 (TA 6 (TA 29 (TA 30 kN))))))) (fun(z:Nat×aj)=>[(31,.a (.d (.int .i64 ((z.1:Nat):Int))))]) (fun z=>[aj.c aj.zero,((bC .i64) z.2.an++aO z.2.aa++(fun s=>[Sl.d 1 aO none s]) z.2.aX++(fun s=>[Sl.d 2 aC.c none s]) z.2.bp++[Sl.d 5 Z7.c (some i) z.2.aB]++[Sl.d 2 Z9.c (some m) z.2.aG]++(fun s=>[Sl.d 10 Z8.c none s]) z.2.aL)]) (fun z=>((H.set i (some (.tok 5 z.2.aB.l.length))).set m (some (.tok 2 z.2.aG.l.length)))) (fun z=>g.aB.l.length-z.1) (fun z=>Option.bind (mL q u (g.aB.l.drop z.1) z.2) x=some r) (0,(aj.mk g.an g.aa ad af (Sl.nil:Sl Z7) (Sl.nil:Sl Z9) al)) b wA ?_
  rintro ⟨y,p⟩ b a' aw;try dsimp only at b
  refine ag (S BI (nil ?_));refine ay fun ax K=>?_;refine ah.bN (fun l=>Option.bind (mL q u l p) x=some r) b rfl (fun ba L B b=>?_) (fun B b=>?_)
  ·rw [mL] at b;try dsimp only at B
   have bb:=oD B;refine sk K ?_;clear K ax;refine eb (TA 2 (TA 3 (TA 4 (TA 5 (TA 6 (TA 29 (TA 30 (TA 31 kN)))))))) (fun(z:aj)=>[]) (fun z=>[aj.c aj.zero,((bC .i64) z.an++aO z.aa++(fun s=>[Sl.d 1 aO none s]) z.aX++(fun s=>[Sl.d 2 aC.c none s]) z.bp++[Sl.d 5 Z7.c (some i) z.aB]++[Sl.d 2 Z9.c (some m) z.aG]++(fun s=>[Sl.d 10 Z8.c none s]) z.aL)]) (fun z=>((H.set i (some (.tok 5 z.aB.l.length))).set m (some (.tok 2 z.aG.l.length)))) (fun z=>Option.bind (mL q u (g.aB.l.drop (y+1)) z) x=some r) ?_ ?_
   ·intro bc M;refine block ?_;refine ag ?_;obtain⟨bd,az,b⟩:=vO L b;refine S (ix Z7.c y az) (S Ld ?_);refine Sl ?_;refine Sf ?_;refine nil ?_;refine ah.cr (Sd Ld (Sd Mv (Sd FL (Sd LL ?_))));obtain⟨be,aA,b⟩:=qO (xU _) b;refine cM rfl rfl (xV aA) ?_;refine Sd BV ?_;obtain⟨bf,aD,b⟩:=qO (G4 _) b;refine cM rfl rfl (G3 aD) ?_;obtain⟨bg,aE,b⟩:=vO (GY _ _) b
    refine cM rfl rfl (GZ aE) ?_;refine au.nil (by decide +kernel) ?_;obtain⟨bh,N,b⟩:=dI b;refine cO b (fun aF b=>?_) (fun aF b=>?_)
    ·refine ag (S FL (S FL (S LL ?_)));obtain⟨bi,aH,b⟩:=qO (BT _) b;refine Sc rfl rfl (BW aH) ?_;refine S FL (S FL ?_);refine Sf ?_;refine nil ?_;refine ag (S FL (S LL ?_));obtain⟨bj,aI,b⟩:=qO (yb _) b;refine Sc rfl rfl (yc aI) ?_;refine S FL ?_;refine Sf ?_;refine nil ?_;refine ag (S FL (S LL ?_));obtain⟨bk,aJ,b⟩:=qO (GW _) b;refine Sc rfl rfl (GX aJ) ?_
     refine S FL ?_;refine Sf ?_;refine nil ?_;refine region ?_;refine S FL (S LL (S LL (S BV ?_)));obtain⟨O,aM,b⟩:=qO rfl b;refine SH (am Z7.c (TK rfl) rfl (TK rfl) (TK rfl) aM) ?_;refine hq ((H.set i (some (.tok 5 O.l.length))).set m (some (.tok 2 p.aG.l.length))) ?_;refine S FL ?_;refine Sf ?_;refine nil ?_;have b:=ku N b;exact M _ (aj.mk p.an p.aa p.aX p.bp O p.aG p.aL) wA b
    refine ah.skip ?_;have b:=ku N b;exact M _ p wA b
   rintro aN b;try dsimp only at b
   refine region ?_;refine SI ?_;refine S Mv (nil ?_);exact aw _ ((y+1),aN) wA b (dl L)
  rw [mL] at b;have b:=ku aq b;refine ah.exit ?_;obtain⟨bl,aP,b⟩:=bW b;have b:=ku aP b;exact ap _ p wA b
 rintro aQ b;try dsimp only at b
 refine eb (TA 4 (TA 6 kN)) (fun(z:aj)=>[]) (fun z=>[aj.c aj.zero,((bC .i64) z.an++aO z.aa++(fun s=>[Sl.d 1 aO none s]) z.aX++(fun s=>[Sl.d 2 aC.c none s]) z.bp++[Sl.d 5 Z7.c (some i) z.aB]++[Sl.d 2 Z9.c (some m) z.aG]++(fun s=>[Sl.d 10 Z8.c none s]) z.aL)]) (fun z=>((H.set i (some (.tok 5 z.aB.l.length))).set m (some (.tok 2 z.aG.l.length)))) (fun z=>(some z)=some r) ?_ ?_
 ·intro bm aR;refine ag (S Fv (S Ld ?_));refine sLen (f:=Z9.c) (s:=g.aG) (TK rfl) rfl rfl rfl rfl fun bo=>?_;refine S Mv (nil ?_);refine block ?_;obtain⟨C,aT,b⟩:=b_ b;refine gb (TA 2 (TA 3 (TA 4 (TA 5 (TA 6 (TA 65 (TA 66 kN))))))) (fun(z:Nat×aj)=>[(67,.a (.d (.int .i64 ((z.1:Nat):Int))))]) (fun z=>[aj.c aj.zero,((bC .i64) z.2.an++aO z.2.aa++(fun s=>[Sl.d 1 aO none s]) z.2.aX++(fun s=>[Sl.d 2 aC.c none s]) z.2.bp++[Sl.d 5 Z7.c (some i) z.2.aB]++[Sl.d 2 Z9.c (some m) z.2.aG]++(fun s=>[Sl.d 10 Z8.c none s]) z.2.aL)]) (fun z=>((H.set i (some (.tok 5 z.2.aB.l.length))).set m (some (.tok 2 z.2.aG.l.length)))) (fun z=>g.aG.l.length-z.1) (fun z=>Option.bind (kw q g u (g.aG.l.drop z.1) z.2) C=some r) (0,aQ) b wA ?_
  rintro ⟨E,o⟩ b bq aU;try dsimp only at b
  refine ag (S BI (nil ?_));refine ay fun aV P=>?_;refine ah.bN (fun l=>Option.bind (kw q g u l o) C=some r) b rfl (fun br Q F b=>?_) (fun F b=>?_)
  ·rw [kw] at b;try dsimp only at F
   have bs:=oD F;refine sk P ?_;clear P aV;refine eb (TA 2 (TA 3 (TA 4 (TA 5 (TA 6 (TA 65 (TA 66 (TA 67 kN)))))))) (fun(z:aj)=>[]) (fun z=>[aj.c aj.zero,((bC .i64) z.an++aO z.aa++(fun s=>[Sl.d 1 aO none s]) z.aX++(fun s=>[Sl.d 2 aC.c none s]) z.bp++[Sl.d 5 Z7.c (some i) z.aB]++[Sl.d 2 Z9.c (some m) z.aG]++(fun s=>[Sl.d 10 Z8.c none s]) z.aL)]) (fun z=>((H.set i (some (.tok 5 z.aB.l.length))).set m (some (.tok 2 z.aG.l.length)))) (fun z=>Option.bind (kw q g u (g.aG.l.drop (E+1)) z) C=some r) ?_ ?_
   ·intro bt R;refine block ?_;refine ag ?_;obtain⟨bv,aW,b⟩:=vO Q b;refine S (ix Z9.c E aW) (S Ld ?_);refine Sl ?_;refine Sf ?_;refine nil ?_;refine bu 10 _ rfl (KA 2 (KA 3 (KA 4 (KA 5 (KA 6 (KA 65 (KA 66 (KA 67 aS.nil)))))))) ?_;refine ah.cr (Sd Fv (Sd Ld (Sd BI (Sd Mv (dr Ld (dr Mv (dr Fv ?_)))))));refine dK 77 rfl Ld ?_;obtain⟨bw,aY,b⟩:=eS (xU _) b;refine pn 78 rfl rfl rfl rfl rfl (fun hC=>xV (aY hC)) ?_
    refine au.gC rfl rfl (fun hC=>aK (k:=76) rfl (aK (k:=79) rfl (buildSlice (TK rfl) rfl (TK rfl) rfl rfl rfl rfl rfl rfl))) rfl ?_;obtain⟨bx,aZ,b⟩:=eS (G4 _) b;refine pn 80 rfl rfl rfl rfl rfl (fun hC=>G3 (aZ hC)) ?_;obtain⟨bz,a0,b⟩:=eH (fun _=>(GY _ _)) b;refine u3 75 81 rfl rfl rfl rfl rfl rfl (fun hC=>GZ (a0 hC)) ?_;refine Sd PO ?_;refine au.nil (by decide +kernel) ?_
    obtain⟨bA,U,b⟩:=dI b;refine cO b (fun a1 b=>?_) (fun a1 b=>?_)
    ·refine ah.draw rfl ?_;refine Sd FL (Sd LL (Sd Fv (Sd Ld (Sd Fv (Sd Ld ?_)))));obtain⟨bB,a2,b⟩:=qO (yb _) b;refine cM rfl rfl (yc a2) ?_;refine Sd BU (Sd BV ?_);obtain⟨W,a3,b⟩:=qO rfl b;refine au.sH (jU (f:=Z9.c) (TK rfl) rfl (TK rfl) (TK rfl) ⟨_,rfl⟩ rfl rfl (by decide) rfl rfl rfl rfl av rfl a3) rfl ?_;refine au.Dh ((H.set i (some (.tok 5 o.aB.l.length))).set m (some (.tok 2 W.l.length))) ?_
     refine Sd FL ?_;refine au.dB (qE (TK rfl) rfl rfl rfl rfl (by repeat (first|exact bJ.zero|apply bJ.succ)) (by repeat (first|exact bJ.zero|apply bJ.succ))) ?_;refine au.nil (by decide +kernel) ?_;have b:=ku U b;exact R _ (aj.mk o.an o.aa o.aX o.bp o.aB W o.aL) wA b
    refine ah.skip ?_;have b:=ku U b;exact R _ o wA b
   rintro a4 b;try dsimp only at b
   refine region ?_;refine SI ?_;refine S Mv (nil ?_);exact aU _ ((E+1),a4) wA b (dl Q)
  rw [kw] at b;have b:=ku aT b;refine ah.exit ?_;obtain⟨bD,a5,b⟩:=bW b;have b:=ku a5 b;exact aR _ o wA b
 rintro J b;try dsimp only at b
 refine ay fun a6 X=>?_;refine ah.cU 1 _ rfl (fun j w cs hh hx=>jt 4 hx rfl) ?_;refine ah.cU 1 _ rfl (fun j w cs hh hx=>jt 5 hx rfl) ?_;refine region ?_;refine S LL ?_;refine Sf ?_;refine nil ?_;refine X _ ?_;clear X a6;refine ah.ret ?_;repeat (first|refine bF ?_|refine bG ?_)
 obtain rfl:=oJ b;refine bn.bH H rfl ⟨rfl,rfl⟩ ?_;intro Y bE Z;have bI:Y≠i:=fun G=>by subst G; simp_all [ai.set]
 have bK:Y≠m:=fun G=>by subst G; simp_all [ai.set]
 rw [<- Z];simp only [ai.set] at Z ⊢
 (repeat' split)<;>simp_all
def tS  :Option Int:=some (-1:Int)
def pN (f:(Sl Z8)) (g:(Z8->Option Bool)) :Nat->Nat->Option Int
 | 0,_=>none
 | i+1,b=>bif (decide (((b:Nat):Int)<((f.l.length:Nat):Int))) then((f.l[b]?).bind fun j=>(g j).bind fun k=>bif k then(some ((b:Nat):Int)) else((pN f g i) (b+1))) else(tS   )
def rp (b:(Sl Z8)) (f:(Z8->Option Bool)):Option Int:=pN b f (b.l.length+1) 0
theorem G6 {g:Sl Z8}{i:Z8->Option Bool}{w0:Option Nat}{m:D}{r:Int}(b:rp g i=some r) (H:ai) (u:∀o r,i o=some r->k7 Tryz.prog m [.agg (Z8.c o)] H fun v h'=>v=.a (.d (.bool r))/\h'=H):AC Tryz.prog 131 [.d (Sl.d 10 Z8.c w0 g),.d m] H fun v h'=>v=.a (.d (.int .i64 r))/\h'=H:=by
 unfold rp at b;refine AC.oW 19 [.tmp 4] Tryz.call131 Tryz.func131 ?_;refine ag (S As (nil ?_));refine aQ kN (fun(z:Unit)=>[]) (fun z=>H) (fun z=>tS =some r) ?_ ?_
 ·intro G w;refine ag (S Mv ?_);refine sLen (f:=Z8.c) (s:=g) (TK rfl) rfl rfl rfl rfl fun I=>?_;refine S Mv (nil ?_);refine block ?_;refine bA (TA 0 (TA 1 (TA 7 kN))) (fun(z:Nat×Nat)=>[(8,.a (.d (.int .i64 ((z.2:Nat):Int))))]) (fun z=>H) (fun z=>z.1) (fun z=>pN g i z.1 z.2=some r) ((g.l.length+1),0) b wA ?_;rintro ⟨j,p⟩ b J x;try dsimp only at b
  cases j with
  | zero=>cases b
  | succ j =>
    rw [pN] at b;refine ag (S BI (nil ?_));refine ay fun y q=>?_;refine cE b (fun k b=>?_) (fun k b=>?_)
    ·try dsimp only at k
     have K:=oD k;refine sk q ?_;clear q y;refine ay fun B t=>?_;refine block ?_;refine ag (S Mv (S As (nil ?_)));refine ag (S Mv (S Mv (S Mv ?_)));obtain⟨L,C,b⟩:=bO b;refine S (ix Z8.c p C) (S Ld ?_);obtain⟨M,E,b⟩:=bO b;refine s0 (Ag rfl rfl (u _ _ E)) rfl ?_;refine nil ?_;refine cE b (fun F b=>?_) (fun F b=>?_)
     ·refine ag (S Mv (S As (nil ?_)));exact rt b
     refine sk t ?_;clear t B;refine region ?_;refine SI ?_;refine S Mv (nil ?_);exact x _ (j,(p+1)) wA b (nS _)
    refine ah.exit ?_;exact w _ () wA b
 rintro _ b;try dsimp only at b
 unfold tS at b;refine ag (S As (nil ?_));exact rt b
def rq (f:(Z8->Bool)):List Z8->Nat->Unit ⊕ Int
 | [],b=>Sum.inl ()
 | g::i,b=>on (g) fun j=>on (f j) fun k=>bif k then(Sum.inr ((b:Nat):Int)) else(rq f (i) (b+1) )
theorem PN {g:Sl Z8}{j:Z8->Bool}(i:(Unit ⊕ Int)->Option Int) (m:∀(f:Nat) (b:Nat),tS   =i (Sum.inl ())) (o:∀e:Int,some e=i (Sum.inr e)):∀(f:Nat) (b:Nat),(0<f/\g.l.length<b+f)->pN g (fun p=>some (j p)) f b=i (rq j (g.l.drop b) b ):=by
 intro f;induction f with
 | zero=>intro b hn; exact absurd hn.1 (by omega)
 | succ f q =>
  intro b hn;rw [pN];by_cases bw:b<g.l.length
  ·obtain⟨r,k⟩:=Qa bw;rw [Q.k8 k,rq];refine QT bw ?_;refine Q.nD k fun s t=>?_;refine Q.nD rfl fun u v=>?_;refine Q.uY ?_ ?_
   ·all_goals exact o _
   all_goals exact q _ ⟨by omega,by omega⟩
  rw [dL (by omega),rq];refine QF bw ?_;exact m f b
def yg (i:(Sl Z8)) (b:(Z8->Bool)):Int:=on (rq b i.l 0 ) fun f=>match f with|Sum.inl _=>(on (()) fun _=>(-1:Int))|Sum.inr g=>(g)
theorem PP (a0:(Sl Z8)) (b:(Z8->Bool)):rp a0 (fun g=>some (b g))=some (yg a0 b):=by
 unfold rp yg;refine Q.sZ fun i f=>?_;refine PN  i ?_ ?_ _ _ ⟨Nat.succ_pos _,by omega⟩
 ·intro m o;refine Qe (f _) ?_;try dsimp only
  refine Q.sZ fun j k=>?_;have l:tS  =j ():=by
   refine Qe (k _) ?_;unfold tS;all_goals rfl
  all_goals exact l
 intro p;refine Qe (f _) ?_;try dsimp only
 all_goals rfl
def vB (g:(Sl Z8)) (b:(Z8->Option Bool)):Option Bool:=(rp g b).bind fun f=>some (decide ((0:Int)<=f))
theorem PR {j:Sl Z8}{f:Z8->Option Bool}{w0:Option Nat}{g:D}{r:Bool}(b:vB j f=some r) (H:ai) (k:∀i r,f i=some r->k7 Tryz.prog g [.agg (Z8.c i)] H fun v h'=>v=.a (.d (.bool r))/\h'=H):AC Tryz.prog 101 [.d (Sl.d 10 Z8.c w0 j),.d g] H fun v h'=>v=.a (.d (.bool r))/\h'=H:=by
 unfold vB at b;refine AC.oW 9 [.tmp 4] Tryz.call101 Tryz.func101 ?_;refine ag (S As (nil ?_));refine ag (S Mv (S Mv ?_));obtain⟨m,l,b⟩:=bO b;refine s0 (eu rfl rfl (G6 l _ k)) rfl ?_;refine S BI (S As (nil ?_));exact rt b
def yh (g:(Sl Z8)) (b:(Z8->Bool)):Bool:=on (yg g b) fun f=>(decide ((0:Int)<=f))
theorem PS (a0:(Sl Z8)) (b:(Z8->Bool)):vB a0 (fun f=>some (b f))=some (yh a0 b):=by
 unfold vB yh;refine Q.nD (PP _ _) fun g i=>?_;all_goals rfl
def jA (b:Bs):List aj->Unit ⊕ ((aj×Bool))
 | []=>Sum.inl ()
 | g::i=>on (g) fun f=>bif ((f.aa==b)) then(Sum.inr (f,true)) else(jA b (i) )
def eT (i:ak) (b:Bs):(aj×Bool):=on (jA b i.aq.l ) fun f=>match f with|Sum.inl _=>(on (()) fun _=>((aj.mk (0:Int) ([]:Bs) (Sl.nil:Sl Bs) (Sl.nil:Sl aC) (Sl.nil:Sl Z7) (Sl.nil:Sl Z9) (Sl.nil:Sl Z8)),false))|Sum.inr g=>(g)
def tT (f:ak) (b:Bs):Option (aj×Bool):=some (eT f b)
theorem lT (a0:ak) (b:Bs):tT a0 b=some (eT a0 b):=rfl
theorem kz {g:ak}{i:Bs}{r:aj×Bool}(b:tT g i=some r) (H:ai) :AC Tryz.prog 22 [.agg (ak.c g),.d (.str i)] H fun v h'=>v=.cF [.agg (aj.c r.1),.d (.bool r.2)]/\h'=H:=by
 unfold tT eT at b;refine AC.oW 22 [.cell 4 45,.tmp 5] Tryz.call22 Tryz.func22 ?_;refine ag (S BX ?_);refine Sl ?_;refine S As (nil ?_);refine eb (TA 4 kN) (fun(z:aj)=>[]) (fun z=>[aj.c z]) (fun z=>H) (fun z=>some (((aj.mk (0:Int) ([]:Bs) (Sl.nil:Sl Bs) (Sl.nil:Sl aC) (Sl.nil:Sl Z7) (Sl.nil:Sl Z9) (Sl.nil:Sl Z8)),false))=some r) ?_ ?_
 ·intro G w;refine ag (S Fv (S Ld ?_));refine sLen (f:=aj.c) (s:=g.aq) (TK rfl) rfl rfl rfl rfl fun I=>?_;refine S Mv (nil ?_);refine block ?_;obtain⟨k,m,b⟩:=eL b;refine gb (TA 1 (TA 4 (TA 9 (TA 10 kN)))) (fun(z:Nat×aj)=>[(11,.a (.d (.int .i64 ((z.1:Nat):Int))))]) (fun z=>[aj.c z.2]) (fun z=>H) (fun z=>g.aq.l.length-z.1) (fun z=>k (jA i (g.aq.l.drop z.1) )=some r) (0,aj.zero) b wA ?_
  rintro ⟨o,p⟩ b J x;try dsimp only at b
  refine ag (S BI (nil ?_));refine ay fun y q=>?_;refine ah.bN (fun l=>k (jA i l )=some r) b rfl (fun K t j b=>?_) (fun j b=>?_)
  ·rw [jA] at b;try dsimp only at j
   have L:=oD j;refine sk q ?_;clear q y;refine ay fun B u=>?_;refine block ?_;refine ag ?_;obtain⟨M,C,b⟩:=vP t b;refine S (ix aj.c o C) (S Ld ?_);refine Sl ?_;refine Sf ?_;refine nil ?_;refine bu 7 _ rfl (KA 1 (KA 4 (KA 9 (KA 10 (KA 11 aS.nil))))) ?_;refine ag (S Fv (S Ld (S Mv (S BS (nil ?_)))));refine cP b (fun E b=>?_) (fun E b=>?_)
   ·refine ag (S Ld ?_);refine Sf ?_;refine S As (nil ?_);refine ah.ret ?_;repeat (first|refine bF ?_|refine bG ?_)
    have b:=ku m b;obtain rfl:=oJ b;refine bn.bH H rfl ⟨rfl,rfl⟩ ?_;exact(fun _ _ h=>h)
   refine sk u ?_;clear u B;refine region ?_;refine SI ?_;refine S Mv (nil ?_);exact x _ ((o+1),p) wA b (dl t)
  rw [jA] at b;have b:=ku m b;try dsimp only at b
  refine ah.exit ?_;obtain⟨N,F,b⟩:=eL b;have b:=ku F b;exact w _ p wA b
 rintro O b;try dsimp only at b
 refine ag (S BU ?_);refine Sf ?_;refine S As (nil ?_);exact rt b
def cC (b:Bs):Bool:=(((((b==([73,110,116]:Bs)))||((b==([83,116,114,105,110,103]:Bs))))||((b==([66,111,111,108,101,97,110]:Bs))))||((b==([73,68]:Bs))))
def B0 (b:Bs):Option Bool:=some (cC b)
theorem ru (a0:Bs):B0 a0=some (cC a0):=rfl
theorem ry {f:Bs}{r:Bool}(b:B0 f=some r) (H:ai) :AC Tryz.prog 106 [.d (.str f)] H fun v h'=>v=.a (.d (.bool r))/\h'=H:=by
 unfold B0 cC at b;refine AC.oW 17 [.tmp 2] Tryz.call106 Tryz.func106 ?_;refine ag (S As (nil ?_));refine ag (S Mv (S BS (S Mv (G0 Mv ?_))));refine G1 6 rfl BS ?_;refine S PO (S Mv (G0 Mv ?_));refine G1 10 rfl BS ?_;refine S PO (S Mv (G0 Mv ?_));refine G1 14 rfl BS ?_;refine S PO (S As (nil ?_));exact rt b
def jB (i:Z2) (b:Bs):Bool:=on (eT i.Fd b) fun f=>on (bif (!f.2) then cC b else false) fun g=>((!f.2)&&(!g))
def yj (f:Z2) (b:Bs):Option Bool:=some (jB f b)
theorem vC (a0:Z2) (b:Bs):yj a0 b=some (jB a0 b):=rfl
theorem vD {i:Z2}{f:Bs}{g:Nat}{r:Bool}(b:yj i f=some r) (H:ai) (l:H g=some (.cells (Z2.c i))):AC Tryz.prog 66 [.d (.ptr g 0),.d (.str f)] H fun v h'=>v=.a (.d (.bool r))/\h'=H:=by
 unfold yj jB at b;refine AC.oW 23 [.tmp 4] Tryz.call66 Tryz.func66 ?_;refine ag (S As (nil ?_));refine ag (S Mv (S NP ?_));refine s0 (bE (TK rfl) rfl rfl (TK rfl) rfl rfl) rfl ?_;refine s0 (bZ (TK rfl) rfl rfl av rfl) rfl ?_;refine S Mv ?_;obtain⟨m,j,b⟩:=vP (lT _ _) b;refine Sc rfl rfl (kz j) ?_;refine S Mv (S EX (S EX ?_));refine Sl ?_;refine Sf ?_;refine S As (nil ?_)
 refine bu 5 _ rfl (KA 1 (KA 6 aS.nil)) ?_;refine ag (S Mv (S NB (S Mv (G0 Mv ?_))));obtain⟨o,k,b⟩:=iu (fun _=>(ru _)) b;refine dz 19 rfl rfl rfl rfl rfl (fun hC=>ry (k hC)) ?_;refine G1 20 rfl NB ?_;refine S PA (S As (nil ?_));exact rt b
def ig (b:az):Bool:=on (bif (decide ((0:Int)<((b.aF.l.length:Nat):Int))) then((b.aF.l)[0]?.getD (0:Int)) else(0:Int)) fun f=>((decide ((0:Int)<((b.aF.l.length:Nat):Int)))&&(decide (f=(1:Int))))
def B1 (b:az):Option Bool:=some (ig b)
theorem pO (a0:az):B1 a0=some (ig a0):=rfl
theorem pP {g:az}{r:Bool}(b:B1 g=some r) (H:ai) :AC Tryz.prog 132 [.agg (az.c g)] H fun v h'=>v=.a (.d (.bool r))/\h'=H:=by
 unfold B1 ig at b;refine AC.oW 14 [.tmp 2] Tryz.call132 Tryz.func132 ?_;refine ag (S BX (S As (nil ?_)));refine ag (S Fv (S Ld ?_));refine sLen (f:=(bC .i64)) (s:=g.aF) (TK rfl) rfl rfl rfl rfl fun j=>?_;refine S BI (S Mv (G0 Fv ?_));refine G1 8 rfl Ld ?_;obtain⟨l,i,b⟩:=iu (fun hc=>Q.getD_some (by simp at hc; omega)) b;refine gC rfl rfl (fun hC=>aK (k:=9) rfl (ee (f:=(bC .i64)) (n:=0) (TK rfl) rfl (TK rfl) rfl rfl rfl (i hC))) rfl ?_
 refine G1 10 rfl Ld ?_;refine G1 11 rfl BI ?_;refine S PA (S As (nil ?_));exact rt b
def vE (b:Z8):Bool:=on (ig b.aA) fun f=>((!f)||b.bY)
def B2 (b:Z8):Option Bool:=some (vE b)
theorem G7 (a0:Z8):B2 a0=some (vE a0):=rfl
theorem G8 {f:Z8}{r:Bool}(b:B2 f=some r) (H:ai) :AC Tryz.prog 103 [.agg (Z8.c f)] H fun v h'=>v=.a (.d (.bool r))/\h'=H:=by
 unfold B2 vE at b;refine AC.oW 11 [.tmp 2] Tryz.call103 Tryz.func103 ?_;refine ag (S BX (S As (nil ?_)));refine ag (S Fv (S Ld ?_));obtain⟨i,g,b⟩:=vP (pO _) b;refine Sc rfl rfl (pP g) ?_;refine S NB (S Mv (G0 Fv ?_));refine G1 8 rfl Ld ?_;refine S PO (S As (nil ?_));exact rt b
def tU (f:Z8) (g:Z2):Bool:=on (jB g f.aA.aa) fun b=>on (bif b then vE f else false) fun i=>(b&&(!i))
def yl (f:Z8) (b:Z2):Option Bool:=some (tU f b)
theorem PT (a0:Z8) (b:Z2):yl a0 b=some (tU a0 b):=rfl
theorem PU {g:Z8}{f:Z2}{c1:Nat}{r:Bool}(b:yl g f=some r) (H:ai) (k:H c1=some (.cells (Z2.c f))):AC Tryz.prog 102 [.agg (Z8.c g),.d (.view [.ptr c1 0])] H fun v h'=>v=.a (.d (.bool r))/\h'=H:=by
 unfold yl tU at b;refine AC.oW 14 [.tmp 3] Tryz.call102 Tryz.func102 ?_;refine ag (S BX (S As (nil ?_)));refine ag (S Ld (S Fv (S Fv (S Ld ?_))));obtain⟨l,i,b⟩:=vP (vC _ _) b;refine s0 (eu rfl rfl (vD i _ av)) rfl ?_;refine S Mv (G0 Ld ?_);obtain⟨m,j,b⟩:=iu (fun _=>(G7 _)) b;refine dz 10 rfl rfl rfl rfl rfl (fun hC=>G8 (j hC)) ?_;refine G1 11 rfl NB ?_
 refine S PA (S As (nil ?_));exact rt b
def tV (b:(Sl Z8)) (f:(Z8->Option Bool)):Option (Sl Z8):=(rp b f).bind fun g=>bif (decide (g=(-1:Int))) then(some b) else(none)
theorem PV {j:Sl Z8}{f:Z8->Option Bool}{w0:Option Nat}{g:D}{r:Sl Z8}(b:tV j f=some r) (H:ai) (k:∀i r,f i=some r->k7 Tryz.prog g [.agg (Z8.c i)] H fun v h'=>v=.a (.d (.bool r))/\h'=H):AC Tryz.prog 104 [.d (Sl.d 10 Z8.c w0 j),.d g] H fun v h'=>v=.a (.d (Sl.d 10 Z8.c none r))/\h'=H:=by
 unfold tV at b;refine AC.oW 42 [.tmp 4] Tryz.call104 Tryz.func104 ?_;refine ag ?_;refine s0 (dR (k':=10) rfl) rfl ?_;refine nil ?_;refine ag (S Mv (S Mv ?_));obtain⟨o,l,b⟩:=bO b;refine s0 (eu rfl rfl (G6 l _ k)) rfl ?_;refine S As (nil ?_);refine ay fun p q=>?_;refine ag (S Mv (S BI (nil ?_)));refine cE b (fun m b=>?_) (fun m b=>?_)
 ·refine ag (S Mv (S As (nil ?_)));refine ah.dU 4 rfl ?_;exact rt b
 cases b
end Go.Proofs
