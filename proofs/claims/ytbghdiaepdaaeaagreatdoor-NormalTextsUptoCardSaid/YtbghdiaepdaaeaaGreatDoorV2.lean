import Derived.Test.YtbghdiaepdaaeaaGreatDoorV1
set_option maxRecDepth 100000
set_option maxHeartbeats 2000000
set_option linter.unusedVariables false
set_option linter.unusedSimpArgs false
namespace Go.Proofs
open Go Go.Ab
open aS aq ah aU dV
variable {an:bf}
def kO :List Bs->Unit ⊕ Bool
 | []=>Sum.inl ()
 | b::f=>on (b) fun g=>on (bQ g) fun i=>bif (!i) then(Sum.inr false) else(kO  (f) )
def gQ (b:az):Option Bool:=on (bQ b.ai) fun f=>aQ (!(!f)) (nV b.ct) false fun g=>bif (((!f)||(!g))||(decide ((64:Int)<((b.cw.l.length:Nat):Int)))) then(some false) else(on (kO  b.cw.l ) fun i=>match i with|Sum.inl _=>(on (()) fun _=>bif (decide (b.ak=(1:Int))) then((iP b.br).bind fun j=>some ((j&&(decide (((b.cm.l.length:Nat):Int)=(0:Int))))&&(decide (((b.bP.l.length:Nat):Int)=(0:Int))))) else(bif (decide (b.ak=(2:Int))) then(aQ ((decide (((b.cw.l.length:Nat):Int)=(0:Int)))) (iP b.br) false fun k=>some ((((decide (((b.cw.l.length:Nat):Int)=(0:Int)))&&k)&&(decide (((b.cm.l.length:Nat):Int)=(0:Int))))&&(decide (((b.bP.l.length:Nat):Int)=(0:Int))))) else(bif (decide (b.ak=(3:Int))) then(aQ (((decide (((b.cw.l.length:Nat):Int)=(0:Int)))&&(decide (((b.br.l.length:Nat):Int)=(0:Int))))) (kM b.cm true) false fun m=>some ((((decide (((b.cw.l.length:Nat):Int)=(0:Int)))&&(decide (((b.br.l.length:Nat):Int)=(0:Int))))&&m)&&(decide (((b.bP.l.length:Nat):Int)=(0:Int))))) else(bif (decide (b.ak=(4:Int))) then(aQ (((decide (((b.cw.l.length:Nat):Int)=(0:Int)))&&(decide (((b.br.l.length:Nat):Int)=(0:Int))))) (kM b.cm false) false fun o=>some ((((decide (((b.cw.l.length:Nat):Int)=(0:Int)))&&(decide (((b.br.l.length:Nat):Int)=(0:Int))))&&o)&&(decide (((b.bP.l.length:Nat):Int)=(0:Int))))) else(bif (decide (b.ak=(5:Int))) then(aQ (((((decide (((b.cw.l.length:Nat):Int)=(0:Int)))&&(decide (((b.br.l.length:Nat):Int)=(0:Int))))&&(decide (((b.cm.l.length:Nat):Int)=(0:Int))))&&(decide ((0:Int)<((b.bP.l.length:Nat):Int))))) (gx b.bP) false fun p=>some (((((decide (((b.cw.l.length:Nat):Int)=(0:Int)))&&(decide (((b.br.l.length:Nat):Int)=(0:Int))))&&(decide (((b.cm.l.length:Nat):Int)=(0:Int))))&&(decide ((0:Int)<((b.bP.l.length:Nat):Int))))&&p)) else(some false))))))|Sum.inr q=>(some q))
def Ag (b:az):Option Bool:=gQ b
theorem O7 (a0:az):Ag a0=gQ a0:=rfl
theorem O8 {g:az}{r:Bool}(b:Ag g=some r) (H:ag) :AC Tryz.prog 53 [.agg (az.c g)] H fun v h'=>v=.a (.d (.bool r))/\h'=H:=by
 unfold Ag gQ at b;refine AC.oW 129 [.tmp 2] Tryz.call53 Tryz.func53 ?_;refine aa (S BX (S As (nil ?_)));refine ay fun F j=>?_;refine aa (S Fv (S Ld ?_));obtain⟨al,G,b⟩:=vT (jh _) b;refine Sc rfl rfl (ji G) ?_;refine S NB (S Mv (G0 Fv ?_));refine G1 13 rfl Ld ?_;obtain⟨am,I,b⟩:=dB (wk _) b;refine dH 14 rfl rfl rfl rfl rfl (fun hC=>wj (I hC)) ?_;refine G1 15 rfl NB ?_
 refine S PO (S Mv (G0 Fv ?_));refine G1 19 rfl Ld ?_;refine gC rfl rfl (fun hC=>aI (k:=20) rfl (dx (f:=aM) (s:=g.cw) (TK rfl) rfl rfl rfl)) rfl ?_;refine G1 21 rfl BI ?_;refine S PO (nil ?_);refine cE b (fun J b=>?_) (fun J b=>?_)
 ·refine aa (S As (nil ?_));exact rt b
 refine sk j ?_;clear j F;refine aP (TA 1 kN) (fun(z:Unit)=>[]) (fun z=>H) (fun z=>(bif (decide (g.ak=(1:Int))) then((iP g.br).bind fun m=>some ((m&&(decide (((g.cm.l.length:Nat):Int)=(0:Int))))&&(decide (((g.bP.l.length:Nat):Int)=(0:Int))))) else(bif (decide (g.ak=(2:Int))) then(aQ ((decide (((g.cw.l.length:Nat):Int)=(0:Int)))) (iP g.br) false fun o=>some ((((decide (((g.cw.l.length:Nat):Int)=(0:Int)))&&o)&&(decide (((g.cm.l.length:Nat):Int)=(0:Int))))&&(decide (((g.bP.l.length:Nat):Int)=(0:Int))))) else(bif (decide (g.ak=(3:Int))) then(aQ (((decide (((g.cw.l.length:Nat):Int)=(0:Int)))&&(decide (((g.br.l.length:Nat):Int)=(0:Int))))) (kM g.cm true) false fun p=>some ((((decide (((g.cw.l.length:Nat):Int)=(0:Int)))&&(decide (((g.br.l.length:Nat):Int)=(0:Int))))&&p)&&(decide (((g.bP.l.length:Nat):Int)=(0:Int))))) else(bif (decide (g.ak=(4:Int))) then(aQ (((decide (((g.cw.l.length:Nat):Int)=(0:Int)))&&(decide (((g.br.l.length:Nat):Int)=(0:Int))))) (kM g.cm false) false fun q=>some ((((decide (((g.cw.l.length:Nat):Int)=(0:Int)))&&(decide (((g.br.l.length:Nat):Int)=(0:Int))))&&q)&&(decide (((g.bP.l.length:Nat):Int)=(0:Int))))) else(bif (decide (g.ak=(5:Int))) then(aQ (((((decide (((g.cw.l.length:Nat):Int)=(0:Int)))&&(decide (((g.br.l.length:Nat):Int)=(0:Int))))&&(decide (((g.cm.l.length:Nat):Int)=(0:Int))))&&(decide ((0:Int)<((g.bP.l.length:Nat):Int))))) (gx g.bP) false fun t=>some (((((decide (((g.cw.l.length:Nat):Int)=(0:Int)))&&(decide (((g.br.l.length:Nat):Int)=(0:Int))))&&(decide (((g.cm.l.length:Nat):Int)=(0:Int))))&&(decide ((0:Int)<((g.bP.l.length:Nat):Int))))&&t)) else(some false))))))=some r) ?_ ?_
 ·intro an K;refine aa (S As (nil ?_));refine block ?_;obtain⟨u,w,b⟩:=cC b;refine bD (TA 1 kN) (fun(z:Nat)=>[(3,.a (.d (.int .i64 ((z:Nat):Int))))]) (fun z=>H) (fun z=>g.cw.l.length-z) (fun z=>u (kO  (g.cw.l.drop z) )=some r) 0 b wA ?_;rintro x b ao L;try dsimp only at b
  refine ay fun M y=>?_;refine aa (S Mv (S Fv (S Ld ?_)));refine sLen (f:=aM) (s:=g.cw) (TK rfl) rfl rfl rfl rfl fun ap=>?_;refine S BI (nil ?_);refine ah.cL (fun l=>u (kO  l )=some r) b rfl (fun ar B i b=>?_) (fun i b=>?_)
  ·rw [kO] at b;try dsimp only at i
   have av:=oD i;refine sk y ?_;clear y M;refine ay fun N C=>?_;refine block ?_;refine aa (S Fv (S Ld (S Mv ?_)));obtain⟨aw,O,b⟩:=vP B b;refine S (ix aM x O) (S Ld ?_);obtain⟨ax,P,b⟩:=vP (jh _) b;refine Sc rfl rfl (ji P) ?_;refine S NB (nil ?_);refine cP b (fun Q b=>?_) (fun Q b=>?_)
   ·refine aa (S As (nil ?_));refine ah.ret ?_;repeat (first|refine bM ?_|refine bN ?_)
    have b:=ku w b;obtain rfl:=oJ b;refine bF.bK H rfl ⟨rfl,rfl⟩ ?_;exact(fun _ _ h=>h)
   refine sk C ?_;clear C N;refine region ?_;refine S Mv ?_;refine SI ?_;refine S As (nil ?_);exact L _ (x+1) wA b (dl B)
  rw [kO] at b;have b:=ku w b;try dsimp only at b
  refine ah.exit ?_;obtain⟨aA,R,b⟩:=cC b;have b:=ku R b;exact K _ () wA b
 rintro _ b;try dsimp only at b
 refine ah.cH (Sd Fv (Sd Ld ?_));refine au.s0 (dx (f:=aM) (s:=g.cw) (TK rfl) rfl rfl rfl) rfl ?_;refine Sd BI (Sd Fv (Sd Ld ?_));refine au.s0 (dx (f:=Z6.c) (s:=g.br) (TK rfl) rfl rfl rfl) rfl ?_;refine Sd BI (Sd Fv (Sd Ld ?_));refine au.s0 (dx (f:=Z9.c) (s:=g.cm) (TK rfl) rfl rfl rfl) rfl ?_;refine Sd BI (Sd Fv (Sd Ld ?_));refine au.s0 (dx (f:=Z8.c) (s:=g.bP) (TK rfl) rfl rfl rfl) rfl ?_
 refine Sd BI (Sd As (Sd As (Sd As (Sd As ?_))));refine au.nil (by decide +kernel) ?_;refine ay fun U E=>?_;refine aa (S Fv (S Ld (nil ?_)));refine block ?_;refine aa (S BI (S As (nil ?_)));refine cE b (fun W b=>?_) (fun W b=>?_)
 ·refine aa (S Fv (S Ld ?_));obtain⟨m,X,b⟩:=qT (GN _) b;refine Sc rfl rfl (GO X) ?_;refine S Mv (G0 Mv (S PA (S Mv (G0 Mv (S PA (S As (nil ?_)))))));exact rt b
 refine aa (S BI (S As (nil ?_)));refine cE b (fun Y b=>?_) (fun Y b=>?_)
 ·refine aa (S Mv (S Mv (G0 Fv ?_)));refine G1 71 rfl Ld ?_;obtain⟨o,Z,b⟩:=dB (GN _) b;refine dH 72 rfl rfl rfl rfl rfl (fun hC=>GO (Z hC)) ?_;refine S PA (S Mv (G0 Mv (S PA (S Mv (G0 Mv (S PA (S As (nil ?_))))))));exact rt b
 refine aa (S BI (S As (nil ?_)));refine cE b (fun ab b=>?_) (fun ab b=>?_)
 ·refine aa (S Mv (S Mv (G0 Mv (S PA (S Mv (G0 Fv ?_))))));refine G1 88 rfl Ld ?_;obtain⟨p,ad,b⟩:=dB (GP _ _) b;refine dH 89 rfl rfl rfl rfl rfl (fun hC=>GQ (ad hC)) ?_;refine S PA (S Mv (G0 Mv (S PA (S As (nil ?_)))));exact rt b
 refine aa (S BI (S As (nil ?_)));refine cE b (fun ae b=>?_) (fun ae b=>?_)
 ·refine aa (S Mv (S Mv (G0 Mv (S PA (S Mv (G0 Fv ?_))))));refine G1 102 rfl Ld ?_;obtain⟨q,af,b⟩:=dB (GP _ _) b;refine dH 103 rfl rfl rfl rfl rfl (fun hC=>GQ (af hC)) ?_;refine S PA (S Mv (G0 Mv (S PA (S As (nil ?_)))));exact rt b
 refine aa (S BI (S As (nil ?_)));refine cE b (fun ai b=>?_) (fun ai b=>?_)
 ·refine aa (S Mv (S Mv (G0 Mv (S PA (S Mv (G0 Mv (S PA (S Mv (G0 Fv ?_)))))))));refine G1 119 rfl Ld ?_;refine gC rfl rfl (fun hC=>aI (k:=120) rfl (dx (f:=Z8.c) (s:=g.bP) (TK rfl) rfl rfl rfl)) rfl ?_;refine G1 121 rfl BI ?_;refine S PA (S Mv (G0 Fv ?_));refine G1 125 rfl Ld ?_;obtain⟨t,aj,b⟩:=dB (GL _) b;refine dH 126 rfl rfl rfl rfl rfl (fun hC=>GM (aj hC)) ?_;refine S PA (S As (nil ?_))
  exact rt b
 refine sk E ?_;clear E U;refine aa (S As (nil ?_));exact rt b
def kP :List az->Option (Unit ⊕ Bool)
 | []=>some (Sum.inl ())
 | b::f=>on (b) fun g=>(gQ g).bind fun i=>bif (!i) then(some (Sum.inr false)) else(kP  (f) )
def jN (b:ar):Option Bool:=bif ((decide (((b.aD.l.length:Nat):Int)<(1:Int)))||(decide ((64:Int)<((b.aD.l.length:Nat):Int)))) then(some false) else(Option.bind (kP  b.aD.l ) fun f=>match f with|Sum.inl _=>(on (()) fun _=>some true)|Sum.inr g=>(some g))
def Ah (b:ar):Option Bool:=jN b
theorem O9 (a0:ar):Ah a0=jN a0:=rfl
theorem O_ {g:ar}{r:Bool}(b:Ah g=some r) (H:ag) :AC Tryz.prog 21 [.agg (ar.c g)] H fun v h'=>v=.a (.d (.bool r))/\h'=H:=by
 unfold Ah jN at b;refine AC.oW 28 [.tmp 2] Tryz.call21 Tryz.func21 ?_;refine aa (S BX (S As (nil ?_)));refine ay fun w j=>?_;refine aa (S Fv (S Ld ?_));refine sLen (f:=az.c) (s:=g.aD) (TK rfl) rfl rfl rfl rfl fun K=>?_;refine S BI (S Mv (G0 Fv ?_));refine G1 9 rfl Ld ?_;refine gC rfl rfl (fun hC=>aI (k:=10) rfl (dx (f:=az.c) (s:=g.aD) (TK rfl) rfl rfl rfl)) rfl ?_
 refine G1 11 rfl BI ?_;refine S PO (nil ?_);refine cE b (fun x b=>?_) (fun x b=>?_)
 ·refine aa (S As (nil ?_));exact rt b
 refine sk j ?_;clear j w;refine aP kN (fun(z:Unit)=>[]) (fun z=>H) (fun z=>(some true)=some r) ?_ ?_
 ·intro L y;refine aa (S As (nil ?_));refine block ?_;obtain⟨m,o,b⟩:=cG b;refine bD (TA 1 kN) (fun(z:Nat)=>[(3,.a (.d (.int .i64 ((z:Nat):Int))))]) (fun z=>H) (fun z=>g.aD.l.length-z) (fun z=>Option.bind (kP  (g.aD.l.drop z) ) m=some r) 0 b wA ?_;rintro p b M B;try dsimp only at b
  refine ay fun C q=>?_;refine aa (S Mv (S Fv (S Ld ?_)));refine sLen (f:=az.c) (s:=g.aD) (TK rfl) rfl rfl rfl rfl fun N=>?_;refine S BI (nil ?_);refine ah.cL (fun l=>Option.bind (kP  l ) m=some r) b rfl (fun O t i b=>?_) (fun i b=>?_)
  ·rw [kP] at b;try dsimp only at i
   have P:=oD i;refine sk q ?_;clear q C;refine ay fun E u=>?_;refine block ?_;refine aa (S Fv (S Ld (S Mv ?_)));obtain⟨Q,F,b⟩:=vO t b;refine S (ix az.c p F) (S Ld ?_);obtain⟨R,G,b⟩:=qO (O7 _) b;refine Sc rfl rfl (O8 G) ?_;refine S NB (nil ?_);refine cO b (fun I b=>?_) (fun I b=>?_)
   ·refine aa (S As (nil ?_));refine ah.ret ?_;repeat (first|refine bM ?_|refine bN ?_)
    have b:=ku o b;obtain rfl:=oJ b;refine bF.bK H rfl ⟨rfl,rfl⟩ ?_;exact(fun _ _ h=>h)
   refine sk u ?_;clear u E;refine region ?_;refine S Mv ?_;refine SI ?_;refine S As (nil ?_);exact B _ (p+1) wA b (dl t)
  rw [kP] at b;have b:=ku o b;try dsimp only at b
  refine ah.exit ?_;obtain⟨U,J,b⟩:=cC b;have b:=ku J b;exact y _ () wA b
 rintro _ b;try dsimp only at b
 refine aa (S As (nil ?_));exact rt b
def ij (f:Bs):List az->Unit ⊕ ((az×Bool))
 | []=>Sum.inl ()
 | b::g=>on (b) fun i=>bif ((i.ai==f)) then(on (b) fun j=>Sum.inr (j,true)) else(ij f (g) )
def cV (g:ar) (i:Bs):(az×Bool):=on (ij i g.aD.l ) fun b=>match b with|Sum.inl _=>(on (()) fun _=>((az.mk (0:Int) ([]:Bs) (Sl.nil:Sl Bs) (Sl.nil:Sl aN) (Sl.nil:Sl Z6) (Sl.nil:Sl Z9) (Sl.nil:Sl Z8)),false))|Sum.inr f=>(f)
def wm (b:ar) (f:Bs):Option (az×Bool):=some (cV b f)
theorem jj (a0:ar) (a1:Bs):wm a0 a1=some (cV a0 a1):=rfl
theorem jk {g:ar}{i:Bs}{r:az×Bool}(b:wm g i=some r) (H:ag) :AC Tryz.prog 30 [.agg (ar.c g),.d (.str i)] H fun v h'=>v=.dM [.agg (az.c r.1),.d (.bool r.2)]/\h'=H:=by
 unfold wm cV at b;refine AC.oW 28 [.cell 4 68,.tmp 5] Tryz.call30 Tryz.func30 ?_;refine aa (S BX ?_);refine Sl ?_;refine S As (nil ?_);refine fO (TA 4 kN) (fun(z:az)=>[]) (fun z=>[az.c z]) (fun z=>H) (fun z=>some (((az.mk (0:Int) ([]:Bs) (Sl.nil:Sl Bs) (Sl.nil:Sl aN) (Sl.nil:Sl Z6) (Sl.nil:Sl Z9) (Sl.nil:Sl Z8)),false))=some r) ?_ ?_
 ·intro I w;refine aa (S As (nil ?_));refine block ?_;obtain⟨o,p,b⟩:=fo b;refine jf (TA 1 (TA 2 (TA 4 kN))) (fun(z:Nat×az)=>[(6,.a (.d (.int .i64 ((z.1:Nat):Int))))]) (fun z=>[az.c z.2]) (fun z=>H) (fun z=>g.aD.l.length-z.1) (fun z=>o (ij i (g.aD.l.drop z.1) )=some r) (0,az.zero) b wA ?_;rintro ⟨j,q⟩ b J x;try dsimp only at b
  refine ay fun y t=>?_;refine aa (S Mv (S Fv (S Ld ?_)));refine sLen (f:=az.c) (s:=g.aD) (TK rfl) rfl rfl rfl rfl fun K=>?_;refine S BI (nil ?_);refine ah.cL (fun l=>o (ij i l )=some r) b rfl (fun L k m b=>?_) (fun m b=>?_)
  ·rw [ij] at b;try dsimp only at m
   have M:=oD m;refine sk t ?_;clear t y;refine ay fun B u=>?_;refine block ?_;refine aa (S Fv (S Ld (S Mv ?_)));obtain⟨N,C,b⟩:=vP k b;refine S (ix az.c j C) (S Fv (S Ld (S Mv (S BS (nil ?_)))));refine cP b (fun E b=>?_) (fun E b=>?_)
   ·refine aa (S Fv (S Ld (S Mv ?_)));obtain⟨O,F,b⟩:=vP k b;refine S (ix az.c j F) (S Ld ?_);refine Sf ?_;refine S As (nil ?_);refine ah.ret ?_;repeat (first|refine bM ?_|refine bN ?_)
    have b:=ku p b;obtain rfl:=oJ b;refine bF.bK H rfl ⟨rfl,rfl⟩ ?_;exact(fun _ _ h=>h)
   refine sk u ?_;clear u B;refine region ?_;refine S Mv ?_;refine SI ?_;refine S As (nil ?_);exact x _ ((j+1),q) wA b (dl k)
  rw [ij] at b;have b:=ku p b;try dsimp only at b
  refine ah.exit ?_;obtain⟨P,G,b⟩:=fo b;have b:=ku G b;exact w _ q wA b
 rintro Q b;try dsimp only at b
 refine aa (S BU ?_);refine Sf ?_;refine S As (nil ?_);exact rt b
def iQ (b:Bs):Bool:=(((((b==([73,110,116]:Bs)))||((b==([83,116,114,105,110,103]:Bs))))||((b==([66,111,111,108,101,97,110]:Bs))))||((b==([73,68]:Bs))))
def wo (b:Bs):Option Bool:=some (iQ b)
theorem rB (a0:Bs):wo a0=some (iQ a0):=rfl
theorem rC {f:Bs}{r:Bool}(b:wo f=some r) (H:ag) :AC Tryz.prog 149 [.d (.str f)] H fun v h'=>v=.a (.d (.bool r))/\h'=H:=by
 unfold wo iQ at b;refine AC.oW 17 [.tmp 2] Tryz.call149 Tryz.func149 ?_;refine aa (S As (nil ?_));refine aa (S Mv (S BS (S Mv (G0 Mv ?_))));refine G1 6 rfl BS ?_;refine S PO (S Mv (G0 Mv ?_));refine G1 10 rfl BS ?_;refine S PO (S Mv (G0 Mv ?_));refine G1 14 rfl BS ?_;refine S PO (S As (nil ?_));exact rt b
def mI (b:Bs):Option Bool:=aQ ((decide ((2:Int)<=((b.length:Nat):Int)))) (b[0]?) (0:UInt8) fun f=>aQ (((decide ((2:Int)<=((b.length:Nat):Int)))&&(decide (((f.toNat:Nat):Int)=(95:Int))))) (b[1]?) (0:UInt8) fun g=>some (((decide ((2:Int)<=((b.length:Nat):Int)))&&(decide (((f.toNat:Nat):Int)=(95:Int))))&&(decide (((g.toNat:Nat):Int)=(95:Int))))
def Ai (b:Bs):Option Bool:=mI b
theorem GR (a0:Bs):Ai a0=mI a0:=rfl
theorem GS {f:Bs}{r:Bool}(b:Ai f=some r) (H:ag) :AC Tryz.prog 117 [.d (.str f)] H fun v h'=>v=.a (.d (.bool r))/\h'=H:=by
 unfold Ai mI at b;refine AC.oW 16 [.tmp 2] Tryz.call117 Tryz.func117 ?_;refine aa (S As (nil ?_));refine aa (S Mv ?_);refine kE (TK rfl) rfl rfl rfl rfl fun j=>?_;refine S BI (S Mv (G0 Mv ?_));obtain⟨l,g,b⟩:=dB rfl b;refine gC rfl rfl (fun hC=>aI (k:=7) rfl (mm (n:=0) (TK rfl) rfl rfl rfl (g hC))) rfl ?_;refine G1 8 rfl BI ?_;refine S PA (S Mv (G0 Mv ?_));obtain⟨m,i,b⟩:=dB rfl b
 refine gC rfl rfl (fun hC=>aI (k:=12) rfl (mm (n:=1) (TK rfl) rfl rfl rfl (i hC))) rfl ?_;refine G1 13 rfl BI ?_;refine S PA (S As (nil ?_));exact rt b
def rD (f:Bs):Option Bool:=on (bQ f) fun b=>aQ (b) (mI f) false fun g=>some (b&&(!g))
def Aj (b:Bs):Option Bool:=rD b
theorem GU (a0:Bs):Aj a0=rD a0:=rfl
theorem GV {f:Bs}{r:Bool}(b:Aj f=some r) (H:ag) :AC Tryz.prog 194 [.d (.str f)] H fun v h'=>v=.a (.d (.bool r))/\h'=H:=by
 unfold Aj rD at b;refine AC.oW 10 [.tmp 2] Tryz.call194 Tryz.func194 ?_;refine aa (S As (nil ?_));refine aa (S Mv ?_);obtain⟨j,g,b⟩:=vT (jh _) b;refine Sc rfl rfl (ji g) ?_;refine S Mv (G0 Mv ?_);obtain⟨k,i,b⟩:=dB (GR _) b;refine dH 6 rfl rfl rfl rfl rfl (fun hC=>GS (i hC)) ?_;refine G1 7 rfl NB ?_;refine S PA (S As (nil ?_));exact rt b
def jO (m:Bs) (f:Bool) (o:Bool) (g:Bs):Option (Sl Z5):=aQ (!f) (rD m) false fun i=>Option.bind (bif (f||(!i)) then((bp 24 (Sl.nil:Sl Z5) (⟨false,[(Z5.mk (6:Int) g)]⟩:Sl Z5)).bind fun j=>some j) else(some (Sl.nil:Sl Z5))) fun b=>Option.bind (bif o then((bp 24 b (⟨false,[(Z5.mk (7:Int) g)]⟩:Sl Z5)).bind fun k=>some k) else(some b)) fun l=>some l
def rE (b:Bs) (f:Bool) (g:Bool) (i:Bs):Option (Sl Z5):=jO b f g i
theorem tR (a0:Bs) (a1:Bool) (a2:Bool) (a3:Bs):rE a0 a1 a2 a3=jO a0 a1 a2 a3:=rfl
theorem Ak {t:Bs}{u i:Bool}{j:Bs}{r:Sl Z5}(b:rE t u i j=some r) (H:ag) :AC Tryz.prog 150 [.d (.str t),.d (.bool u),.d (.bool i),.d (.str j)] H fun v h'=>v=.a (.d (Sl.d 2 Z5.c none r))/\h'=H:=by
 unfold rE jO at b;refine AC.oW 28 [.tmp 8] Tryz.call150 Tryz.func150 ?_;refine ah.tok 2 fun f k=>?_;refine aa ?_;refine s0 (fJ (k':=2) rfl) rfl ?_;refine nil ?_;refine aa (S As (nil ?_));refine ah.fH 9 2 f rfl aJ ?_;refine aP (TA 2 (TA 3 kN)) (fun(z:(Sl Z5))=>[(9,.a (.d (Sl.d 2 Z5.c (some f) z)))]) (fun z=>(H.set f (some (.tok 2 z.l.length)))) (fun z=>(Option.bind (bif i then((bp 24 z (⟨false,[(Z5.mk (7:Int) j)]⟩:Sl Z5)).bind fun g=>some g) else(some z)) fun m=>some m)=some r) ?_ ?_
 ·intro I o;refine aa (S Mv (S Mv (G0 Mv ?_)));obtain⟨J,w,b⟩:=dB (GU _) b;refine dH 12 rfl rfl rfl rfl rfl (fun hC=>GV (w hC)) ?_;refine G1 13 rfl NB ?_;refine S PO (nil ?_);obtain⟨K,p,b⟩:=cG b;refine cO b (fun x b=>?_) (fun x b=>?_)
  ·refine region ?_;refine S Mv (S Mv (S BU (S BV ?_)));obtain⟨q,y,b⟩:=qO rfl b;refine SH (am Z5.c (TK rfl) rfl (TK rfl) (TK rfl) y) ?_;refine hq (H.set f (some (.tok 2 q.l.length))) ?_;refine S As (nil ?_);have b:=ku p b;exact o _ q wA b
  refine ah.skip ?_;have b:=ku p b;exact o _ (Sl.nil:Sl Z5) wA b
 rintro B b;try dsimp only at b
 obtain⟨C,E,b⟩:=cG b;refine aP kN (fun(z:(Sl Z5))=>[(9,.a (.d (Sl.d 2 Z5.c (some f) z)))]) (fun z=>(H.set f (some (.tok 2 z.l.length)))) (fun z=>C z=some r) ?_ ?_
 ·intro L s;refine aa (S Mv (nil ?_));refine cO b (fun F b=>?_) (fun F b=>?_)
  ·refine region ?_;refine S Mv (S Mv (S BU (S BV ?_)));obtain⟨g,G,b⟩:=qO rfl b;refine SH (am Z5.c (TK rfl) rfl (TK rfl) (TK rfl) G) ?_;refine hq (H.set f (some (.tok 2 g.l.length))) ?_;refine S As (nil ?_);exact s _ g wA b
  refine ah.skip ?_;exact s _ B wA b
 rintro m b;try dsimp only at b
 have b:=ku E b;refine aa (S Mv (S As (nil ?_)));refine ah.f_ 8 rfl ?_;refine ah.ret ?_;repeat (first|refine bM ?_|refine bN ?_)
 obtain rfl:=oJ b;refine bF.bK H rfl ⟨rfl,rfl⟩ ?_
 first|exact ag.bX k|(simp only [ag.set_set]; exact ag.bX k)
theorem Pa {s:Bs}{t i:Bool}{j:Bs}{r:Sl Z5}(b:rE s t i j=some r) (H:ag){f:Nat}(G:H f=some (.tok 2 0)):AC Tryz.prog 150 [.d (.str s),.d (.bool t),.d (.bool i),.d (.str j)] H fun v h'=>v=.a (.d (Sl.d 2 Z5.c (some f) r))/\h'=H.set f (some (.tok 2 r.l.length)):=by
 unfold rE jO at b;refine AC.oW 28 [.tmp 8] Tryz.call150 Tryz.func150 ?_;refine ah.ga (h':=(H.set f (some (.tok 2 0)))) (by funext n_; simp only [ag.set]; (repeat' split)<;>simp_all) ?_;refine aa (S As (nil ?_));refine aa (S As (nil ?_));refine ah.fH 9 2 f rfl aJ ?_;refine aP (TA 2 (TA 3 kN)) (fun(z:(Sl Z5))=>[(9,.a (.d (Sl.d 2 Z5.c (some f) z)))]) (fun z=>(H.set f (some (.tok 2 z.l.length)))) (fun z=>(Option.bind (bif i then((bp 24 z (⟨false,[(Z5.mk (7:Int) j)]⟩:Sl Z5)).bind fun g=>some g) else(some z)) fun k=>some k)=some r) ?_ ?_
 ·intro I m;refine aa (S Mv (S Mv (G0 Mv ?_)));obtain⟨J,u,b⟩:=dB (GU _) b;refine dH 12 rfl rfl rfl rfl rfl (fun hC=>GV (u hC)) ?_;refine G1 13 rfl NB ?_;refine S PO (nil ?_);obtain⟨K,o,b⟩:=cG b;refine cO b (fun w b=>?_) (fun w b=>?_)
  ·refine region ?_;refine S Mv (S Mv (S BU (S BV ?_)));obtain⟨p,x,b⟩:=qO rfl b;refine SH (am Z5.c (TK rfl) rfl (TK rfl) (TK rfl) x) ?_;refine hq (H.set f (some (.tok 2 p.l.length))) ?_;refine S As (nil ?_);have b:=ku o b;exact m _ p wA b
  refine ah.skip ?_;have b:=ku o b;exact m _ (Sl.nil:Sl Z5) wA b
 rintro y b;try dsimp only at b
 obtain⟨B,C,b⟩:=cG b;refine aP kN (fun(z:(Sl Z5))=>[(9,.a (.d (Sl.d 2 Z5.c (some f) z)))]) (fun z=>(H.set f (some (.tok 2 z.l.length)))) (fun z=>B z=some r) ?_ ?_
 ·intro L q;refine aa (S Mv (nil ?_));refine cO b (fun E b=>?_) (fun E b=>?_)
  ·refine region ?_;refine S Mv (S Mv (S BU (S BV ?_)));obtain⟨g,F,b⟩:=qO rfl b;refine SH (am Z5.c (TK rfl) rfl (TK rfl) (TK rfl) F) ?_;refine hq (H.set f (some (.tok 2 g.l.length))) ?_;refine S As (nil ?_);exact q _ g wA b
  refine ah.skip ?_;exact q _ y wA b
 rintro k b;try dsimp only at b
 have b:=ku C b;refine aa (S Mv (S As (nil ?_)));exact rt b
def wq (b:az):Bool:=on (bif (decide (b.ak=(1:Int))) then((decide (b.ak=(1:Int)))) else((decide (b.ak=(2:Int))))) fun f=>bif f then((decide (((b.br.l.length:Nat):Int)=(0:Int)))) else(on (bif (decide (b.ak=(3:Int))) then((decide (b.ak=(3:Int)))) else((decide (b.ak=(4:Int))))) fun g=>bif g then((decide (((b.cm.l.length:Nat):Int)=(0:Int)))) else(bif (decide (b.ak=(5:Int))) then((decide (((b.bP.l.length:Nat):Int)=(0:Int)))) else(on (()) fun _=>false)))
def wu (b:az):Option Bool:=some (wq b)
theorem Pb (a0:az):wu a0=some (wq a0):=rfl
theorem Pc {g:az}{r:Bool}(b:wu g=some r) (H:ag) :AC Tryz.prog 151 [.agg (az.c g)] H fun v h'=>v=.a (.d (.bool r))/\h'=H:=by
 unfold wu wq at b;refine AC.oW 25 [.tmp 2] Tryz.call151 Tryz.func151 ?_;refine aa (S BX (S As (nil ?_)));refine aP kN (fun(z:Unit)=>[]) (fun z=>H) (fun z=>some (false)=some r) ?_ ?_
 ·intro B k;refine aa (S Fv (S Ld (nil ?_)));refine block ?_;obtain⟨l,m,b⟩:=fo b;refine aP (TA 1 (TA 4 kN)) (fun(z:Bool)=>[(5,.a (.d (.bool z)))]) (fun z=>H) (fun z=>l z=some r) ?_ ?_
  ·intro C i;refine aa (S BI (S As (nil ?_)));refine cP b (fun o b=>?_) (fun o b=>?_)
   ·refine ah.skip ?_;exact i _ (decide (g.ak=(1:Int))) wA b
   refine region ?_;refine S BI (S As (nil ?_));exact i _ (decide (g.ak=(2:Int))) wA b
  rintro E b;try dsimp only at b
  have b:=ku m b;refine cP b (fun p b=>?_) (fun p b=>?_)
  ·refine aa (S Fv (S Ld ?_));refine sLen (f:=Z6.c) (s:=g.br) (TK rfl) rfl rfl rfl rfl fun F=>?_;refine S BI (S As (nil ?_));exact rt b
  obtain⟨q,t,b⟩:=fo b;refine aP (TA 1 (TA 4 kN)) (fun(z:Bool)=>[(12,.a (.d (.bool z)))]) (fun z=>H) (fun z=>q z=some r) ?_ ?_
  ·intro G j;refine aa (S BI (S As (nil ?_)));refine cP b (fun u b=>?_) (fun u b=>?_)
   ·refine ah.skip ?_;exact j _ (decide (g.ak=(3:Int))) wA b
   refine region ?_;refine S BI (S As (nil ?_));exact j _ (decide (g.ak=(4:Int))) wA b
  rintro I b;try dsimp only at b
  have b:=ku t b;refine cP b (fun w b=>?_) (fun w b=>?_)
  ·refine aa (S Fv (S Ld ?_));refine sLen (f:=Z9.c) (s:=g.cm) (TK rfl) rfl rfl rfl rfl fun J=>?_;refine S BI (S As (nil ?_));exact rt b
  refine aa (S BI (S As (nil ?_)));refine cP b (fun x b=>?_) (fun x b=>?_)
  ·refine aa (S Fv (S Ld ?_));refine sLen (f:=Z8.c) (s:=g.bP) (TK rfl) rfl rfl rfl rfl fun K=>?_;refine S BI (S As (nil ?_));exact rt b
  refine ah.skip ?_;obtain⟨L,y,b⟩:=fo b;have b:=ku y b;exact k _ () wA b
 rintro _ b;try dsimp only at b
 refine aa (S As (nil ?_));exact rt b
def mJ (b:Bs):List Bs->Unit ⊕ Bool
 | []=>Sum.inl ()
 | f::g=>on (f) fun i=>bif ((i==b)) then(Sum.inr true) else(mJ b (g) )
def rF (g:(Sl Bs)) (i:Bs):Bool:=on (mJ i g.l ) fun b=>match b with|Sum.inl _=>(on (()) fun _=>false)|Sum.inr f=>(f)
def wv (b:(Sl Bs)) (f:Bs):Option Bool:=some (rF b f)
theorem GW (a0:(Sl Bs)) (a1:Bs):wv a0 a1=some (rF a0 a1):=rfl
theorem GX {g:Sl Bs}{i:Bs}{w0:Option Nat}{r:Bool}(b:wv g i=some r) (H:ag) :AC Tryz.prog 196 [.d (Sl.d 1 aM w0 g),.d (.str i)] H fun v h'=>v=.a (.d (.bool r))/\h'=H:=by
 unfold wv rF at b;refine AC.oW 18 [.tmp 4] Tryz.call196 Tryz.func196 ?_;refine aa (S As (nil ?_));refine aP kN (fun(z:Unit)=>[]) (fun z=>H) (fun z=>some (false)=some r) ?_ ?_
 ·intro F u;refine aa (S As (nil ?_));refine block ?_;obtain⟨k,m,b⟩:=fo b;refine bD (TA 0 (TA 1 kN)) (fun(z:Nat)=>[(5,.a (.d (.int .i64 ((z:Nat):Int))))]) (fun z=>H) (fun z=>g.l.length-z) (fun z=>k (mJ i (g.l.drop z) )=some r) 0 b wA ?_;rintro o b G w;try dsimp only at b
  refine ay fun x p=>?_;refine aa (S Mv (S Mv ?_));refine sLen (f:=aM) (s:=g) (TK rfl) rfl rfl rfl rfl fun I=>?_;refine S BI (nil ?_);refine ah.cL (fun l=>k (mJ i l )=some r) b rfl (fun J q j b=>?_) (fun j b=>?_)
  ·rw [mJ] at b;try dsimp only at j
   have K:=oD j;refine sk p ?_;clear p x;refine ay fun y t=>?_;refine block ?_;refine aa (S Mv (S Mv ?_));obtain⟨L,B,b⟩:=vP q b;refine S (ix aM o B) (S Ld (S Mv (S BS (nil ?_))));refine cP b (fun C b=>?_) (fun C b=>?_)
   ·refine aa (S As (nil ?_));refine ah.ret ?_;repeat (first|refine bM ?_|refine bN ?_)
    have b:=ku m b;obtain rfl:=oJ b;refine bF.bK H rfl ⟨rfl,rfl⟩ ?_;exact(fun _ _ h=>h)
   refine sk t ?_;clear t y;refine region ?_;refine S Mv ?_;refine SI ?_;refine S As (nil ?_);exact w _ (o+1) wA b (dl q)
  rw [mJ] at b;have b:=ku m b;try dsimp only at b
  refine ah.exit ?_;obtain⟨M,E,b⟩:=fo b;have b:=ku E b;exact u _ () wA b
 rintro _ b;try dsimp only at b
 refine aa (S As (nil ?_));exact rt b
def rG (b:aB):Option Bool:=aQ ((decide (((b.aX.l.length:Nat):Int)=(1:Int)))) (b.aX.l[0]?) (0:Int) fun f=>some ((decide (((b.aX.l.length:Nat):Int)=(1:Int)))&&(decide (f=(1:Int))))
def Al (b:aB):Option Bool:=rG b
theorem Pd (a0:aB):Al a0=rG a0:=rfl
theorem Pe {g:aB}{r:Bool}(b:Al g=some r) (H:ag) :AC Tryz.prog 227 [.agg (aB.c g)] H fun v h'=>v=.a (.d (.bool r))/\h'=H:=by
 unfold Al rG at b;refine AC.oW 14 [.tmp 2] Tryz.call227 Tryz.func227 ?_;refine aa (S BX (S As (nil ?_)));refine aa (S Fv (S Ld ?_));refine sLen (f:=(bE .i64)) (s:=g.aX) (TK rfl) rfl rfl rfl rfl fun j=>?_;refine S BI (S Mv (G0 Fv ?_));refine G1 8 rfl Ld ?_;obtain⟨l,i,b⟩:=dB rfl b;refine gC rfl rfl (fun hC=>aI (k:=9) rfl (eO (f:=(bE .i64)) (n:=0) (TK rfl) rfl (TK rfl) rfl rfl rfl (i hC))) rfl ?_
 refine G1 10 rfl Ld ?_;refine G1 11 rfl BI ?_;refine S PA (S As (nil ?_));exact rt b
def mK (k:ar) (i:Bs):List Z8->(Sl Bs)->Option ((Sl Bs))
 | [],f=>some f
 | l::m,f=>on (l) fun b=>on (cV k b.aO.ai) fun g=>(rG b.aO).bind fun j=>on (bif (j&&(((b.aO.ai==i))||(g.2&&(decide (g.1.ak=(5:Int)))))) then rF f b.aO.ai else false) fun o=>Option.bind (bif ((j&&(((b.aO.ai==i))||(g.2&&(decide (g.1.ak=(5:Int))))))&&(!o)) then((bp 16 f (⟨false,[b.aO.ai]⟩:Sl Bs)).bind fun p=>some p) else(some f)) fun q=>mK k i (m) q
def tS (g:ar) (i:az) (j:Bs) (k:(Sl Bs)):Option (Sl Bs):=Option.bind (mK g j i.bP.l k) fun b=>on (b) fun f=>some f
def tT (b:ar) (f:az) (g:Bs) (i:(Sl Bs)):Option (Sl Bs):=tS b f g i
theorem GY (a0:ar) (a1:az) (a2:Bs) (a3:(Sl Bs)):tT a0 a1 a2 a3=tS a0 a1 a2 a3:=rfl
theorem GZ {i:ar}{g:az}{j:Bs}{m:Sl Bs}{g3:Nat}{r:Sl Bs}(b:tT i g j m=some r) (H:ag) (Q:H g3=some (.tok 1 m.l.length)):AC Tryz.prog 195 [.agg (ar.c i),.agg (az.c g),.d (.str j),.d (Sl.d 1 aM (some g3) m)] H fun v h'=>v=.a (.d (Sl.d 1 aM (some g3) r))/\h'=(H.set g3 (some (.tok 1 r.l.length))):=by
 unfold tT tS at b;refine AC.oW 62 [.tmp 8] Tryz.call195 Tryz.func195 ?_;refine ah.ga (h':=(H.set g3 (some (.tok 1 m.l.length)))) (by funext n_; simp only [ag.set]; (repeat' split)<;>simp_all) ?_;refine aa (S BX (S BX (S As (nil ?_))));refine aP kN (fun(z:(Sl Bs))=>[(3,.a (.d (Sl.d 1 aM (some g3) z)))]) (fun z=>(H.set g3 (some (.tok 1 z.l.length)))) (fun z=>(some z)=some r) ?_ ?_
 ·intro R C;refine aa (S As (nil ?_));refine block ?_;obtain⟨o,E,b⟩:=cG b;refine bD (TA 2 (TA 4 (TA 5 kN))) (fun(z:(Sl Bs)×Nat)=>[(3,.a (.d (Sl.d 1 aM (some g3) z.1))),(9,.a (.d (.int .i64 ((z.2:Nat):Int))))]) (fun z=>(H.set g3 (some (.tok 1 z.1.l.length)))) (fun z=>g.bP.l.length-z.2) (fun z=>Option.bind (mK i j (g.bP.l.drop z.2) z.1) o=some r) (m,0) b wA ?_
  rintro ⟨p,q⟩ b U F;try dsimp only at b
  refine ay fun G u=>?_;refine aa (S Mv (S Fv (S Ld ?_)));refine sLen (f:=Z8.c) (s:=g.bP) (TK rfl) rfl rfl rfl rfl fun W=>?_;refine S BI (nil ?_);refine ah.cL (fun l=>Option.bind (mK i j l p) o=some r) b rfl (fun X w t b=>?_) (fun t b=>?_)
  ·rw [mK] at b;try dsimp only at t
   have Y:=oD t;refine sk u ?_;clear u G;refine aP (TA 2 (TA 4 (TA 5 (TA 9 kN)))) (fun(z:(Sl Bs))=>[(3,.a (.d (Sl.d 1 aM (some g3) z)))]) (fun z=>(H.set g3 (some (.tok 1 z.l.length)))) (fun z=>Option.bind (mK i j (g.bP.l.drop (q+1)) z) o=some r) ?_ ?_
   ·intro Z x;refine block ?_;refine aa (S Fv (S Ld (S Mv ?_)));obtain⟨ab,I,b⟩:=vO w b;refine S (ix Z8.c q I) (S Fv (S Ld ?_));refine Sl ?_;refine Sf ?_;refine nil ?_;refine bH 10 _ rfl (KA 2 (KA 3 (KA 4 (KA 5 (KA 9 aU.nil))))) ?_;refine aa (S Ld (S Fv (S Ld ?_)));obtain⟨ad,J,b⟩:=vO (jj _ _) b;refine Sc rfl rfl (jk J) ?_;refine S Mv (S EX (S EX ?_))
    refine Sl ?_;refine Sf ?_;refine S As (nil ?_);refine bH 11 _ rfl (KA 2 (KA 3 (KA 4 (KA 5 (KA 9 (KA 10 (KA 12 aU.nil))))))) ?_;refine aa (S Ld ?_);obtain⟨ae,K,b⟩:=qO (Pd _) b;refine Sc rfl rfl (Pe K) ?_;refine S Mv (G0 Fv ?_);refine G1 36 rfl Ld ?_;refine G0 Mv ?_;refine G2 37 38 rfl rfl BS ?_;refine G1 39 rfl Mv ?_;refine G0 Mv ?_;refine G1 41 rfl Mv ?_;refine G0 Fv ?_
    refine G1 43 rfl Ld ?_;refine G1 44 rfl BI ?_;refine gC rfl rfl (fun hC=>aI (k:=42) rfl (gF rfl rfl rfl)) rfl ?_;refine gC rfl rfl (fun hC=>aI (k:=40) rfl (pM rfl rfl rfl)) rfl ?_;refine S PA (S Mv (G0 Mv (G0 Fv ?_)));refine G1 51 rfl Ld ?_;obtain⟨af,L,b⟩:=eV (fun _=>(GW _ _)) b;refine fq 50 52 rfl rfl rfl rfl rfl rfl (fun hC=>GX (L hC)) ?_;refine G1 53 rfl NB ?_
    refine S PA (nil ?_);obtain⟨ai,y,b⟩:=eG b;refine cO b (fun M b=>?_) (fun M b=>?_)
    ·refine region ?_;refine S Mv (S Fv (S Ld (S BV ?_)));obtain⟨B,N,b⟩:=qO rfl b;refine SH (am aM (TK rfl) rfl (TK rfl) (TK rfl) N) ?_;refine hq (H.set g3 (some (.tok 1 B.l.length))) ?_;refine S As (nil ?_);have b:=ku y b;exact x _ B wA b
    refine ah.skip ?_;have b:=ku y b;exact x _ p wA b
   rintro O b;try dsimp only at b
   refine region ?_;refine S Mv ?_;refine SI ?_;refine S As (nil ?_);exact F _ (O,(q+1)) wA b (dl w)
  rw [mK] at b;have b:=ku E b;refine ah.exit ?_;obtain⟨aj,P,b⟩:=cC b;have b:=ku P b;exact C _ p wA b
 rintro ak b;try dsimp only at b
 refine aa (S Mv (S As (nil ?_)));exact rt b
def ww (g:az)  (b:(Sl Bs)):Option Bool:=(wv b g.ai).bind fun f=>some f
def rH (g:ar) (i:az) :Nat->(Sl Bs)->Nat->Option Bool
 | 0,_,_=>none
 | j+1,b,f=>bif (decide (((f:Nat):Int)<((b.l.length:Nat):Int))) then((b.l[f]?).bind fun k=>(wm g k).bind fun m=>(tT g m.1 i.ai b).bind fun o=>(rH g i j) o (f+1)) else(ww i  b)
def tU (f:ar) (b:az):Option Bool:=bif (!decide (b.ak=(5:Int))) then(some false) else((tT f b b.ai (Sl.nil:Sl Bs)).bind fun g=>rH f b F0 g 0)
theorem Pg {o:ar}{j:az}{r:Bool}(b:tU o j=some r) (H:ag) :AC Tryz.prog 152 [.agg (ar.c o),.agg (az.c j)] H fun v h'=>v=.a (.d (.bool r))/\h'=H:=by
 unfold tU at b;refine AC.oW 42 [.tmp 4] Tryz.call152 Tryz.func152 ?_;refine ah.tok 1 fun g i=>?_;refine aa (S BX (S BX (S As (nil ?_))));refine ay fun C p=>?_;refine aa (S Fv (S Ld (S BI (nil ?_))));refine cE b (fun E b=>?_) (fun E b=>?_)
 ·refine aa (S As (nil ?_));refine ah.ret ?_;repeat (first|refine bM ?_|refine bN ?_)
  obtain rfl:=oJ b;refine bF.bK H rfl ⟨rfl,rfl⟩ ?_
  first|exact ag.bX i|(simp only [ag.set_set]; exact ag.bX i)
 refine sk p ?_;clear p C;refine aa (S Ld (S Ld (S Fv (S Ld ?_))));obtain⟨q,F,b⟩:=bO b;refine sH (cU rfl rfl (AC.MV (.cons (.refl _) (.cons (.refl _) (.cons (.refl _) (.cons (lB.nil (k':=1) (t:=g) aJ) .nil)))) (GZ F _ aJ))) rfl ?_;refine hq (H.set g (some (.tok 1 q.l.length))) ?_;refine S As (nil ?_);refine aP (TA 3 kN) (fun(z:(Sl Bs))=>[(5,.a (.d (Sl.d 1 aM (some g) z)))]) (fun z=>(H.set g (some (.tok 1 z.l.length)))) (fun z=>ww j z=some r) ?_ ?_
 ·intro P G;refine aa (S As (nil ?_));refine block ?_;refine bD (TA 2 (TA 3 kN)) (fun(z:Nat×(Sl Bs)×Nat)=>[(5,.a (.d (Sl.d 1 aM (some g) z.2.1))),(6,.a (.d (.int .i64 ((z.2.2:Nat):Int))))]) (fun z=>(H.set g (some (.tok 1 z.2.1.l.length)))) (fun z=>z.1) (fun z=>rH o j z.1 z.2.1 z.2.2=some r) (F0,q,0) b wA ?_;rintro ⟨k,u,w⟩ b Q I;try dsimp only at b
  cases k with
  | zero=>cases b
  | succ k =>
    rw [rH] at b;refine ay fun J x=>?_;refine aa (S Mv (S Mv ?_));refine sLen (f:=aM) (s:=u) (TK rfl) rfl rfl rfl rfl fun R=>?_;refine S BI (nil ?_);refine cE b (fun m b=>?_) (fun m b=>?_)
    ·try dsimp only at m
     have U:=oD m;refine sk x ?_;clear x J;refine ay fun K y=>?_;refine block ?_;refine ah.cH (Sd Ld (Sd Mv (Sd Mv ?_)));obtain⟨W,L,b⟩:=bO b;refine Sd (ix aM w L) (Sd Ld ?_);obtain⟨X,M,b⟩:=bO b;refine cN rfl rfl (jk M) ?_;refine Sd Mv (Sd EX (Sd EX ?_));refine au.sB (TK rfl) rfl rfl ?_ (by repeat (first|exact bT.nil|apply bT.cons))
     refine au.dU (eA (TK rfl) rfl rfl rfl rfl rfl) ?_;refine Sd As ?_;refine au.nil (by decide +kernel) ?_;refine bH 7 _ rfl (KA 2 (KA 3 (KA 5 (KA 6 aU.nil)))) ?_;refine region ?_;refine S Ld (S Ld (S Fv (S Ld (S Mv ?_))));obtain⟨B,N,b⟩:=bO b;refine sH (cU rfl rfl (GZ N _ aJ)) rfl ?_;refine hq (H.set g (some (.tok 1 B.l.length))) ?_;refine S As (nil ?_)
     refine y _ ?_;clear y K;refine region ?_;refine S Mv ?_;refine SI ?_;refine S As (nil ?_);exact I _ (k,B,(w+1)) wA b (nS _)
    refine ah.exit ?_;exact G _ u wA b
 rintro Y b;try dsimp only at b
 unfold ww at b;refine aa (S Mv (S Fv (S Ld ?_)));obtain⟨Z,O,b⟩:=bO b;refine Sc rfl rfl (GX O) ?_;refine S As (nil ?_);refine ah.ret ?_;repeat (first|refine bM ?_|refine bN ?_)
 obtain rfl:=oJ b;refine bF.bK H rfl ⟨rfl,rfl⟩ ?_
 first|exact ag.bX i|(simp only [ag.set_set]; exact ag.bX i)
def rI  (b:(Sl Z5)):Option (Sl Z5):=some b
def nY (j:ar) (b:az)  (f:(Sl Z5)):Option (Sl Z5):=(tU j b).bind fun g=>bif g then((bp 24 f (⟨false,[(Z5.mk (5:Int) b.ai)]⟩:Sl Z5)).bind fun i=>rI   i) else(rI   f)
def nZ (g:ar) (b:az)  (f:(Sl Z5)):Option (Sl Z5):=bif (((((((b.ai==([81,117,101,114,121]:Bs)))||((b.ai==([77,117,116,97,116,105,111,110]:Bs))))||((b.ai==([83,117,98,115,99,114,105,112,116,105,111,110]:Bs))))&&(!decide (b.ak=(1:Int))))||(decide (b.ak<(1:Int))))||(decide ((5:Int)<b.ak))) then((bp 24 f (⟨false,[(Z5.mk (9:Int) b.ai)]⟩:Sl Z5)).bind fun i=>nY g b  i) else(nY g b  f)
def p7 (g:ar) (b:az)  (i:Bool):Option (Sl Z5):=(rE b.ai false i b.ai).bind fun f=>(wu b).bind fun j=>bif j then((bp 24 f (⟨false,[(Z5.mk (8:Int) b.ai)]⟩:Sl Z5)).bind fun k=>nZ g b  k) else(nZ g b  f)
def mL (i:ar) (j:Int) (b:az) :Nat->Bool->Int->Option (Sl Z5)
 | 0,_,_=>none
 | k+1,f,g=>bif (decide (g<j)) then(aQ (!f) (cq i.aD.l g) az.zero fun m=>(bY g (1:Int)).bind fun o=>(mL i j b k) (f||((m.ai==b.ai))) o) else(p7 i b  f)
def p8 (f:ar) (g:Int):Option (Sl Z5):=(cq f.aD.l g).bind fun b=>(wo b.ai).bind fun i=>mL f g b F0 i (0:Int)
theorem Ph {i:ar}{o:Int}{r:Sl Z5}(b:p8 i o=some r) (H:ag) :AC Tryz.prog 96 [.agg (ar.c i),.d (.int .i64 o)] H fun v h'=>v=.a (.d (Sl.d 2 Z5.c none r))/\h'=H:=by
 unfold p8 at b;refine AC.oW 94 [.tmp 4] Tryz.call96 Tryz.func96 ?_;refine aa (S BX ?_);refine s0 (fJ (k':=2) rfl) rfl ?_;refine nil ?_;refine aa (S Fv (S Ld (S Mv ?_)));obtain⟨j,F,b⟩:=bO b;refine s0 (fI (f:=az.c) (TK rfl) rfl (TK rfl) rfl rfl rfl F) rfl ?_;refine S Ld ?_;refine Sl ?_;refine Sf ?_;refine nil ?_;refine bH 5 _ rfl (KA 1 (KA 2 aU.nil)) ?_;refine aa (S Fv (S Ld ?_))
 obtain⟨G,I,b⟩:=bO b;refine Sc rfl rfl (rC I) ?_;refine S As (nil ?_);refine aP (TA 2 (TA 5 kN)) (fun(z:Bool)=>[(6,.a (.d (.bool z)))]) (fun z=>H) (fun z=>p7 i j z=some r) ?_ ?_
 ·intro al J;refine aa (S As (nil ?_));refine block ?_;refine bD (TA 1 (TA 2 (TA 5 kN))) (fun(z:Nat×Bool×Int)=>[(6,.a (.d (.bool z.2.1))),(7,.a (.d (.int .i64 z.2.2)))]) (fun z=>H) (fun z=>z.1) (fun z=>mL i o j z.1 z.2.1 z.2.2=some r) (F0,G,(0:Int)) b wA ?_;rintro ⟨m,p,an⟩ b ao K;try dsimp only at b
  cases m with
  | zero=>cases b
  | succ m =>
    rw [mL] at b;refine ay fun L q=>?_;refine aa (S Mv (S Mv (S BI (nil ?_))));refine cE b (fun M b=>?_) (fun M b=>?_)
    ·refine sk q ?_;clear q L;refine ay fun N s=>?_;refine block ?_;refine ah.draw rfl ?_;refine Sd Mv (Sd Mv (cr Fv ?_));refine cK 25 rfl Ld ?_;refine cr Mv ?_;obtain⟨O,P,b⟩:=gO b;refine au.gC rfl rfl (fun hC=>aI (k:=26) rfl (aI (k:=27) rfl (fI (f:=az.c) (TK rfl) rfl (TK rfl) rfl rfl rfl (P hC)))) rfl ?_;refine cK 28 rfl Fv ?_;refine cK 29 rfl Ld ?_;refine cr Fv ?_
     refine cK 31 rfl Ld ?_;refine q_ 30 32 rfl rfl BS ?_;refine Sd PO (Sd As ?_);refine au.nil (by decide +kernel) ?_;refine s _ ?_;clear s N;refine region ?_;refine S Mv ?_;obtain⟨Q,R,b⟩:=bO b;refine s0 (dc rfl rfl R) rfl ?_;refine S As (nil ?_);exact K _ (m,(p||((O.ai==j.ai))),Q) wA b (nS _)
    refine ah.exit ?_;exact J _ p wA b
 rintro ap b;try dsimp only at b
 unfold p7 at b;refine ah.tok 2 fun g t=>?_;refine aa (S Fv (S Ld (S Mv (S Fv (S Ld ?_)))));obtain⟨u,U,b⟩:=bO b;refine sH (cU rfl rfl (Pa U _ aJ)) rfl ?_;refine hq (H.set g (some (.tok 2 u.l.length))) ?_;refine S As (nil ?_);refine aP (TA 2 (TA 5 kN)) (fun(z:(Sl Z5))=>[(8,.a (.d (Sl.d 2 Z5.c (some g) z)))]) (fun z=>(H.set g (some (.tok 2 z.l.length)))) (fun z=>nZ i j z=some r) ?_ ?_
 ·intro av w;refine aa (S Ld ?_);obtain⟨aw,W,b⟩:=bO b;refine Sc rfl rfl (Pc W) ?_;refine nil ?_;refine cE b (fun X b=>?_) (fun X b=>?_)
  ·refine region ?_;refine S Mv (S Fv (S Ld (S BU (S BV ?_))));obtain⟨x,Y,b⟩:=bO b;refine SH (am Z5.c (TK rfl) rfl (TK rfl) (TK rfl) Y) ?_;refine hq (H.set g (some (.tok 2 x.l.length))) ?_;refine S As (nil ?_);exact w _ x wA b
  refine ah.skip ?_;exact w _ u wA b
 rintro Z b;try dsimp only at b
 unfold nZ at b;refine aa (S Fv (S Ld (S BS (S Mv (G0 Fv ?_)))));refine G1 53 rfl Ld ?_;refine G1 54 rfl BS ?_;refine S PO (S Mv (G0 Fv ?_));refine G1 58 rfl Ld ?_;refine G1 59 rfl BS ?_;refine S PO (S As (nil ?_));refine aP (TA 2 (TA 5 kN)) (fun(z:(Sl Z5))=>[(8,.a (.d (Sl.d 2 Z5.c (some g) z)))]) (fun z=>(H.set g (some (.tok 2 z.l.length)))) (fun z=>nY i j z=some r) ?_ ?_
 ·intro ax y;refine aa (S Mv (S Mv (G0 Fv ?_)));refine G1 64 rfl Ld ?_;refine G1 65 rfl BI ?_;refine S PA (S Mv (G0 Fv ?_));refine G1 69 rfl Ld ?_;refine G1 70 rfl BI ?_;refine S PO (S Mv (G0 Fv ?_));refine G1 74 rfl Ld ?_;refine G1 75 rfl BI ?_;refine S PO (nil ?_);refine cE b (fun ab b=>?_) (fun ab b=>?_)
  ·refine region ?_;refine S Mv (S Fv (S Ld (S BU (S BV ?_))));obtain⟨B,ad,b⟩:=bO b;refine SH (am Z5.c (TK rfl) rfl (TK rfl) (TK rfl) ad) ?_;refine hq (H.set g (some (.tok 2 B.l.length))) ?_;refine S As (nil ?_);exact y _ B wA b
  refine ah.skip ?_;exact y _ Z wA b
 rintro ae b;try dsimp only at b
 unfold nY at b;refine aP kN (fun(z:(Sl Z5))=>[(8,.a (.d (Sl.d 2 Z5.c (some g) z)))]) (fun z=>(H.set g (some (.tok 2 z.l.length)))) (fun z=>rI z=some r) ?_ ?_
 ·intro aA C;refine aa (S Ld (S Ld ?_));obtain⟨aB,af,b⟩:=bO b;refine Sc rfl rfl (Pg af) ?_;refine nil ?_;refine cE b (fun aj b=>?_) (fun aj b=>?_)
  ·refine region ?_;refine S Mv (S Fv (S Ld (S BU (S BV ?_))));obtain⟨E,ak,b⟩:=bO b;refine SH (am Z5.c (TK rfl) rfl (TK rfl) (TK rfl) ak) ?_;refine hq (H.set g (some (.tok 2 E.l.length))) ?_;refine S As (nil ?_);exact C _ E wA b
  refine ah.skip ?_;exact C _ ae wA b
 rintro aC b;try dsimp only at b
 unfold rI at b;refine aa (S Mv (S As (nil ?_)));refine ah.f_ 4 rfl ?_;refine ah.ret ?_;repeat (first|refine bM ?_|refine bN ?_)
 obtain rfl:=oJ b;refine bF.bK H rfl ⟨rfl,rfl⟩ ?_
 first|exact ag.bX t|(simp only [ag.set_set]; exact ag.bX t)
def tV (b:ar) (f:Int):Option (Sl Z5):=p8 b f
theorem Pj (a0:ar) (a1:Int):p8 a0 a1=tV a0 a1:=rfl
def mM (i:ar) (b:Bs):Bool:=on (cV i b) fun f=>on (iQ b) fun g=>(g||f.2)
def Am (b:ar) (f:Bs):Option Bool:=some (mM b f)
theorem G3 (a0:ar) (a1:Bs):Am a0 a1=some (mM a0 a1):=rfl
theorem G4 {f:ar}{g:Bs}{r:Bool}(b:Am f g=some r) (H:ag) :AC Tryz.prog 153 [.agg (ar.c f),.d (.str g)] H fun v h'=>v=.a (.d (.bool r))/\h'=H:=by
 unfold Am mM at b;refine AC.oW 18 [.tmp 4] Tryz.call153 Tryz.func153 ?_;refine aa (S BX (S As (nil ?_)));refine aa (S Ld (S Mv ?_));obtain⟨k,i,b⟩:=vP (jj _ _) b;refine Sc rfl rfl (jk i) ?_;refine S Mv (S EX (S EX ?_));refine Sl ?_;refine Sf ?_;refine S As (nil ?_);refine bH 5 _ rfl (KA 1 (KA 6 aU.nil)) ?_;refine aa (S Mv ?_);obtain⟨l,j,b⟩:=vP (rB _) b
 refine Sc rfl rfl (rC j) ?_;refine S Mv (G0 Mv (S PO (S As (nil ?_))));exact rt b
def mN (f:Bs):List Z8->Unit ⊕ ((Z8×Bool))
 | []=>Sum.inl ()
 | b::g=>on (b) fun i=>bif ((i.ai==f)) then(on (b) fun j=>Sum.inr (j,true)) else(mN f (g) )
def jm (g:(Sl Z8)) (i:Bs):(Z8×Bool):=on (mN i g.l ) fun b=>match b with|Sum.inl _=>(on (()) fun _=>((Z8.mk ([]:Bs) aB.zero false af.zero (Sl.nil:Sl aN)),false))|Sum.inr f=>(f)
def An (b:(Sl Z8)) (f:Bs):Option (Z8×Bool):=some (jm b f)
theorem wx (a0:(Sl Z8)) (a1:Bs):An a0 a1=some (jm a0 a1):=rfl
theorem wy {g:Sl Z8}{i:Bs}{w0:Option Nat}{r:Z8×Bool}(b:An g i=some r) (H:ag) :AC Tryz.prog 154 [.d (Sl.d 10 Z8.c w0 g),.d (.str i)] H fun v h'=>v=.dM [.agg (Z8.c r.1),.d (.bool r.2)]/\h'=H:=by
 unfold An jm at b;refine AC.oW 25 [.cell 4 148,.tmp 5] Tryz.call154 Tryz.func154 ?_;refine aa ?_;refine Sl ?_;refine S As (nil ?_);refine fO (TA 4 kN) (fun(z:Z8)=>[]) (fun z=>[Z8.c z]) (fun z=>H) (fun z=>some (((Z8.mk ([]:Bs) aB.zero false af.zero (Sl.nil:Sl aN)),false))=some r) ?_ ?_
 ·intro I w;refine aa (S As (nil ?_));refine block ?_;obtain⟨o,p,b⟩:=fo b;refine jf (TA 0 (TA 1 (TA 4 kN))) (fun(z:Nat×Z8)=>[(6,.a (.d (.int .i64 ((z.1:Nat):Int))))]) (fun z=>[Z8.c z.2]) (fun z=>H) (fun z=>g.l.length-z.1) (fun z=>o (mN i (g.l.drop z.1) )=some r) (0,Z8.zero) b wA ?_;rintro ⟨j,q⟩ b J x;try dsimp only at b
  refine ay fun y t=>?_;refine aa (S Mv (S Mv ?_));refine sLen (f:=Z8.c) (s:=g) (TK rfl) rfl rfl rfl rfl fun K=>?_;refine S BI (nil ?_);refine ah.cL (fun l=>o (mN i l )=some r) b rfl (fun L k m b=>?_) (fun m b=>?_)
  ·rw [mN] at b;try dsimp only at m
   have M:=oD m;refine sk t ?_;clear t y;refine ay fun B u=>?_;refine block ?_;refine aa (S Mv (S Mv ?_));obtain⟨N,C,b⟩:=vP k b;refine S (ix Z8.c j C) (S Fv (S Ld (S Mv (S BS (nil ?_)))));refine cP b (fun E b=>?_) (fun E b=>?_)
   ·refine aa (S Mv (S Mv ?_));obtain⟨O,F,b⟩:=vP k b;refine S (ix Z8.c j F) (S Ld ?_);refine Sf ?_;refine S As (nil ?_);refine ah.ret ?_;repeat (first|refine bM ?_|refine bN ?_)
    have b:=ku p b;obtain rfl:=oJ b;refine bF.bK H rfl ⟨rfl,rfl⟩ ?_;exact(fun _ _ h=>h)
   refine sk u ?_;clear u B;refine region ?_;refine S Mv ?_;refine SI ?_;refine S As (nil ?_);exact x _ ((j+1),q) wA b (dl k)
  rw [mN] at b;have b:=ku p b;try dsimp only at b
  refine ah.exit ?_;obtain⟨P,G,b⟩:=fo b;have b:=ku G b;exact w _ q wA b
 rintro Q b;try dsimp only at b
 refine aa (S BU ?_);refine Sf ?_;refine S As (nil ?_);exact rt b
def tW (i:ar) (f:Bs):Bool:=on (cV i f) fun b=>on (iQ f) fun g=>(g||(b.2&&(decide (b.1.ak=(4:Int)))))
def Ao (b:ar) (f:Bs):Option Bool:=some (tW b f)
theorem G5 (a0:ar) (a1:Bs):Ao a0 a1=some (tW a0 a1):=rfl
theorem G6 {f:ar}{g:Bs}{r:Bool}(b:Ao f g=some r) (H:ag) :AC Tryz.prog 121 [.agg (ar.c f),.d (.str g)] H fun v h'=>v=.a (.d (.bool r))/\h'=H:=by
 unfold Ao tW at b;refine AC.oW 23 [.tmp 4] Tryz.call121 Tryz.func121 ?_;refine aa (S BX (S As (nil ?_)));refine aa (S Ld (S Mv ?_));obtain⟨l,i,b⟩:=vP (jj _ _) b;refine Sc rfl rfl (jk i) ?_;refine S Mv (S EX (S EX ?_));refine Sl ?_;refine Sf ?_;refine S As (nil ?_);refine bH 5 _ rfl (KA 1 (KA 6 aU.nil)) ?_;refine aa (S Mv ?_);obtain⟨m,j,b⟩:=vP (rB _) b
 refine Sc rfl rfl (rC j) ?_;refine S Mv (G0 Mv ?_);refine G1 16 rfl Mv ?_;refine G0 Fv ?_;refine G1 18 rfl Ld ?_;refine G1 19 rfl BI ?_;refine gC rfl rfl (fun hC=>aI (k:=17) rfl (gF rfl rfl rfl)) rfl ?_;refine S PO (S As (nil ?_));exact rt b
def jo (f:ar) (g:Bs):Bool:=on (cV f g) fun b=>on (tW f g) fun i=>(i||(b.2&&(decide (b.1.ak=(5:Int)))))
def Ap (b:ar) (f:Bs):Option Bool:=some (jo b f)
theorem Aq (a0:ar) (a1:Bs):Ap a0 a1=some (jo a0 a1):=rfl
theorem Ar {f:ar}{g:Bs}{r:Bool}(b:Ap f g=some r) (H:ag) :AC Tryz.prog 155 [.agg (ar.c f),.d (.str g)] H fun v h'=>v=.a (.d (.bool r))/\h'=H:=by
 unfold Ap jo at b;refine AC.oW 24 [.tmp 4] Tryz.call155 Tryz.func155 ?_;refine aa (S BX (S As (nil ?_)));refine aa (S Ld (S Mv ?_));obtain⟨l,i,b⟩:=vP (jj _ _) b;refine Sc rfl rfl (jk i) ?_;refine S Mv (S EX (S EX ?_));refine Sl ?_;refine Sf ?_;refine S As (nil ?_);refine bH 5 _ rfl (KA 1 (KA 2 (KA 6 aU.nil))) ?_;refine aa (S Ld (S Mv ?_));obtain⟨m,j,b⟩:=vP (G5 _ _) b
 refine Sc rfl rfl (G6 j) ?_;refine S Mv (G0 Mv ?_);refine G1 17 rfl Mv ?_;refine G0 Fv ?_;refine G1 19 rfl Ld ?_;refine G1 20 rfl BI ?_;refine gC rfl rfl (fun hC=>aI (k:=18) rfl (gF rfl rfl rfl)) rfl ?_;refine S PO (S As (nil ?_));exact rt b
def jq (k:ar) (m:(Sl Z8)) (o:Bs) (p:Bs):List Z8->Nat->(Sl Z5)->Option ((Sl Z5))
 | [],f,g=>some g
 | b::q,f,g=>on (b) fun r=>(a_ o r.ai).bind fun s=>(a_ s p).bind fun i=>on ((⟨m.nl,m.l.take f⟩:Sl Z8)) fun t=>on (b) fun u=>on (jm t u.ai) fun v=>on (b) fun w=>(jO w.ai false v.2 i).bind fun x=>(bp 24 g x).bind fun j=>on (b) fun y=>on (mM k y.aO.ai) fun z=>Option.bind (bif (!z) then((bp 24 j (⟨false,[(Z5.mk (8:Int) i)]⟩:Sl Z5)).bind fun B=>some B) else(on (b) fun C=>on (jo k C.aO.ai) fun E=>bif (!E) then((bp 24 j (⟨false,[(Z5.mk (10:Int) i)]⟩:Sl Z5)).bind fun F=>some F) else(some j))) fun G=>jq k m o p (q) (f+1) G
def jP (i:ar) (b:(Sl Z8)) (j:Bs) (k:Bs):Option (Sl Z5):=Option.bind (jq i b j k b.l 0 (Sl.nil:Sl Z5)) fun f=>on (f) fun g=>some g
def Au (b:ar) (f:(Sl Z8)) (g:Bs) (i:Bs):Option (Sl Z5):=jP b f g i
theorem G7 (a0:ar) (a1:(Sl Z8)) (a2:Bs) (a3:Bs):Au a0 a1 a2 a3=jP a0 a1 a2 a3:=rfl
theorem G8 {m:ar}{j:Sl Z8}{o p:Bs}{G:Option Nat}{r:Sl Z5}(b:Au m j o p=some r) (H:ag) :AC Tryz.prog 99 [.agg (ar.c m),.d (Sl.d 10 Z8.c G j),.d (.str o),.d (.str p)] H fun v h'=>v=.a (.d (Sl.d 2 Z5.c none r))/\h'=H:=by
 unfold Au jP at b;refine AC.oW 80 [.tmp 8] Tryz.call99 Tryz.func99 ?_;refine ah.tok 2 fun g x=>?_;refine aa (S BX ?_);refine s0 (fJ (k':=2) rfl) rfl ?_;refine nil ?_;refine aa (S As (nil ?_));refine ah.fH 9 2 g rfl aJ ?_;refine aP kN (fun(z:(Sl Z5))=>[(9,.a (.d (Sl.d 2 Z5.c (some g) z)))]) (fun z=>(H.set g (some (.tok 2 z.l.length)))) (fun z=>(some z)=some r) ?_ ?_
 ·intro ao I;refine aa (S As (nil ?_));refine block ?_;obtain⟨q,J,b⟩:=cG b;refine bD (TA 1 (TA 2 (TA 3 (TA 4 kN)))) (fun(z:(Sl Z5)×Nat)=>[(9,.a (.d (Sl.d 2 Z5.c (some g) z.1))),(10,.a (.d (.int .i64 ((z.2:Nat):Int))))]) (fun z=>(H.set g (some (.tok 2 z.1.l.length)))) (fun z=>j.l.length-z.2) (fun z=>Option.bind (jq m j o p (j.l.drop z.2) z.2 z.1) q=some r) ((Sl.nil:Sl Z5),0) b wA ?_
  rintro ⟨y,i⟩ b ap K;try dsimp only at b
  refine ay fun L B=>?_;refine aa (S Mv (S Mv ?_));refine sLen (f:=Z8.c) (s:=j) (TK rfl) rfl rfl rfl rfl fun av=>?_;refine S BI (nil ?_);refine ah.cL (fun l=>Option.bind (jq m j o p l i y) q=some r) b rfl (fun aw k t b=>?_) (fun t b=>?_)
  ·rw [jq] at b;try dsimp only at t
   have ax:=oD t;refine sk B ?_;clear B L;refine aP (TA 1 (TA 2 (TA 3 (TA 4 (TA 10 kN))))) (fun(z:(Sl Z5))=>[(9,.a (.d (Sl.d 2 Z5.c (some g) z)))]) (fun z=>(H.set g (some (.tok 2 z.l.length)))) (fun z=>Option.bind (jq m j o p (j.l.drop (i+1)) (i+1) z) q=some r) ?_ ?_
   ·intro az u;refine block ?_;refine aa (S Mv (S Mv (S Mv ?_)));obtain⟨aA,M,b⟩:=vO k b;refine S (ix Z8.c i M) (S Fv (S Ld ?_));obtain⟨aB,N,b⟩:=qO rfl b;refine s0 (bL rfl rfl N) rfl ?_;refine S Mv ?_;obtain⟨aC,O,b⟩:=qO rfl b;refine s0 (bL rfl rfl O) rfl ?_;refine S As (nil ?_);refine ah.cH (Sd Mv (Sd Mv ?_));obtain⟨aD,P,b⟩:=vO (Q.vM (by omega)) b
    refine au.s0 (qX (f:=Z8.c) (l:=none) (r:=(some ((i:Nat):Int))) (TK rfl) rfl (TK rfl) rfl rfl trivial rfl P) rfl ?_;refine Sd Mv (Sd Mv ?_);obtain⟨aE,R,b⟩:=vO k b;refine Sd (ix Z8.c i R) (Sd Fv (Sd Ld ?_));obtain⟨aF,U,b⟩:=vO (wx _ _) b;refine cN rfl rfl (wy U) ?_;refine Sd Mv (Sd EX (Sd EX ?_));refine au.sB (TK rfl) rfl rfl ?_ (by repeat (first|exact bT.nil|apply bT.cons))
    refine au.dU (eA (TK rfl) rfl rfl rfl rfl rfl) ?_;refine Sd As ?_;refine au.nil (by decide +kernel) ?_;refine bH 12 _ rfl (KA 1 (KA 2 (KA 3 (KA 4 (KA 9 (KA 10 (KA 11 (KA 13 aU.nil)))))))) ?_;refine aa (S Mv (S Mv (S Mv ?_)));obtain⟨aG,W,b⟩:=vO k b;refine S (ix Z8.c i W) (S Fv (S Ld (S Mv (S Mv ?_))));obtain⟨aH,X,b⟩:=qO (tR _ _ _ _) b;refine Sc rfl rfl (Ak X) ?_
    obtain⟨C,Y,b⟩:=qO rfl b;refine SH (am Z5.c (TK rfl) rfl (TK rfl) (TK rfl) Y) ?_;refine hq (H.set g (some (.tok 2 C.l.length))) ?_;refine S As (nil ?_);refine ah.cH (Sd Ld (Sd Mv (Sd Mv ?_)));obtain⟨aI,Z,b⟩:=vO k b;refine Sd (ix Z8.c i Z) (Sd Fv (Sd Fv (Sd Ld ?_)));obtain⟨aK,ab,b⟩:=vO (G3 _ _) b;refine cN rfl rfl (G4 ab) ?_;refine Sd NB ?_;refine au.nil (by decide +kernel) ?_
    obtain⟨aL,w,b⟩:=eG b;refine cO b (fun ad b=>?_) (fun ad b=>?_)
    ·refine region ?_;refine S Mv (S Mv (S BU (S BV ?_)));obtain⟨E,ae,b⟩:=qO rfl b;refine SH (am Z5.c (TK rfl) rfl (TK rfl) (TK rfl) ae) ?_;refine hq (H.set g (some (.tok 2 E.l.length))) ?_;refine S As (nil ?_);have b:=ku w b;exact u _ E wA b
    refine ah.cH (Sd Ld (Sd Mv (Sd Mv ?_)));obtain⟨aM,af,b⟩:=vO k b;refine Sd (ix Z8.c i af) (Sd Fv (Sd Fv (Sd Ld ?_)));obtain⟨aN,ai,b⟩:=vO (Aq _ _) b;refine cN rfl rfl (Ar ai) ?_;refine Sd NB ?_;refine au.nil (by decide +kernel) ?_;refine cO b (fun aj b=>?_) (fun aj b=>?_)
    ·refine region ?_;refine S Mv (S Mv (S BU (S BV ?_)));obtain⟨F,ak,b⟩:=qO rfl b;refine SH (am Z5.c (TK rfl) rfl (TK rfl) (TK rfl) ak) ?_;refine hq (H.set g (some (.tok 2 F.l.length))) ?_;refine S As (nil ?_);have b:=ku w b;exact u _ F wA b
    refine ah.skip ?_;have b:=ku w b;exact u _ C wA b
   rintro al b;try dsimp only at b
   refine region ?_;refine S Mv ?_;refine SI ?_;refine S As (nil ?_);exact K _ (al,(i+1)) wA b (dl k)
  rw [jq] at b;have b:=ku J b;refine ah.exit ?_;obtain⟨aO,an,b⟩:=cC b;have b:=ku an b;exact I _ y wA b
 rintro aQ b;try dsimp only at b
 refine aa (S Mv (S As (nil ?_)));refine ah.f_ 8 rfl ?_;refine ah.ret ?_;repeat (first|refine bM ?_|refine bN ?_)
 obtain rfl:=oJ b;refine bF.bK H rfl ⟨rfl,rfl⟩ ?_
 first|exact ag.bX x|(simp only [ag.set_set]; exact ag.bX x)
def iC (f:Bs):List Z6->Unit ⊕ ((Z6×Bool))
 | []=>Sum.inl ()
 | b::g=>on (b) fun i=>bif ((i.ai==f)) then(on (b) fun j=>Sum.inr (j,true)) else(iC f (g) )
def gb (g:az) (i:Bs):(Z6×Bool):=on (iC i g.br.l ) fun b=>match b with|Sum.inl _=>(on (()) fun _=>((Z6.mk ([]:Bs) (Sl.nil:Sl Z8) aB.zero (Sl.nil:Sl aN)),false))|Sum.inr f=>(f)
def Av (b:az) (f:Bs):Option (Z6×Bool):=some (gb b f)
theorem Aw (a0:az) (a1:Bs):Av a0 a1=some (gb a0 a1):=rfl
theorem Ax {g:az}{i:Bs}{r:Z6×Bool}(b:Av g i=some r) (H:ag) :AC Tryz.prog 119 [.agg (az.c g),.d (.str i)] H fun v h'=>v=.dM [.agg (Z6.c r.1),.d (.bool r.2)]/\h'=H:=by
 unfold Av gb at b;refine AC.oW 28 [.cell 4 104,.tmp 5] Tryz.call119 Tryz.func119 ?_;refine aa (S BX ?_);refine Sl ?_;refine S As (nil ?_);refine fO (TA 4 kN) (fun(z:Z6)=>[]) (fun z=>[Z6.c z]) (fun z=>H) (fun z=>some (((Z6.mk ([]:Bs) (Sl.nil:Sl Z8) aB.zero (Sl.nil:Sl aN)),false))=some r) ?_ ?_
 ·intro I w;refine aa (S As (nil ?_));refine block ?_;obtain⟨o,p,b⟩:=fo b;refine jf (TA 1 (TA 2 (TA 4 kN))) (fun(z:Nat×Z6)=>[(6,.a (.d (.int .i64 ((z.1:Nat):Int))))]) (fun z=>[Z6.c z.2]) (fun z=>H) (fun z=>g.br.l.length-z.1) (fun z=>o (iC i (g.br.l.drop z.1) )=some r) (0,Z6.zero) b wA ?_;rintro ⟨j,q⟩ b J x;try dsimp only at b
  refine ay fun y t=>?_;refine aa (S Mv (S Fv (S Ld ?_)));refine sLen (f:=Z6.c) (s:=g.br) (TK rfl) rfl rfl rfl rfl fun K=>?_;refine S BI (nil ?_);refine ah.cL (fun l=>o (iC i l )=some r) b rfl (fun L k m b=>?_) (fun m b=>?_)
  ·rw [iC] at b;try dsimp only at m
   have M:=oD m;refine sk t ?_;clear t y;refine ay fun B u=>?_;refine block ?_;refine aa (S Fv (S Ld (S Mv ?_)));obtain⟨N,C,b⟩:=vP k b;refine S (ix Z6.c j C) (S Fv (S Ld (S Mv (S BS (nil ?_)))));refine cP b (fun E b=>?_) (fun E b=>?_)
   ·refine aa (S Fv (S Ld (S Mv ?_)));obtain⟨O,F,b⟩:=vP k b;refine S (ix Z6.c j F) (S Ld ?_);refine Sf ?_;refine S As (nil ?_);refine ah.ret ?_;repeat (first|refine bM ?_|refine bN ?_)
    have b:=ku p b;obtain rfl:=oJ b;refine bF.bK H rfl ⟨rfl,rfl⟩ ?_;exact(fun _ _ h=>h)
   refine sk u ?_;clear u B;refine region ?_;refine S Mv ?_;refine SI ?_;refine S As (nil ?_);exact x _ ((j+1),q) wA b (dl k)
  rw [iC] at b;have b:=ku p b;try dsimp only at b
  refine ah.exit ?_;obtain⟨P,G,b⟩:=fo b;have b:=ku G b;exact w _ q wA b
 rintro Q b;try dsimp only at b
 refine aa (S BU ?_);refine Sf ?_;refine S As (nil ?_);exact rt b
def iD (g:ar) (i:az):List Z6->Nat->(Sl Z5)->Option ((Sl Z5))
 | [],j,k=>some k
 | p::q,j,k=>on (p) fun b=>(a_ i.ai ([46]:Bs)).bind fun r=>(a_ r b.ai).bind fun f=>on ((⟨i.br.nl,i.br.l.take j⟩:Sl Z6)) fun s=>on (gb (az.mk (0:Int) ([]:Bs) (Sl.nil:Sl Bs) (Sl.nil:Sl aN) s (Sl.nil:Sl Z9) (Sl.nil:Sl Z8)) b.ai) fun t=>(jO b.ai false t.2 f).bind fun u=>(bp 24 k u).bind fun m=>on (cV g b.aO.ai) fun o=>on (mM g b.aO.ai) fun v=>Option.bind (bif (!v) then((bp 24 m (⟨false,[(Z5.mk (8:Int) f)]⟩:Sl Z5)).bind fun w=>some w) else(on (iQ b.aO.ai) fun x=>bif (((!x)&&o.2)&&(decide (o.1.ak=(5:Int)))) then((bp 24 m (⟨false,[(Z5.mk (10:Int) f)]⟩:Sl Z5)).bind fun y=>some y) else(some m))) fun z=>(a_ f ([40]:Bs)).bind fun B=>(jP g b.aG B ([41]:Bs)).bind fun C=>(bp 24 z C).bind fun E=>on (E) fun F=>iD g i (q) (j+1) F
def oa (i:ar) (b:az):Option (Sl Z5):=Option.bind (iD i b b.br.l 0 (Sl.nil:Sl Z5)) fun f=>on (f) fun g=>some g
def Ay (b:ar) (f:az):Option (Sl Z5):=oa b f
theorem Pk (a0:ar) (a1:az):Ay a0 a1=oa a0 a1:=rfl
theorem Pm {k:ar}{i:az}{r:Sl Z5}(b:Ay k i=some r) (H:ag) :AC Tryz.prog 97 [.agg (ar.c k),.agg (az.c i)] H fun v h'=>v=.a (.d (Sl.d 2 Z5.c none r))/\h'=H:=by
 unfold Ay oa at b;refine AC.oW 95 [.tmp 4] Tryz.call97 Tryz.func97 ?_;refine ah.tok 2 fun g w=>?_;refine aa (S BX (S BX ?_));refine s0 (fJ (k':=2) rfl) rfl ?_;refine nil ?_;refine aa (S As (nil ?_));refine ah.fH 5 2 g rfl aJ ?_;refine aP kN (fun(z:(Sl Z5))=>[(5,.a (.d (Sl.d 2 Z5.c (some g) z)))]) (fun z=>(H.set g (some (.tok 2 z.l.length)))) (fun z=>(some z)=some r) ?_ ?_
 ·intro ax J;refine aa (S As (nil ?_));refine block ?_;obtain⟨m,K,b⟩:=cG b;refine bD (TA 2 (TA 3 kN)) (fun(z:(Sl Z5)×Nat)=>[(5,.a (.d (Sl.d 2 Z5.c (some g) z.1))),(6,.a (.d (.int .i64 ((z.2:Nat):Int))))]) (fun z=>(H.set g (some (.tok 2 z.1.l.length)))) (fun z=>i.br.l.length-z.2) (fun z=>Option.bind (iD k i (i.br.l.drop z.2) z.2 z.1) m=some r) ((Sl.nil:Sl Z5),0) b wA ?_
  rintro ⟨x,j⟩ b aA L;try dsimp only at b
  refine ay fun M y=>?_;refine aa (S Mv (S Fv (S Ld ?_)));refine sLen (f:=Z6.c) (s:=i.br) (TK rfl) rfl rfl rfl rfl fun aB=>?_;refine S BI (nil ?_);refine ah.cL (fun l=>Option.bind (iD k i l j x) m=some r) b rfl (fun aC B p b=>?_) (fun p b=>?_)
  ·rw [iD] at b;try dsimp only at p
   have aD:=oD p;refine sk y ?_;clear y M;refine aP (TA 2 (TA 3 (TA 6 kN))) (fun(z:(Sl Z5))=>[(5,.a (.d (Sl.d 2 Z5.c (some g) z)))]) (fun z=>(H.set g (some (.tok 2 z.l.length)))) (fun z=>Option.bind (iD k i (i.br.l.drop (j+1)) (j+1) z) m=some r) ?_ ?_
   ·intro aE N;refine block ?_;refine aa (S Fv (S Ld (S Mv ?_)));obtain⟨O,P,b⟩:=vO B b;refine S (ix Z6.c j P) (S Ld ?_);refine Sl ?_;refine Sf ?_;refine nil ?_;refine bH 7 _ rfl (KA 2 (KA 3 (KA 5 (KA 6 aU.nil)))) ?_;refine aa (S Fv (S Ld ?_));obtain⟨aF,R,b⟩:=qO rfl b;refine s0 (bL rfl rfl R) rfl ?_;refine S Fv (S Ld ?_);obtain⟨U,W,b⟩:=qO rfl b;refine s0 (bL rfl rfl W) rfl ?_
    refine S As (nil ?_);refine ah.cH (Sd Fv (Sd Ld (Sd Mv ?_)));obtain⟨aH,X,b⟩:=vO (Q.vM (by omega)) b;refine au.s0 (qX (f:=Z6.c) (l:=none) (r:=(some ((j:Nat):Int))) (TK rfl) rfl (TK rfl) rfl rfl trivial rfl X) rfl ?_;refine Sd BU (Sd Fv (Sd Ld ?_));obtain⟨aI,Y,b⟩:=vO (Aw _ _) b;refine cN rfl rfl (Ax Y) ?_;refine Sd Mv (Sd EX (Sd EX ?_));refine au.sB (TK rfl) rfl rfl ?_ (by repeat (first|exact bT.nil|apply bT.cons))
    refine au.dU (eA (TK rfl) rfl rfl rfl rfl rfl) ?_;refine Sd As ?_;refine au.nil (by decide +kernel) ?_;refine bH 9 _ rfl (KA 2 (KA 3 (KA 5 (KA 6 (KA 7 (KA 8 (KA 10 aU.nil))))))) ?_;refine aa (S Mv (S Fv (S Ld (S Mv (S Mv ?_)))));obtain⟨aK,Z,b⟩:=qO (tR _ _ _ _) b;refine Sc rfl rfl (Ak Z) ?_;obtain⟨C,ab,b⟩:=qO rfl b;refine SH (am Z5.c (TK rfl) rfl (TK rfl) (TK rfl) ab) ?_
    refine hq (H.set g (some (.tok 2 C.l.length))) ?_;refine S As (nil ?_);refine aa (S Ld (S Fv (S Fv (S Ld ?_))));obtain⟨aL,ad,b⟩:=vO (jj _ _) b;refine Sc rfl rfl (jk ad) ?_;refine S Mv (S EX (S EX ?_));refine Sl ?_;refine Sf ?_;refine S As (nil ?_);refine bH 11 _ rfl (KA 2 (KA 3 (KA 5 (KA 6 (KA 7 (KA 8 (KA 12 aU.nil))))))) ?_;refine aP (TA 2 (TA 3 (TA 6 (TA 7 (TA 8 kN))))) (fun(z:(Sl Z5))=>[(5,.a (.d (Sl.d 2 Z5.c (some g) z)))]) (fun z=>(H.set g (some (.tok 2 z.l.length)))) (fun z=>Option.bind ((a_ U ([40]:Bs)).bind fun E=>(jP k O.aG E ([41]:Bs)).bind fun F=>(bp 24 z F).bind fun o=>on (o) fun q=>iD k i (i.br.l.drop (j+1)) (j+1) q) m=some r) ?_ ?_
    ·intro aM t;refine aa (S Ld (S Fv (S Fv (S Ld ?_))));obtain⟨aN,ae,b⟩:=vO (G3 _ _) b;refine Sc rfl rfl (G4 ae) ?_;refine S NB (nil ?_);obtain⟨aO,u,b⟩:=eG b;refine cO b (fun af b=>?_) (fun af b=>?_)
     ·refine region ?_;refine S Mv (S Mv (S BU (S BV ?_)));obtain⟨G,ai,b⟩:=qO rfl b;refine SH (am Z5.c (TK rfl) rfl (TK rfl) (TK rfl) ai) ?_;refine hq (H.set g (some (.tok 2 G.l.length))) ?_;refine S As (nil ?_);have b:=ku u b;exact t _ G wA b
     refine aa (S Fv (S Fv (S Ld ?_)));obtain⟨aQ,aj,b⟩:=vO (rB _) b;refine Sc rfl rfl (rC aj) ?_;refine S NB (S Mv (G0 Mv (S PA (S Mv (G0 Fv ?_)))));refine G1 77 rfl Ld ?_;refine G1 78 rfl BI ?_;refine S PA (nil ?_);refine cO b (fun ak b=>?_) (fun ak b=>?_)
     ·refine region ?_;refine S Mv (S Mv (S BU (S BV ?_)));obtain⟨I,al,b⟩:=qO rfl b;refine SH (am Z5.c (TK rfl) rfl (TK rfl) (TK rfl) al) ?_;refine hq (H.set g (some (.tok 2 I.l.length))) ?_;refine S As (nil ?_);have b:=ku u b;exact t _ I wA b
     refine ah.skip ?_;have b:=ku u b;exact t _ C wA b
    rintro aR b;try dsimp only at b
    refine region ?_;refine S Mv (S Ld (S Fv (S Ld (S Mv ?_))));obtain⟨E,an,b⟩:=qO rfl b;refine s0 (bL rfl rfl an) rfl ?_;obtain⟨F,ao,b⟩:=qO (G7 _ _ _ _) b;refine Sc rfl rfl (G8 ao) ?_;obtain⟨o,ap,b⟩:=qO rfl b;refine SH (am Z5.c (TK rfl) rfl (TK rfl) (TK rfl) ap) ?_;refine hq (H.set g (some (.tok 2 o.l.length))) ?_;refine S As (nil ?_);obtain⟨aS,av,b⟩:=gP b
    have b:=ku av b;exact N _ o wA b
   rintro q b;try dsimp only at b
   refine region ?_;refine S Mv ?_;refine SI ?_;refine S As (nil ?_);exact L _ (q,(j+1)) wA b (dl B)
  rw [iD] at b;have b:=ku K b;refine ah.exit ?_;obtain⟨aT,aw,b⟩:=cC b;have b:=ku aw b;exact J _ x wA b
 rintro aV b;try dsimp only at b
 refine aa (S Mv (S As (nil ?_)));refine ah.f_ 4 rfl ?_;refine ah.ret ?_;repeat (first|refine bM ?_|refine bN ?_)
 obtain rfl:=oJ b;refine bF.bK H rfl ⟨rfl,rfl⟩ ?_
 first|exact ag.bX w|(simp only [ag.set_set]; exact ag.bX w)
def oc (i:az) (g:Z9):Nat->Nat->Bool->Option (Bool)
 | 0,f,b=>some b
 | j+1,f,b=>aQ (!b) (i.cm.l[f]?) Z9.zero fun k=>oc i g (j) (f+1) (b||((k.ai==g.ai)))
def lJ (i:az):List Z9->Nat->(Sl Z5)->Option ((Sl Z5))
 | [],f,g=>some g
 | j::k,f,g=>on (j) fun b=>Option.bind (oc i b f 0 false) fun l=>on (l) fun m=>(a_ i.ai ([46]:Bs)).bind fun o=>(a_ o b.ai).bind fun p=>(jO b.ai ((((b.ai==([116,114,117,101]:Bs)))||((b.ai==([102,97,108,115,101]:Bs))))||((b.ai==([110,117,108,108]:Bs)))) m p).bind fun q=>(bp 24 g q).bind fun r=>on (r) fun s=>lJ i (k) (f+1) s
def p9 (b:az):Option (Sl Z5):=Option.bind (lJ b b.cm.l 0 (Sl.nil:Sl Z5)) fun f=>on (f) fun g=>some g
def Az (b:az):Option (Sl Z5):=p9 b
theorem Pn (a0:az):Az a0=p9 a0:=rfl
theorem Po {g:az}{r:Sl Z5}(b:Az g=some r) (H:ag) :AC Tryz.prog 98 [.agg (az.c g)] H fun v h'=>v=.a (.d (Sl.d 2 Z5.c none r))/\h'=H:=by
 unfold Az p9 at b;refine AC.oW 58 [.tmp 2] Tryz.call98 Tryz.func98 ?_;refine ah.tok 2 fun i B=>?_;refine aa (S BX ?_);refine s0 (fJ (k':=2) rfl) rfl ?_;refine nil ?_;refine aa (S As (nil ?_));refine ah.fH 3 2 i rfl aJ ?_;refine aP kN (fun(z:(Sl Z5))=>[(3,.a (.d (Sl.d 2 Z5.c (some i) z)))]) (fun z=>(H.set i (some (.tok 2 z.l.length)))) (fun z=>(some z)=some r) ?_ ?_
 ·intro ar M;refine aa (S As (nil ?_));refine block ?_;obtain⟨p,N,b⟩:=cG b;refine bD (TA 1 kN) (fun(z:(Sl Z5)×Nat)=>[(3,.a (.d (Sl.d 2 Z5.c (some i) z.1))),(4,.a (.d (.int .i64 ((z.2:Nat):Int))))]) (fun z=>(H.set i (some (.tok 2 z.1.l.length)))) (fun z=>g.cm.l.length-z.2) (fun z=>Option.bind (lJ g (g.cm.l.drop z.2) z.2 z.1) p=some r) ((Sl.nil:Sl Z5),0) b wA ?_
  rintro ⟨o,j⟩ b au O;try dsimp only at b
  refine ay fun P C=>?_;refine aa (S Mv (S Fv (S Ld ?_)));refine sLen (f:=Z9.c) (s:=g.cm) (TK rfl) rfl rfl rfl rfl fun av=>?_;refine S BI (nil ?_);refine ah.cL (fun l=>Option.bind (lJ g l j o) p=some r) b rfl (fun aw E t b=>?_) (fun t b=>?_)
  ·rw [lJ] at b;try dsimp only at t
   have ax:=oD t;refine sk C ?_;clear C P;refine aP (TA 1 (TA 4 kN)) (fun(z:(Sl Z5))=>[(3,.a (.d (Sl.d 2 Z5.c (some i) z)))]) (fun z=>(H.set i (some (.tok 2 z.l.length)))) (fun z=>Option.bind (lJ g (g.cm.l.drop (j+1)) (j+1) z) p=some r) ?_ ?_
   ·intro aA Q;refine block ?_;refine aa (S Fv (S Ld (S Mv ?_)));obtain⟨m,R,b⟩:=vO E b;refine S (ix Z9.c j R) (S Fv (S Ld (S As (nil ?_))));refine aa (S As (nil ?_));refine aP (TA 1 (TA 3 (TA 4 (TA 5 kN)))) (fun(z:Bool)=>[(6,.a (.d (.bool z)))]) (fun z=>(H.set i (some (.tok 2 o.l.length)))) (fun z=>Option.bind ((a_ g.ai ([46]:Bs)).bind fun F=>(a_ F m.ai).bind fun G=>(jO m.ai ((((m.ai==([116,114,117,101]:Bs)))||((m.ai==([102,97,108,115,101]:Bs))))||((m.ai==([110,117,108,108]:Bs)))) z G).bind fun I=>(bp 24 o I).bind fun q=>on (q) fun u=>lJ g (g.cm.l.drop (j+1)) (j+1) u) p=some r) ?_ ?_
    ·intro aB U;refine aa (S As (nil ?_));refine block ?_;obtain⟨J,W,b⟩:=eG b;refine bD (TA 1 (TA 3 (TA 4 (TA 5 kN)))) (fun(z:Bool×Nat)=>[(6,.a (.d (.bool z.1))),(7,.a (.d (.int .i64 ((z.2:Nat):Int))))]) (fun z=>(H.set i (some (.tok 2 o.l.length)))) (fun z=>j-z.2) (fun z=>Option.bind (oc g m (j-z.2) z.2 z.1) J=some r) (false,0) b wA ?_;rintro ⟨w,x⟩ b aC X
     try dsimp only at b
     refine ay fun Y K=>?_;refine aa (S Mv (S Mv (S BI (nil ?_))));refine ah.zB (fun l=>Option.bind (oc g m l x w) J=some r) b rfl (fun Z y b=>?_) (fun y b=>?_)
     ·rw [oc] at b;try dsimp only at y
      have aD:=oD y;refine sk K ?_;clear K Y;refine ay fun ab L=>?_;refine block ?_;refine region ?_;refine S Mv (S Mv (G0 Fv ?_));refine G1 28 rfl Ld ?_;refine G0 Mv ?_;obtain⟨ad,ae,b⟩:=eR rfl b;refine gC rfl rfl (fun hC=>aI (k:=29) rfl (aI (k:=30) rfl (eO (f:=Z9.c) (n:=x) (TK rfl) rfl (TK rfl) rfl rfl rfl (ae hC)))) rfl ?_;refine G1 31 rfl Fv ?_
      refine G1 32 rfl Ld ?_;refine G0 Mv ?_;refine G2 33 34 rfl rfl BS ?_;refine S PO (S As (nil ?_));refine L _ ?_;clear L ab;refine region ?_;refine S Mv ?_;refine SI ?_;refine S As (nil ?_);exact X _ ((w||((ad.ai==m.ai))),(x+1)) wA b (dn Z)
     rw [oc] at b;have b:=ku W b;refine ah.exit ?_;obtain⟨aE,af,b⟩:=gP b;have b:=ku af b;exact U _ w wA b
    rintro aF b;try dsimp only at b
    refine region ?_;refine S Mv (S Mv (S Mv (S BS (S Mv (G0 Mv ?_)))));refine G1 42 rfl BS ?_;refine S PO (S Mv (G0 Mv ?_));refine G1 46 rfl BS ?_;refine S PO (S Mv (S Fv (S Ld ?_)));obtain⟨F,aj,b⟩:=qO rfl b;refine s0 (bL rfl rfl aj) rfl ?_;refine S Mv ?_;obtain⟨G,ak,b⟩:=qO rfl b;refine s0 (bL rfl rfl ak) rfl ?_;obtain⟨I,al,b⟩:=qO (tR _ _ _ _) b;refine Sc rfl rfl (Ak al) ?_
    obtain⟨q,an,b⟩:=qO rfl b;refine SH (am Z5.c (TK rfl) rfl (TK rfl) (TK rfl) an) ?_;refine hq (H.set i (some (.tok 2 q.l.length))) ?_;refine S As (nil ?_);obtain⟨aG,ao,b⟩:=gP b;have b:=ku ao b;exact Q _ q wA b
   rintro u b;try dsimp only at b
   refine region ?_;refine S Mv ?_;refine SI ?_;refine S As (nil ?_);exact O _ (u,(j+1)) wA b (dl E)
  rw [lJ] at b;have b:=ku N b;refine ah.exit ?_;obtain⟨aH,ap,b⟩:=cC b;have b:=ku ap b;exact M _ o wA b
 rintro aK b;try dsimp only at b
 refine aa (S Mv (S As (nil ?_)));refine ah.f_ 2 rfl ?_;refine ah.ret ?_;repeat (first|refine bM ?_|refine bN ?_)
 obtain rfl:=oJ b;refine bF.bK H rfl ⟨rfl,rfl⟩ ?_
 first|exact ag.bX B|(simp only [ag.set_set]; exact ag.bX B)
def jr (g:ar):List az->Nat->(Sl Z5)->Option ((Sl Z5))
 | [],i,j=>some j
 | k::l,i,j=>on (k) fun b=>(tV g ((i:Nat):Int)).bind fun m=>(bp 24 j m).bind fun f=>on (bif (decide (b.ak=(1:Int))) then((decide (b.ak=(1:Int)))) else((decide (b.ak=(2:Int))))) fun o=>Option.bind (bif o then((oa g b).bind fun p=>(bp 24 f p).bind fun q=>some q) else(bif (decide (b.ak=(4:Int))) then((p9 b).bind fun r=>(bp 24 f r).bind fun s=>some s) else(bif (decide (b.ak=(5:Int))) then((a_ b.ai ([46]:Bs)).bind fun t=>(jP g b.bP t ([]:Bs)).bind fun u=>(bp 24 f u).bind fun v=>some v) else(some f)))) fun w=>jr g (l) (i+1) w
def mQ (b:ar) (m:Bool):Option (Sl Z5):=Option.bind (jr b b.aD.l 0 (Sl.nil:Sl Z5)) fun g=>on (g) fun f=>on (cV b ([81,117,101,114,121]:Bs)) fun i=>Option.bind (bif (m&&(!i.2)) then((bp 24 f (⟨false,[(Z5.mk (30:Int) ([81,117,101,114,121]:Bs))]⟩:Sl Z5)).bind fun j=>some j) else(some f)) fun k=>some k
def AA (b:ar) (f:Bool):Option (Sl Z5):=mQ b f
theorem Pp (a0:ar) (a1:Bool):AA a0 a1=mQ a0 a1:=rfl
theorem Pq {i:ar}{u:Bool}{r:Sl Z5}(b:AA i u=some r) (H:ag){g:Nat}(aC:H g=some (.tok 2 0)):AC Tryz.prog 54 [.agg (ar.c i),.d (.bool u)] H fun v h'=>v=.a (.d (Sl.d 2 Z5.c (some g) r))/\h'=H.set g (some (.tok 2 r.l.length)):=by
 unfold AA mQ at b;refine AC.oW 69 [.tmp 4] Tryz.call54 Tryz.func54 ?_;refine ah.ga (h':=(H.set g (some (.tok 2 0)))) (by funext n_; simp only [ag.set]; (repeat' split)<;>simp_all) ?_;refine aa (S BX (S As (nil ?_)));refine aa (S As (nil ?_));refine ah.fH 5 2 g rfl aJ ?_;refine aP (TA 1 (TA 2 kN)) (fun(z:(Sl Z5))=>[(5,.a (.d (Sl.d 2 Z5.c (some g) z)))]) (fun z=>(H.set g (some (.tok 2 z.l.length)))) (fun z=>(on (cV i ([81,117,101,114,121]:Bs)) fun w=>Option.bind (bif (u&&(!w.2)) then((bp 24 z (⟨false,[(Z5.mk (30:Int) ([81,117,101,114,121]:Bs))]⟩:Sl Z5)).bind fun k=>some k) else(some z)) fun x=>some x)=some r) ?_ ?_
 ·intro aE L;refine aa (S As (nil ?_));refine block ?_;obtain⟨p,M,b⟩:=cG b;refine bD (TA 1 (TA 2 kN)) (fun(z:(Sl Z5)×Nat)=>[(5,.a (.d (Sl.d 2 Z5.c (some g) z.1))),(6,.a (.d (.int .i64 ((z.2:Nat):Int))))]) (fun z=>(H.set g (some (.tok 2 z.1.l.length)))) (fun z=>i.aD.l.length-z.2) (fun z=>Option.bind (jr i (i.aD.l.drop z.2) z.2 z.1) p=some r) ((Sl.nil:Sl Z5),0) b wA ?_
  rintro ⟨y,j⟩ b aF N;try dsimp only at b
  refine ay fun O B=>?_;refine aa (S Mv (S Fv (S Ld ?_)));refine sLen (f:=az.c) (s:=i.aD) (TK rfl) rfl rfl rfl rfl fun aG=>?_;refine S BI (nil ?_);refine ah.cL (fun l=>Option.bind (jr i l j y) p=some r) b rfl (fun aH C q b=>?_) (fun q b=>?_)
  ·rw [jr] at b;try dsimp only at q
   have aI:=oD q;refine sk B ?_;clear B O;refine aP (TA 1 (TA 2 (TA 6 kN))) (fun(z:(Sl Z5))=>[(5,.a (.d (Sl.d 2 Z5.c (some g) z)))]) (fun z=>(H.set g (some (.tok 2 z.l.length)))) (fun z=>Option.bind (jr i (i.aD.l.drop (j+1)) (j+1) z) p=some r) ?_ ?_
   ·intro aK m;refine block ?_;refine aa (S Fv (S Ld (S Mv ?_)));obtain⟨E,P,b⟩:=vO C b;refine S (ix az.c j P) (S Ld ?_);refine Sl ?_;refine Sf ?_;refine nil ?_;refine bH 7 _ rfl (KA 1 (KA 2 (KA 5 (KA 6 aU.nil)))) ?_;refine aa (S Mv (S Ld (S Mv ?_)));obtain⟨aL,Q,b⟩:=qO (Pj _ _) b;refine Sc rfl rfl (Ph Q) ?_;obtain⟨t,R,b⟩:=qO rfl b;refine SH (am Z5.c (TK rfl) rfl (TK rfl) (TK rfl) R) ?_
    refine hq (H.set g (some (.tok 2 t.l.length))) ?_;refine S As (nil ?_);refine aa (S Fv (S Ld (nil ?_)));refine block ?_;obtain⟨U,W,b⟩:=gP b;refine aP (TA 1 (TA 2 (TA 5 (TA 6 (TA 7 (TA 28 kN)))))) (fun(z:Bool)=>[(29,.a (.d (.bool z)))]) (fun z=>(H.set g (some (.tok 2 t.l.length)))) (fun z=>U z=some r) ?_ ?_
    ·intro aM F;refine aa (S BI (S As (nil ?_)));refine cP b (fun X b=>?_) (fun X b=>?_)
     ·refine ah.skip ?_;exact F _ (decide (E.ak=(1:Int))) wA b
     refine region ?_;refine S BI (S As (nil ?_));exact F _ (decide (E.ak=(2:Int))) wA b
    rintro aN b;try dsimp only at b
    have b:=ku W b;obtain⟨aO,o,b⟩:=eG b;refine cO b (fun Y b=>?_) (fun Y b=>?_)
    ·refine region ?_;refine S Mv (S Ld (S Ld ?_));obtain⟨aQ,Z,b⟩:=qO (Pk _ _) b;refine Sc rfl rfl (Pm Z) ?_;obtain⟨G,ab,b⟩:=qO rfl b;refine SH (am Z5.c (TK rfl) rfl (TK rfl) (TK rfl) ab) ?_;refine hq (H.set g (some (.tok 2 G.l.length))) ?_;refine S As (nil ?_);have b:=ku o b;exact m _ G wA b
    refine aa (S BI (S As (nil ?_)));refine cO b (fun ad b=>?_) (fun ad b=>?_)
    ·refine region ?_;refine S Mv (S Ld ?_);obtain⟨aR,ae,b⟩:=qO (Pn _) b;refine Sc rfl rfl (Po ae) ?_;obtain⟨I,af,b⟩:=qO rfl b;refine SH (am Z5.c (TK rfl) rfl (TK rfl) (TK rfl) af) ?_;refine hq (H.set g (some (.tok 2 I.l.length))) ?_;refine S As (nil ?_);have b:=ku o b;exact m _ I wA b
    refine aa (S BI (S As (nil ?_)));refine cO b (fun ai b=>?_) (fun ai b=>?_)
    ·refine region ?_;refine S Mv (S Ld (S Fv (S Ld (S Fv (S Ld ?_)))));obtain⟨aS,aj,b⟩:=qO rfl b;refine s0 (bL rfl rfl aj) rfl ?_;obtain⟨aT,al,b⟩:=qO (G7 _ _ _ _) b;refine Sc rfl rfl (G8 al) ?_;obtain⟨J,an,b⟩:=qO rfl b;refine SH (am Z5.c (TK rfl) rfl (TK rfl) (TK rfl) an) ?_;refine hq (H.set g (some (.tok 2 J.l.length))) ?_;refine S As (nil ?_);have b:=ku o b
     exact m _ J wA b
    refine ah.skip ?_;have b:=ku o b;exact m _ t wA b
   rintro ao b;try dsimp only at b
   refine region ?_;refine S Mv ?_;refine SI ?_;refine S As (nil ?_);exact N _ (ao,(j+1)) wA b (dl C)
  rw [jr] at b;have b:=ku M b;refine ah.exit ?_;obtain⟨aV,ap,b⟩:=cC b;have b:=ku ap b;exact L _ y wA b
 rintro au b;try dsimp only at b
 refine aa (S Ld ?_);obtain⟨w,av,b⟩:=vT (jj _ _) b;refine Sc rfl rfl (jk av) ?_;refine S Mv (S EX (S EX ?_));refine Sl ?_;refine Sf ?_;refine S As (nil ?_);refine bH 8 _ rfl (KA 1 (KA 5 (KA 9 aU.nil))) ?_;obtain⟨aw,ax,b⟩:=cG b;refine aP kN (fun(z:(Sl Z5))=>[(5,.a (.d (Sl.d 2 Z5.c (some g) z)))]) (fun z=>(H.set g (some (.tok 2 z.l.length)))) (fun z=>aw z=some r) ?_ ?_
 ·intro aW K;refine aa (S Mv (S Mv (G0 Mv ?_)));refine G1 61 rfl NB ?_;refine S PA (nil ?_);refine cO b (fun aA b=>?_) (fun aA b=>?_)
  ·refine region ?_;refine S Mv (S BU (S BV ?_));obtain⟨k,aB,b⟩:=qO rfl b;refine SH (am Z5.c (TK rfl) rfl (TK rfl) (TK rfl) aB) ?_;refine hq (H.set g (some (.tok 2 k.l.length))) ?_;refine S As (nil ?_);exact K _ k wA b
  refine ah.skip ?_;exact K _ au wA b
 rintro x b;try dsimp only at b
 have b:=ku ax b;refine aa (S Mv (S As (nil ?_)));exact rt b
def mR (b:Bs):List Bs->Unit ⊕ Bool
 | []=>Sum.inl ()
 | f::g=>on (f) fun i=>bif ((i==b)) then(Sum.inr true) else(mR b (g) )
def iR (g:(Sl Bs)) (i:Bs):Bool:=on (mR i g.l ) fun b=>match b with|Sum.inl _=>(on (()) fun _=>false)|Sum.inr f=>(f)
def AB (b:(Sl Bs)) (f:Bs):Option Bool:=some (iR b f)
theorem AD (a0:(Sl Bs)) (a1:Bs):AB a0 a1=some (iR a0 a1):=rfl
theorem AE {g:Sl Bs}{i:Bs}{w0:Option Nat}{r:Bool}(b:AB g i=some r) (H:ag) :AC Tryz.prog 114 [.d (Sl.d 1 aM w0 g),.d (.str i)] H fun v h'=>v=.a (.d (.bool r))/\h'=H:=by
 unfold AB iR at b;refine AC.oW 18 [.tmp 4] Tryz.call114 Tryz.func114 ?_;refine aa (S As (nil ?_));refine aP kN (fun(z:Unit)=>[]) (fun z=>H) (fun z=>some (false)=some r) ?_ ?_
 ·intro F u;refine aa (S As (nil ?_));refine block ?_;obtain⟨k,m,b⟩:=fo b;refine bD (TA 0 (TA 1 kN)) (fun(z:Nat)=>[(5,.a (.d (.int .i64 ((z:Nat):Int))))]) (fun z=>H) (fun z=>g.l.length-z) (fun z=>k (mR i (g.l.drop z) )=some r) 0 b wA ?_;rintro o b G w;try dsimp only at b
  refine ay fun x p=>?_;refine aa (S Mv (S Mv ?_));refine sLen (f:=aM) (s:=g) (TK rfl) rfl rfl rfl rfl fun I=>?_;refine S BI (nil ?_);refine ah.cL (fun l=>k (mR i l )=some r) b rfl (fun J q j b=>?_) (fun j b=>?_)
  ·rw [mR] at b;try dsimp only at j
   have K:=oD j;refine sk p ?_;clear p x;refine ay fun y t=>?_;refine block ?_;refine aa (S Mv (S Mv ?_));obtain⟨L,B,b⟩:=vP q b;refine S (ix aM o B) (S Ld (S Mv (S BS (nil ?_))));refine cP b (fun C b=>?_) (fun C b=>?_)
   ·refine aa (S As (nil ?_));refine ah.ret ?_;repeat (first|refine bM ?_|refine bN ?_)
    have b:=ku m b;obtain rfl:=oJ b;refine bF.bK H rfl ⟨rfl,rfl⟩ ?_;exact(fun _ _ h=>h)
   refine sk t ?_;clear t y;refine region ?_;refine S Mv ?_;refine SI ?_;refine S As (nil ?_);exact w _ (o+1) wA b (dl q)
  rw [mR] at b;have b:=ku m b;try dsimp only at b
  refine ah.exit ?_;obtain⟨M,E,b⟩:=fo b;have b:=ku E b;exact u _ () wA b
 rintro _ b;try dsimp only at b
 refine aa (S As (nil ?_));exact rt b
def tX (i:ar) (f:Bs) (j:Int):Int:=on (cV i f) fun b=>on (bif (!b.2) then iQ f else false) fun g=>bif ((!b.2)&&(!g)) then((8:Int)) else(bif (!decide (b.1.ak=j)) then((9:Int)) else((0:Int)))
def AF (b:ar) (f:Bs) (g:Int):Option Int:=some (tX b f g)
theorem G9 (a0:ar) (a1:Bs) (a2:Int):AF a0 a1 a2=some (tX a0 a1 a2):=rfl
theorem G_ {i:ar}{j:Bs}{k r:Int}(b:AF i j k=some r) (H:ag) :AC Tryz.prog 156 [.agg (ar.c i),.d (.str j),.d (.int .i64 k)] H fun v h'=>v=.a (.d (.int .i64 r))/\h'=H:=by
 unfold AF tX at b;refine AC.oW 26 [.tmp 6] Tryz.call156 Tryz.func156 ?_;refine aa (S BX (S As (nil ?_)));refine aa (S Ld (S Mv ?_));obtain⟨t,l,b⟩:=vP (jj _ _) b;refine Sc rfl rfl (jk l) ?_;refine S Mv (S EX (S EX ?_));refine Sl ?_;refine Sf ?_;refine S As (nil ?_);refine bH 7 _ rfl (KA 1 (KA 2 (KA 8 aU.nil))) ?_;refine ay fun m f=>?_;refine aa (S Mv (S NB (S Mv (G0 Mv ?_))))
 obtain⟨u,o,b⟩:=mw (fun _=>(rB _)) b;refine dH 18 rfl rfl rfl rfl rfl (fun hC=>rC (o hC)) ?_;refine G1 19 rfl NB ?_;refine S PA (nil ?_);refine cP b (fun p b=>?_) (fun p b=>?_)
 ·refine aa (S As (nil ?_));exact rt b
 refine sk f ?_;clear f m;refine ay fun q g=>?_;refine aa (S Fv (S Ld (S Mv (S BI (nil ?_)))));refine cP b (fun s b=>?_) (fun s b=>?_)
 ·refine aa (S As (nil ?_));exact rt b
 refine sk g ?_;clear g q;refine aa (S As (nil ?_));exact rt b
end Go.Proofs
