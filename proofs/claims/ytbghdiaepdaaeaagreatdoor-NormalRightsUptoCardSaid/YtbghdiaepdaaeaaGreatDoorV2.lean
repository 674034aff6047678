import Derived.Test.YtbghdiaepdaaeaaGreatDoorV1
set_option maxRecDepth 100000
set_option maxHeartbeats 2000000
set_option linter.unusedVariables false
set_option linter.unusedSimpArgs false
namespace Go.Proofs
open Go Go.Ab
open aQ ar ag aS dY
variable {ak:bf}
def lg :List Bs->Unit ⊕ Bool
 | []=>Sum.inl ()
 | b::f=>on (b) fun g=>on (eE g) fun i=>bif (!i) then(Sum.inr false) else(lg  (f) )
def hG (b:ax):Option Bool:=on (eE b.ai) fun f=>aN (!(!f)) (oG b.ck) false fun g=>bif (((!f)||(!g))||(decide ((64:Int)<((b.bU.l.length:Nat):Int)))) then(some false) else(on (lg  b.bU.l ) fun i=>match i with|Sum.inl _=>(on (()) fun _=>bif (decide (b.an=(1:Int))) then((jW b.bC).bind fun j=>some ((j&&(decide (((b.bI.l.length:Nat):Int)=(0:Int))))&&(decide (((b.bl.l.length:Nat):Int)=(0:Int))))) else(bif (decide (b.an=(2:Int))) then(aN ((decide (((b.bU.l.length:Nat):Int)=(0:Int)))) (jW b.bC) false fun k=>some ((((decide (((b.bU.l.length:Nat):Int)=(0:Int)))&&k)&&(decide (((b.bI.l.length:Nat):Int)=(0:Int))))&&(decide (((b.bl.l.length:Nat):Int)=(0:Int))))) else(bif (decide (b.an=(3:Int))) then(aN (((decide (((b.bU.l.length:Nat):Int)=(0:Int)))&&(decide (((b.bC.l.length:Nat):Int)=(0:Int))))) (k_ b.bI true) false fun m=>some ((((decide (((b.bU.l.length:Nat):Int)=(0:Int)))&&(decide (((b.bC.l.length:Nat):Int)=(0:Int))))&&m)&&(decide (((b.bl.l.length:Nat):Int)=(0:Int))))) else(bif (decide (b.an=(4:Int))) then(aN (((decide (((b.bU.l.length:Nat):Int)=(0:Int)))&&(decide (((b.bC.l.length:Nat):Int)=(0:Int))))) (k_ b.bI false) false fun o=>some ((((decide (((b.bU.l.length:Nat):Int)=(0:Int)))&&(decide (((b.bC.l.length:Nat):Int)=(0:Int))))&&o)&&(decide (((b.bl.l.length:Nat):Int)=(0:Int))))) else(bif (decide (b.an=(5:Int))) then(aN (((((decide (((b.bU.l.length:Nat):Int)=(0:Int)))&&(decide (((b.bC.l.length:Nat):Int)=(0:Int))))&&(decide (((b.bI.l.length:Nat):Int)=(0:Int))))&&(decide ((0:Int)<((b.bl.l.length:Nat):Int))))) (gZ b.bl) false fun p=>some (((((decide (((b.bU.l.length:Nat):Int)=(0:Int)))&&(decide (((b.bC.l.length:Nat):Int)=(0:Int))))&&(decide (((b.bI.l.length:Nat):Int)=(0:Int))))&&(decide ((0:Int)<((b.bl.l.length:Nat):Int))))&&p)) else(some false))))))|Sum.inr q=>(some q))
def AR (b:ax):Option Bool:=hG b
theorem P3 (a0:ax):AR a0=hG a0:=rfl
theorem P4 {g:ax}{r:Bool}(b:AR g=some r) (H:ah) :AC Tryz.prog 53 [.agg (ax.c g)] H fun v h'=>v=.a (.d (.bool r))/\h'=H:=by
 unfold AR hG at b;refine AC.oW 129 [.tmp 2] Tryz.call53 Tryz.func53 ?_;refine af (S BX (S As (nil ?_)));refine ay fun F j=>?_;refine af (S Fv (S Ld ?_));obtain⟨ak,G,b⟩:=vT (jo _) b;refine Sc rfl rfl (jq G) ?_;refine S NB (S Mv (G0 Fv ?_));refine G1 13 rfl Ld ?_;obtain⟨al,I,b⟩:=dx (xg _) b;refine dA 14 rfl rfl rfl rfl rfl (fun hC=>xf (I hC)) ?_;refine G1 15 rfl NB ?_
 refine S PO (S Mv (G0 Fv ?_));refine G1 19 rfl Ld ?_;refine gC rfl rfl (fun hC=>aG (k:=20) rfl (cZ (f:=aP) (s:=g.bU) (TK rfl) rfl rfl rfl)) rfl ?_;refine G1 21 rfl BI ?_;refine S PO (nil ?_);refine cE b (fun J b=>?_) (fun J b=>?_)
 ·refine af (S As (nil ?_));exact rt b
 refine sk j ?_;clear j F;refine aT (TA 1 kN) (fun(z:Unit)=>[]) (fun z=>H) (fun z=>(bif (decide (g.an=(1:Int))) then((jW g.bC).bind fun m=>some ((m&&(decide (((g.bI.l.length:Nat):Int)=(0:Int))))&&(decide (((g.bl.l.length:Nat):Int)=(0:Int))))) else(bif (decide (g.an=(2:Int))) then(aN ((decide (((g.bU.l.length:Nat):Int)=(0:Int)))) (jW g.bC) false fun o=>some ((((decide (((g.bU.l.length:Nat):Int)=(0:Int)))&&o)&&(decide (((g.bI.l.length:Nat):Int)=(0:Int))))&&(decide (((g.bl.l.length:Nat):Int)=(0:Int))))) else(bif (decide (g.an=(3:Int))) then(aN (((decide (((g.bU.l.length:Nat):Int)=(0:Int)))&&(decide (((g.bC.l.length:Nat):Int)=(0:Int))))) (k_ g.bI true) false fun p=>some ((((decide (((g.bU.l.length:Nat):Int)=(0:Int)))&&(decide (((g.bC.l.length:Nat):Int)=(0:Int))))&&p)&&(decide (((g.bl.l.length:Nat):Int)=(0:Int))))) else(bif (decide (g.an=(4:Int))) then(aN (((decide (((g.bU.l.length:Nat):Int)=(0:Int)))&&(decide (((g.bC.l.length:Nat):Int)=(0:Int))))) (k_ g.bI false) false fun q=>some ((((decide (((g.bU.l.length:Nat):Int)=(0:Int)))&&(decide (((g.bC.l.length:Nat):Int)=(0:Int))))&&q)&&(decide (((g.bl.l.length:Nat):Int)=(0:Int))))) else(bif (decide (g.an=(5:Int))) then(aN (((((decide (((g.bU.l.length:Nat):Int)=(0:Int)))&&(decide (((g.bC.l.length:Nat):Int)=(0:Int))))&&(decide (((g.bI.l.length:Nat):Int)=(0:Int))))&&(decide ((0:Int)<((g.bl.l.length:Nat):Int))))) (gZ g.bl) false fun t=>some (((((decide (((g.bU.l.length:Nat):Int)=(0:Int)))&&(decide (((g.bC.l.length:Nat):Int)=(0:Int))))&&(decide (((g.bI.l.length:Nat):Int)=(0:Int))))&&(decide ((0:Int)<((g.bl.l.length:Nat):Int))))&&t)) else(some false))))))=some r) ?_ ?_
 ·intro am K;refine af (S As (nil ?_));refine block ?_;obtain⟨u,w,b⟩:=bW b;refine bx (TA 1 kN) (fun(z:Nat)=>[(3,.a (.d (.int .i64 ((z:Nat):Int))))]) (fun z=>H) (fun z=>g.bU.l.length-z) (fun z=>u (lg  (g.bU.l.drop z) )=some r) 0 b wA ?_;rintro x b ao L;try dsimp only at b
  refine ay fun M y=>?_;refine af (S Mv (S Fv (S Ld ?_)));refine sLen (f:=aP) (s:=g.bU) (TK rfl) rfl rfl rfl rfl fun ap=>?_;refine S BI (nil ?_);refine ag.cA (fun l=>u (lg  l )=some r) b rfl (fun aq B i b=>?_) (fun i b=>?_)
  ·rw [lg] at b;try dsimp only at i
   have av:=oD i;refine sk y ?_;clear y M;refine ay fun N C=>?_;refine block ?_;refine af (S Fv (S Ld (S Mv ?_)));obtain⟨aw,O,b⟩:=vP B b;refine S (ix aP x O) (S Ld ?_);obtain⟨az,P,b⟩:=vP (jo _) b;refine Sc rfl rfl (jq P) ?_;refine S NB (nil ?_);refine cP b (fun Q b=>?_) (fun Q b=>?_)
   ·refine af (S As (nil ?_));refine ag.ret ?_;repeat (first|refine bK ?_|refine bL ?_)
    have b:=ku w b;obtain rfl:=oJ b;refine bz.bJ H rfl ⟨rfl,rfl⟩ ?_;exact(fun _ _ h=>h)
   refine sk C ?_;clear C N;refine region ?_;refine S Mv ?_;refine SI ?_;refine S As (nil ?_);exact L _ (x+1) wA b (dl B)
  rw [lg] at b;have b:=ku w b;try dsimp only at b
  refine ag.exit ?_;obtain⟨aA,R,b⟩:=bW b;have b:=ku R b;exact K _ () wA b
 rintro _ b;try dsimp only at b
 refine ag.bY (Sd Fv (Sd Ld ?_));refine au.s0 (cZ (f:=aP) (s:=g.bU) (TK rfl) rfl rfl rfl) rfl ?_;refine Sd BI (Sd Fv (Sd Ld ?_));refine au.s0 (cZ (f:=Z6.c) (s:=g.bC) (TK rfl) rfl rfl rfl) rfl ?_;refine Sd BI (Sd Fv (Sd Ld ?_));refine au.s0 (cZ (f:=Z9.c) (s:=g.bI) (TK rfl) rfl rfl rfl) rfl ?_;refine Sd BI (Sd Fv (Sd Ld ?_));refine au.s0 (cZ (f:=Z8.c) (s:=g.bl) (TK rfl) rfl rfl rfl) rfl ?_
 refine Sd BI (Sd As (Sd As (Sd As (Sd As ?_))));refine au.nil (by decide +kernel) ?_;refine ay fun U E=>?_;refine af (S Fv (S Ld (nil ?_)));refine block ?_;refine af (S BI (S As (nil ?_)));refine cE b (fun W b=>?_) (fun W b=>?_)
 ·refine af (S Fv (S Ld ?_));obtain⟨m,X,b⟩:=qT (Hg _) b;refine Sc rfl rfl (Hh X) ?_;refine S Mv (G0 Mv (S PA (S Mv (G0 Mv (S PA (S As (nil ?_)))))));exact rt b
 refine af (S BI (S As (nil ?_)));refine cE b (fun Y b=>?_) (fun Y b=>?_)
 ·refine af (S Mv (S Mv (G0 Fv ?_)));refine G1 71 rfl Ld ?_;obtain⟨o,Z,b⟩:=dx (Hg _) b;refine dA 72 rfl rfl rfl rfl rfl (fun hC=>Hh (Z hC)) ?_;refine S PA (S Mv (G0 Mv (S PA (S Mv (G0 Mv (S PA (S As (nil ?_))))))));exact rt b
 refine af (S BI (S As (nil ?_)));refine cE b (fun aa b=>?_) (fun aa b=>?_)
 ·refine af (S Mv (S Mv (G0 Mv (S PA (S Mv (G0 Fv ?_))))));refine G1 88 rfl Ld ?_;obtain⟨p,ab,b⟩:=dx (Hi _ _) b;refine dA 89 rfl rfl rfl rfl rfl (fun hC=>Hj (ab hC)) ?_;refine S PA (S Mv (G0 Mv (S PA (S As (nil ?_)))));exact rt b
 refine af (S BI (S As (nil ?_)));refine cE b (fun ad b=>?_) (fun ad b=>?_)
 ·refine af (S Mv (S Mv (G0 Mv (S PA (S Mv (G0 Fv ?_))))));refine G1 102 rfl Ld ?_;obtain⟨q,ae,b⟩:=dx (Hi _ _) b;refine dA 103 rfl rfl rfl rfl rfl (fun hC=>Hj (ae hC)) ?_;refine S PA (S Mv (G0 Mv (S PA (S As (nil ?_)))));exact rt b
 refine af (S BI (S As (nil ?_)));refine cE b (fun ai b=>?_) (fun ai b=>?_)
 ·refine af (S Mv (S Mv (G0 Mv (S PA (S Mv (G0 Mv (S PA (S Mv (G0 Fv ?_)))))))));refine G1 119 rfl Ld ?_;refine gC rfl rfl (fun hC=>aG (k:=120) rfl (cZ (f:=Z8.c) (s:=g.bl) (TK rfl) rfl rfl rfl)) rfl ?_;refine G1 121 rfl BI ?_;refine S PA (S Mv (G0 Fv ?_));refine G1 125 rfl Ld ?_;obtain⟨t,aj,b⟩:=dx (He _) b;refine dA 126 rfl rfl rfl rfl rfl (fun hC=>Hf (aj hC)) ?_;refine S PA (S As (nil ?_))
  exact rt b
 refine sk E ?_;clear E U;refine af (S As (nil ?_));exact rt b
def lm :List ax->Option (Unit ⊕ Bool)
 | []=>some (Sum.inl ())
 | b::f=>on (b) fun g=>(hG g).bind fun i=>bif (!i) then(some (Sum.inr false)) else(lm  (f) )
def iA (b:aq):Option Bool:=bif ((decide (((b.aA.l.length:Nat):Int)<(1:Int)))||(decide ((64:Int)<((b.aA.l.length:Nat):Int)))) then(some false) else(Option.bind (lm  b.aA.l ) fun f=>match f with|Sum.inl _=>(on (()) fun _=>some true)|Sum.inr g=>(some g))
def AS (b:aq):Option Bool:=iA b
theorem P5 (a0:aq):AS a0=iA a0:=rfl
theorem P6 {g:aq}{r:Bool}(b:AS g=some r) (H:ah) :AC Tryz.prog 21 [.agg (aq.c g)] H fun v h'=>v=.a (.d (.bool r))/\h'=H:=by
 unfold AS iA at b;refine AC.oW 28 [.tmp 2] Tryz.call21 Tryz.func21 ?_;refine af (S BX (S As (nil ?_)));refine ay fun w j=>?_;refine af (S Fv (S Ld ?_));refine sLen (f:=ax.c) (s:=g.aA) (TK rfl) rfl rfl rfl rfl fun K=>?_;refine S BI (S Mv (G0 Fv ?_));refine G1 9 rfl Ld ?_;refine gC rfl rfl (fun hC=>aG (k:=10) rfl (cZ (f:=ax.c) (s:=g.aA) (TK rfl) rfl rfl rfl)) rfl ?_
 refine G1 11 rfl BI ?_;refine S PO (nil ?_);refine cE b (fun x b=>?_) (fun x b=>?_)
 ·refine af (S As (nil ?_));exact rt b
 refine sk j ?_;clear j w;refine aT kN (fun(z:Unit)=>[]) (fun z=>H) (fun z=>(some true)=some r) ?_ ?_
 ·intro L y;refine af (S As (nil ?_));refine block ?_;obtain⟨m,o,b⟩:=cB b;refine bx (TA 1 kN) (fun(z:Nat)=>[(3,.a (.d (.int .i64 ((z:Nat):Int))))]) (fun z=>H) (fun z=>g.aA.l.length-z) (fun z=>Option.bind (lm  (g.aA.l.drop z) ) m=some r) 0 b wA ?_;rintro p b M B;try dsimp only at b
  refine ay fun C q=>?_;refine af (S Mv (S Fv (S Ld ?_)));refine sLen (f:=ax.c) (s:=g.aA) (TK rfl) rfl rfl rfl rfl fun N=>?_;refine S BI (nil ?_);refine ag.cA (fun l=>Option.bind (lm  l ) m=some r) b rfl (fun O t i b=>?_) (fun i b=>?_)
  ·rw [lm] at b;try dsimp only at i
   have P:=oD i;refine sk q ?_;clear q C;refine ay fun E u=>?_;refine block ?_;refine af (S Fv (S Ld (S Mv ?_)));obtain⟨Q,F,b⟩:=vO t b;refine S (ix ax.c p F) (S Ld ?_);obtain⟨R,G,b⟩:=qO (P3 _) b;refine Sc rfl rfl (P4 G) ?_;refine S NB (nil ?_);refine cO b (fun I b=>?_) (fun I b=>?_)
   ·refine af (S As (nil ?_));refine ag.ret ?_;repeat (first|refine bK ?_|refine bL ?_)
    have b:=ku o b;obtain rfl:=oJ b;refine bz.bJ H rfl ⟨rfl,rfl⟩ ?_;exact(fun _ _ h=>h)
   refine sk u ?_;clear u E;refine region ?_;refine S Mv ?_;refine SI ?_;refine S As (nil ?_);exact B _ (p+1) wA b (dl t)
  rw [lm] at b;have b:=ku o b;try dsimp only at b
  refine ag.exit ?_;obtain⟨U,J,b⟩:=bW b;have b:=ku J b;exact y _ () wA b
 rintro _ b;try dsimp only at b
 refine af (S As (nil ?_));exact rt b
def gU (f:Bs):List ax->Unit ⊕ ((ax×Bool))
 | []=>Sum.inl ()
 | b::g=>on (b) fun i=>bif ((i.ai==f)) then(on (b) fun j=>Sum.inr (j,true)) else(gU f (g) )
def cU (g:aq) (i:Bs):(ax×Bool):=on (gU i g.aA.l ) fun b=>match b with|Sum.inl _=>(on (()) fun _=>((ax.mk (0:Int) ([]:Bs) (Sl.nil:Sl Bs) (Sl.nil:Sl aL) (Sl.nil:Sl Z6) (Sl.nil:Sl Z9) (Sl.nil:Sl Z8)),false))|Sum.inr f=>(f)
def xo (b:aq) (f:Bs):Option (ax×Bool):=some (cU b f)
theorem jv (a0:aq) (a1:Bs):xo a0 a1=some (cU a0 a1):=rfl
theorem jw {g:aq}{i:Bs}{r:ax×Bool}(b:xo g i=some r) (H:ah) :AC Tryz.prog 30 [.agg (aq.c g),.d (.str i)] H fun v h'=>v=.cS [.agg (ax.c r.1),.d (.bool r.2)]/\h'=H:=by
 unfold xo cU at b;refine AC.oW 28 [.cell 4 68,.tmp 5] Tryz.call30 Tryz.func30 ?_;refine af (S BX ?_);refine Sl ?_;refine S As (nil ?_);refine eD (TA 4 kN) (fun(z:ax)=>[]) (fun z=>[ax.c z]) (fun z=>H) (fun z=>some (((ax.mk (0:Int) ([]:Bs) (Sl.nil:Sl Bs) (Sl.nil:Sl aL) (Sl.nil:Sl Z6) (Sl.nil:Sl Z9) (Sl.nil:Sl Z8)),false))=some r) ?_ ?_
 ·intro I w;refine af (S As (nil ?_));refine block ?_;obtain⟨o,p,b⟩:=eB b;refine gW (TA 1 (TA 2 (TA 4 kN))) (fun(z:Nat×ax)=>[(6,.a (.d (.int .i64 ((z.1:Nat):Int))))]) (fun z=>[ax.c z.2]) (fun z=>H) (fun z=>g.aA.l.length-z.1) (fun z=>o (gU i (g.aA.l.drop z.1) )=some r) (0,ax.zero) b wA ?_;rintro ⟨j,q⟩ b J x;try dsimp only at b
  refine ay fun y t=>?_;refine af (S Mv (S Fv (S Ld ?_)));refine sLen (f:=ax.c) (s:=g.aA) (TK rfl) rfl rfl rfl rfl fun K=>?_;refine S BI (nil ?_);refine ag.cA (fun l=>o (gU i l )=some r) b rfl (fun L k m b=>?_) (fun m b=>?_)
  ·rw [gU] at b;try dsimp only at m
   have M:=oD m;refine sk t ?_;clear t y;refine ay fun B u=>?_;refine block ?_;refine af (S Fv (S Ld (S Mv ?_)));obtain⟨N,C,b⟩:=vP k b;refine S (ix ax.c j C) (S Fv (S Ld (S Mv (S BS (nil ?_)))));refine cP b (fun E b=>?_) (fun E b=>?_)
   ·refine af (S Fv (S Ld (S Mv ?_)));obtain⟨O,F,b⟩:=vP k b;refine S (ix ax.c j F) (S Ld ?_);refine Sf ?_;refine S As (nil ?_);refine ag.ret ?_;repeat (first|refine bK ?_|refine bL ?_)
    have b:=ku p b;obtain rfl:=oJ b;refine bz.bJ H rfl ⟨rfl,rfl⟩ ?_;exact(fun _ _ h=>h)
   refine sk u ?_;clear u B;refine region ?_;refine S Mv ?_;refine SI ?_;refine S As (nil ?_);exact x _ ((j+1),q) wA b (dl k)
  rw [gU] at b;have b:=ku p b;try dsimp only at b
  refine ag.exit ?_;obtain⟨P,G,b⟩:=eB b;have b:=ku G b;exact w _ q wA b
 rintro Q b;try dsimp only at b
 refine af (S BU ?_);refine Sf ?_;refine S As (nil ?_);exact rt b
def iS (b:Bs):Bool:=(((((b==([73,110,116]:Bs)))||((b==([83,116,114,105,110,103]:Bs))))||((b==([66,111,111,108,101,97,110]:Bs))))||((b==([73,68]:Bs))))
def xq (b:Bs):Option Bool:=some (iS b)
theorem sC (a0:Bs):xq a0=some (iS a0):=rfl
theorem sD {f:Bs}{r:Bool}(b:xq f=some r) (H:ah) :AC Tryz.prog 149 [.d (.str f)] H fun v h'=>v=.a (.d (.bool r))/\h'=H:=by
 unfold xq iS at b;refine AC.oW 17 [.tmp 2] Tryz.call149 Tryz.func149 ?_;refine af (S As (nil ?_));refine af (S Mv (S BS (S Mv (G0 Mv ?_))));refine G1 6 rfl BS ?_;refine S PO (S Mv (G0 Mv ?_));refine G1 10 rfl BS ?_;refine S PO (S Mv (G0 Mv ?_));refine G1 14 rfl BS ?_;refine S PO (S As (nil ?_));exact rt b
def nw (b:Bs):Option Bool:=aN ((decide ((2:Int)<=((b.length:Nat):Int)))) (b[0]?) (0:UInt8) fun f=>aN (((decide ((2:Int)<=((b.length:Nat):Int)))&&(decide (((f.toNat:Nat):Int)=(95:Int))))) (b[1]?) (0:UInt8) fun g=>some (((decide ((2:Int)<=((b.length:Nat):Int)))&&(decide (((f.toNat:Nat):Int)=(95:Int))))&&(decide (((g.toNat:Nat):Int)=(95:Int))))
def AT (b:Bs):Option Bool:=nw b
theorem Hw (a0:Bs):AT a0=nw a0:=rfl
theorem Hx {f:Bs}{r:Bool}(b:AT f=some r) (H:ah) :AC Tryz.prog 117 [.d (.str f)] H fun v h'=>v=.a (.d (.bool r))/\h'=H:=by
 unfold AT nw at b;refine AC.oW 16 [.tmp 2] Tryz.call117 Tryz.func117 ?_;refine af (S As (nil ?_));refine af (S Mv ?_);refine mS (TK rfl) rfl rfl rfl rfl fun j=>?_;refine S BI (S Mv (G0 Mv ?_));obtain⟨l,g,b⟩:=dx rfl b;refine gC rfl rfl (fun hC=>aG (k:=7) rfl (qi (n:=0) (TK rfl) rfl rfl rfl (g hC))) rfl ?_;refine G1 8 rfl BI ?_;refine S PA (S Mv (G0 Mv ?_));obtain⟨m,i,b⟩:=dx rfl b
 refine gC rfl rfl (fun hC=>aG (k:=12) rfl (qi (n:=1) (TK rfl) rfl rfl rfl (i hC))) rfl ?_;refine G1 13 rfl BI ?_;refine S PA (S As (nil ?_));exact rt b
def sF (f:Bs):Option Bool:=on (eE f) fun b=>aN (b) (nw f) false fun g=>some (b&&(!g))
def AU (b:Bs):Option Bool:=sF b
theorem Hy (a0:Bs):AU a0=sF a0:=rfl
theorem Hz {f:Bs}{r:Bool}(b:AU f=some r) (H:ah) :AC Tryz.prog 194 [.d (.str f)] H fun v h'=>v=.a (.d (.bool r))/\h'=H:=by
 unfold AU sF at b;refine AC.oW 10 [.tmp 2] Tryz.call194 Tryz.func194 ?_;refine af (S As (nil ?_));refine af (S Mv ?_);obtain⟨j,g,b⟩:=vT (jo _) b;refine Sc rfl rfl (jq g) ?_;refine S Mv (G0 Mv ?_);obtain⟨k,i,b⟩:=dx (Hw _) b;refine dA 6 rfl rfl rfl rfl rfl (fun hC=>Hx (i hC)) ?_;refine G1 7 rfl NB ?_;refine S PA (S As (nil ?_));exact rt b
def j9 (m:Bs) (f:Bool) (o:Bool) (g:Bs):Option (Sl Z5):=aN (!f) (sF m) false fun i=>Option.bind (bif (f||(!i)) then((aZ 24 (Sl.nil:Sl Z5) (⟨false,[(Z5.mk (6:Int) g)]⟩:Sl Z5)).bind fun j=>some j) else(some (Sl.nil:Sl Z5))) fun b=>Option.bind (bif o then((aZ 24 b (⟨false,[(Z5.mk (7:Int) g)]⟩:Sl Z5)).bind fun k=>some k) else(some b)) fun l=>some l
def sG (b:Bs) (f:Bool) (g:Bool) (i:Bs):Option (Sl Z5):=j9 b f g i
theorem uO (a0:Bs) (a1:Bool) (a2:Bool) (a3:Bs):sG a0 a1 a2 a3=j9 a0 a1 a2 a3:=rfl
theorem AV {t:Bs}{u i:Bool}{j:Bs}{r:Sl Z5}(b:sG t u i j=some r) (H:ah) :AC Tryz.prog 150 [.d (.str t),.d (.bool u),.d (.bool i),.d (.str j)] H fun v h'=>v=.a (.d (Sl.d 2 Z5.c none r))/\h'=H:=by
 unfold sG j9 at b;refine AC.oW 28 [.tmp 8] Tryz.call150 Tryz.func150 ?_;refine ag.tok 2 fun f k=>?_;refine af ?_;refine s0 (fK (k':=2) rfl) rfl ?_;refine nil ?_;refine af (S As (nil ?_));refine ag.fU 9 2 f rfl aI ?_;refine aT (TA 2 (TA 3 kN)) (fun(z:(Sl Z5))=>[(9,.a (.d (Sl.d 2 Z5.c (some f) z)))]) (fun z=>(H.set f (some (.tok 2 z.l.length)))) (fun z=>(Option.bind (bif i then((aZ 24 z (⟨false,[(Z5.mk (7:Int) j)]⟩:Sl Z5)).bind fun g=>some g) else(some z)) fun m=>some m)=some r) ?_ ?_
 ·intro I o;refine af (S Mv (S Mv (G0 Mv ?_)));obtain⟨J,w,b⟩:=dx (Hy _) b;refine dA 12 rfl rfl rfl rfl rfl (fun hC=>Hz (w hC)) ?_;refine G1 13 rfl NB ?_;refine S PO (nil ?_);obtain⟨K,p,b⟩:=cB b;refine cO b (fun x b=>?_) (fun x b=>?_)
  ·refine region ?_;refine S Mv (S Mv (S BU (S BV ?_)));obtain⟨q,y,b⟩:=qO rfl b;refine SH (am Z5.c (TK rfl) rfl (TK rfl) (TK rfl) y) ?_;refine hq (H.set f (some (.tok 2 q.l.length))) ?_;refine S As (nil ?_);have b:=ku p b;exact o _ q wA b
  refine ag.skip ?_;have b:=ku p b;exact o _ (Sl.nil:Sl Z5) wA b
 rintro B b;try dsimp only at b
 obtain⟨C,E,b⟩:=cB b;refine aT kN (fun(z:(Sl Z5))=>[(9,.a (.d (Sl.d 2 Z5.c (some f) z)))]) (fun z=>(H.set f (some (.tok 2 z.l.length)))) (fun z=>C z=some r) ?_ ?_
 ·intro L s;refine af (S Mv (nil ?_));refine cO b (fun F b=>?_) (fun F b=>?_)
  ·refine region ?_;refine S Mv (S Mv (S BU (S BV ?_)));obtain⟨g,G,b⟩:=qO rfl b;refine SH (am Z5.c (TK rfl) rfl (TK rfl) (TK rfl) G) ?_;refine hq (H.set f (some (.tok 2 g.l.length))) ?_;refine S As (nil ?_);exact s _ g wA b
  refine ag.skip ?_;exact s _ B wA b
 rintro m b;try dsimp only at b
 have b:=ku E b;refine af (S Mv (S As (nil ?_)));refine ag.gb 8 rfl ?_;refine ag.ret ?_;repeat (first|refine bK ?_|refine bL ?_)
 obtain rfl:=oJ b;refine bz.bJ H rfl ⟨rfl,rfl⟩ ?_
 first|exact ah.cG k|(simp only [ah.set_set]; exact ah.cG k)
theorem P7 {s:Bs}{t i:Bool}{j:Bs}{r:Sl Z5}(b:sG s t i j=some r) (H:ah){f:Nat}(G:H f=some (.tok 2 0)):AC Tryz.prog 150 [.d (.str s),.d (.bool t),.d (.bool i),.d (.str j)] H fun v h'=>v=.a (.d (Sl.d 2 Z5.c (some f) r))/\h'=H.set f (some (.tok 2 r.l.length)):=by
 unfold sG j9 at b;refine AC.oW 28 [.tmp 8] Tryz.call150 Tryz.func150 ?_;refine ag.eS (h':=(H.set f (some (.tok 2 0)))) (by funext n_; simp only [ah.set]; (repeat' split)<;>simp_all) ?_;refine af (S As (nil ?_));refine af (S As (nil ?_));refine ag.fU 9 2 f rfl aI ?_;refine aT (TA 2 (TA 3 kN)) (fun(z:(Sl Z5))=>[(9,.a (.d (Sl.d 2 Z5.c (some f) z)))]) (fun z=>(H.set f (some (.tok 2 z.l.length)))) (fun z=>(Option.bind (bif i then((aZ 24 z (⟨false,[(Z5.mk (7:Int) j)]⟩:Sl Z5)).bind fun g=>some g) else(some z)) fun k=>some k)=some r) ?_ ?_
 ·intro I m;refine af (S Mv (S Mv (G0 Mv ?_)));obtain⟨J,u,b⟩:=dx (Hy _) b;refine dA 12 rfl rfl rfl rfl rfl (fun hC=>Hz (u hC)) ?_;refine G1 13 rfl NB ?_;refine S PO (nil ?_);obtain⟨K,o,b⟩:=cB b;refine cO b (fun w b=>?_) (fun w b=>?_)
  ·refine region ?_;refine S Mv (S Mv (S BU (S BV ?_)));obtain⟨p,x,b⟩:=qO rfl b;refine SH (am Z5.c (TK rfl) rfl (TK rfl) (TK rfl) x) ?_;refine hq (H.set f (some (.tok 2 p.l.length))) ?_;refine S As (nil ?_);have b:=ku o b;exact m _ p wA b
  refine ag.skip ?_;have b:=ku o b;exact m _ (Sl.nil:Sl Z5) wA b
 rintro y b;try dsimp only at b
 obtain⟨B,C,b⟩:=cB b;refine aT kN (fun(z:(Sl Z5))=>[(9,.a (.d (Sl.d 2 Z5.c (some f) z)))]) (fun z=>(H.set f (some (.tok 2 z.l.length)))) (fun z=>B z=some r) ?_ ?_
 ·intro L q;refine af (S Mv (nil ?_));refine cO b (fun E b=>?_) (fun E b=>?_)
  ·refine region ?_;refine S Mv (S Mv (S BU (S BV ?_)));obtain⟨g,F,b⟩:=qO rfl b;refine SH (am Z5.c (TK rfl) rfl (TK rfl) (TK rfl) F) ?_;refine hq (H.set f (some (.tok 2 g.l.length))) ?_;refine S As (nil ?_);exact q _ g wA b
  refine ag.skip ?_;exact q _ y wA b
 rintro k b;try dsimp only at b
 have b:=ku C b;refine af (S Mv (S As (nil ?_)));exact rt b
def xu (b:ax):Bool:=on (bif (decide (b.an=(1:Int))) then((decide (b.an=(1:Int)))) else((decide (b.an=(2:Int))))) fun f=>bif f then((decide (((b.bC.l.length:Nat):Int)=(0:Int)))) else(on (bif (decide (b.an=(3:Int))) then((decide (b.an=(3:Int)))) else((decide (b.an=(4:Int))))) fun g=>bif g then((decide (((b.bI.l.length:Nat):Int)=(0:Int)))) else(bif (decide (b.an=(5:Int))) then((decide (((b.bl.l.length:Nat):Int)=(0:Int)))) else(on (()) fun _=>false)))
def xx (b:ax):Option Bool:=some (xu b)
theorem P8 (a0:ax):xx a0=some (xu a0):=rfl
theorem P9 {g:ax}{r:Bool}(b:xx g=some r) (H:ah) :AC Tryz.prog 151 [.agg (ax.c g)] H fun v h'=>v=.a (.d (.bool r))/\h'=H:=by
 unfold xx xu at b;refine AC.oW 25 [.tmp 2] Tryz.call151 Tryz.func151 ?_;refine af (S BX (S As (nil ?_)));refine aT kN (fun(z:Unit)=>[]) (fun z=>H) (fun z=>some (false)=some r) ?_ ?_
 ·intro B k;refine af (S Fv (S Ld (nil ?_)));refine block ?_;obtain⟨l,m,b⟩:=eB b;refine aT (TA 1 (TA 4 kN)) (fun(z:Bool)=>[(5,.a (.d (.bool z)))]) (fun z=>H) (fun z=>l z=some r) ?_ ?_
  ·intro C i;refine af (S BI (S As (nil ?_)));refine cP b (fun o b=>?_) (fun o b=>?_)
   ·refine ag.skip ?_;exact i _ (decide (g.an=(1:Int))) wA b
   refine region ?_;refine S BI (S As (nil ?_));exact i _ (decide (g.an=(2:Int))) wA b
  rintro E b;try dsimp only at b
  have b:=ku m b;refine cP b (fun p b=>?_) (fun p b=>?_)
  ·refine af (S Fv (S Ld ?_));refine sLen (f:=Z6.c) (s:=g.bC) (TK rfl) rfl rfl rfl rfl fun F=>?_;refine S BI (S As (nil ?_));exact rt b
  obtain⟨q,t,b⟩:=eB b;refine aT (TA 1 (TA 4 kN)) (fun(z:Bool)=>[(12,.a (.d (.bool z)))]) (fun z=>H) (fun z=>q z=some r) ?_ ?_
  ·intro G j;refine af (S BI (S As (nil ?_)));refine cP b (fun u b=>?_) (fun u b=>?_)
   ·refine ag.skip ?_;exact j _ (decide (g.an=(3:Int))) wA b
   refine region ?_;refine S BI (S As (nil ?_));exact j _ (decide (g.an=(4:Int))) wA b
  rintro I b;try dsimp only at b
  have b:=ku t b;refine cP b (fun w b=>?_) (fun w b=>?_)
  ·refine af (S Fv (S Ld ?_));refine sLen (f:=Z9.c) (s:=g.bI) (TK rfl) rfl rfl rfl rfl fun J=>?_;refine S BI (S As (nil ?_));exact rt b
  refine af (S BI (S As (nil ?_)));refine cP b (fun x b=>?_) (fun x b=>?_)
  ·refine af (S Fv (S Ld ?_));refine sLen (f:=Z8.c) (s:=g.bl) (TK rfl) rfl rfl rfl rfl fun K=>?_;refine S BI (S As (nil ?_));exact rt b
  refine ag.skip ?_;obtain⟨L,y,b⟩:=eB b;have b:=ku y b;exact k _ () wA b
 rintro _ b;try dsimp only at b
 refine af (S As (nil ?_));exact rt b
def ny (b:Bs):List Bs->Unit ⊕ Bool
 | []=>Sum.inl ()
 | f::g=>on (f) fun i=>bif ((i==b)) then(Sum.inr true) else(ny b (g) )
def sI (g:(Sl Bs)) (i:Bs):Bool:=on (ny i g.l ) fun b=>match b with|Sum.inl _=>(on (()) fun _=>false)|Sum.inr f=>(f)
def xy (b:(Sl Bs)) (f:Bs):Option Bool:=some (sI b f)
theorem HA (a0:(Sl Bs)) (a1:Bs):xy a0 a1=some (sI a0 a1):=rfl
theorem HB {g:Sl Bs}{i:Bs}{w0:Option Nat}{r:Bool}(b:xy g i=some r) (H:ah) :AC Tryz.prog 196 [.d (Sl.d 1 aP w0 g),.d (.str i)] H fun v h'=>v=.a (.d (.bool r))/\h'=H:=by
 unfold xy sI at b;refine AC.oW 18 [.tmp 4] Tryz.call196 Tryz.func196 ?_;refine af (S As (nil ?_));refine aT kN (fun(z:Unit)=>[]) (fun z=>H) (fun z=>some (false)=some r) ?_ ?_
 ·intro F u;refine af (S As (nil ?_));refine block ?_;obtain⟨k,m,b⟩:=eB b;refine bx (TA 0 (TA 1 kN)) (fun(z:Nat)=>[(5,.a (.d (.int .i64 ((z:Nat):Int))))]) (fun z=>H) (fun z=>g.l.length-z) (fun z=>k (ny i (g.l.drop z) )=some r) 0 b wA ?_;rintro o b G w;try dsimp only at b
  refine ay fun x p=>?_;refine af (S Mv (S Mv ?_));refine sLen (f:=aP) (s:=g) (TK rfl) rfl rfl rfl rfl fun I=>?_;refine S BI (nil ?_);refine ag.cA (fun l=>k (ny i l )=some r) b rfl (fun J q j b=>?_) (fun j b=>?_)
  ·rw [ny] at b;try dsimp only at j
   have K:=oD j;refine sk p ?_;clear p x;refine ay fun y t=>?_;refine block ?_;refine af (S Mv (S Mv ?_));obtain⟨L,B,b⟩:=vP q b;refine S (ix aP o B) (S Ld (S Mv (S BS (nil ?_))));refine cP b (fun C b=>?_) (fun C b=>?_)
   ·refine af (S As (nil ?_));refine ag.ret ?_;repeat (first|refine bK ?_|refine bL ?_)
    have b:=ku m b;obtain rfl:=oJ b;refine bz.bJ H rfl ⟨rfl,rfl⟩ ?_;exact(fun _ _ h=>h)
   refine sk t ?_;clear t y;refine region ?_;refine S Mv ?_;refine SI ?_;refine S As (nil ?_);exact w _ (o+1) wA b (dl q)
  rw [ny] at b;have b:=ku m b;try dsimp only at b
  refine ag.exit ?_;obtain⟨M,E,b⟩:=eB b;have b:=ku E b;exact u _ () wA b
 rintro _ b;try dsimp only at b
 refine af (S As (nil ?_));exact rt b
def sJ (b:az):Option Bool:=aN ((decide (((b.aK.l.length:Nat):Int)=(1:Int)))) (b.aK.l[0]?) (0:Int) fun f=>some ((decide (((b.aK.l.length:Nat):Int)=(1:Int)))&&(decide (f=(1:Int))))
def AW (b:az):Option Bool:=sJ b
theorem P_ (a0:az):AW a0=sJ a0:=rfl
theorem Qb {g:az}{r:Bool}(b:AW g=some r) (H:ah) :AC Tryz.prog 227 [.agg (az.c g)] H fun v h'=>v=.a (.d (.bool r))/\h'=H:=by
 unfold AW sJ at b;refine AC.oW 14 [.tmp 2] Tryz.call227 Tryz.func227 ?_;refine af (S BX (S As (nil ?_)));refine af (S Fv (S Ld ?_));refine sLen (f:=(bp .i64)) (s:=g.aK) (TK rfl) rfl rfl rfl rfl fun j=>?_;refine S BI (S Mv (G0 Fv ?_));refine G1 8 rfl Ld ?_;obtain⟨l,i,b⟩:=dx rfl b;refine gC rfl rfl (fun hC=>aG (k:=9) rfl (eR (f:=(bp .i64)) (n:=0) (TK rfl) rfl (TK rfl) rfl rfl rfl (i hC))) rfl ?_
 refine G1 10 rfl Ld ?_;refine G1 11 rfl BI ?_;refine S PA (S As (nil ?_));exact rt b
def nA (k:aq) (i:Bs):List Z8->(Sl Bs)->Option ((Sl Bs))
 | [],f=>some f
 | l::m,f=>on (l) fun b=>on (cU k b.aJ.ai) fun g=>(sJ b.aJ).bind fun j=>on (bif (j&&(((b.aJ.ai==i))||(g.2&&(decide (g.1.an=(5:Int)))))) then sI f b.aJ.ai else false) fun o=>Option.bind (bif ((j&&(((b.aJ.ai==i))||(g.2&&(decide (g.1.an=(5:Int))))))&&(!o)) then((aZ 16 f (⟨false,[b.aJ.ai]⟩:Sl Bs)).bind fun p=>some p) else(some f)) fun q=>nA k i (m) q
def uP (g:aq) (i:ax) (j:Bs) (k:(Sl Bs)):Option (Sl Bs):=Option.bind (nA g j i.bl.l k) fun b=>on (b) fun f=>some f
def uQ (b:aq) (f:ax) (g:Bs) (i:(Sl Bs)):Option (Sl Bs):=uP b f g i
theorem HC (a0:aq) (a1:ax) (a2:Bs) (a3:(Sl Bs)):uQ a0 a1 a2 a3=uP a0 a1 a2 a3:=rfl
theorem HD {i:aq}{g:ax}{j:Bs}{m:Sl Bs}{g3:Nat}{r:Sl Bs}(b:uQ i g j m=some r) (H:ah) (Q:H g3=some (.tok 1 m.l.length)):AC Tryz.prog 195 [.agg (aq.c i),.agg (ax.c g),.d (.str j),.d (Sl.d 1 aP (some g3) m)] H fun v h'=>v=.a (.d (Sl.d 1 aP (some g3) r))/\h'=(H.set g3 (some (.tok 1 r.l.length))):=by
 unfold uQ uP at b;refine AC.oW 62 [.tmp 8] Tryz.call195 Tryz.func195 ?_;refine ag.eS (h':=(H.set g3 (some (.tok 1 m.l.length)))) (by funext n_; simp only [ah.set]; (repeat' split)<;>simp_all) ?_;refine af (S BX (S BX (S As (nil ?_))));refine aT kN (fun(z:(Sl Bs))=>[(3,.a (.d (Sl.d 1 aP (some g3) z)))]) (fun z=>(H.set g3 (some (.tok 1 z.l.length)))) (fun z=>(some z)=some r) ?_ ?_
 ·intro R C;refine af (S As (nil ?_));refine block ?_;obtain⟨o,E,b⟩:=cB b;refine bx (TA 2 (TA 4 (TA 5 kN))) (fun(z:(Sl Bs)×Nat)=>[(3,.a (.d (Sl.d 1 aP (some g3) z.1))),(9,.a (.d (.int .i64 ((z.2:Nat):Int))))]) (fun z=>(H.set g3 (some (.tok 1 z.1.l.length)))) (fun z=>g.bl.l.length-z.2) (fun z=>Option.bind (nA i j (g.bl.l.drop z.2) z.1) o=some r) (m,0) b wA ?_
  rintro ⟨p,q⟩ b U F;try dsimp only at b
  refine ay fun G u=>?_;refine af (S Mv (S Fv (S Ld ?_)));refine sLen (f:=Z8.c) (s:=g.bl) (TK rfl) rfl rfl rfl rfl fun W=>?_;refine S BI (nil ?_);refine ag.cA (fun l=>Option.bind (nA i j l p) o=some r) b rfl (fun X w t b=>?_) (fun t b=>?_)
  ·rw [nA] at b;try dsimp only at t
   have Y:=oD t;refine sk u ?_;clear u G;refine aT (TA 2 (TA 4 (TA 5 (TA 9 kN)))) (fun(z:(Sl Bs))=>[(3,.a (.d (Sl.d 1 aP (some g3) z)))]) (fun z=>(H.set g3 (some (.tok 1 z.l.length)))) (fun z=>Option.bind (nA i j (g.bl.l.drop (q+1)) z) o=some r) ?_ ?_
   ·intro Z x;refine block ?_;refine af (S Fv (S Ld (S Mv ?_)));obtain⟨aa,I,b⟩:=vO w b;refine S (ix Z8.c q I) (S Fv (S Ld ?_));refine Sl ?_;refine Sf ?_;refine nil ?_;refine bu 10 _ rfl (KA 2 (KA 3 (KA 4 (KA 5 (KA 9 aS.nil))))) ?_;refine af (S Ld (S Fv (S Ld ?_)));obtain⟨ab,J,b⟩:=vO (jv _ _) b;refine Sc rfl rfl (jw J) ?_;refine S Mv (S EX (S EX ?_))
    refine Sl ?_;refine Sf ?_;refine S As (nil ?_);refine bu 11 _ rfl (KA 2 (KA 3 (KA 4 (KA 5 (KA 9 (KA 10 (KA 12 aS.nil))))))) ?_;refine af (S Ld ?_);obtain⟨ad,K,b⟩:=qO (P_ _) b;refine Sc rfl rfl (Qb K) ?_;refine S Mv (G0 Fv ?_);refine G1 36 rfl Ld ?_;refine G0 Mv ?_;refine G2 37 38 rfl rfl BS ?_;refine G1 39 rfl Mv ?_;refine G0 Mv ?_;refine G1 41 rfl Mv ?_;refine G0 Fv ?_
    refine G1 43 rfl Ld ?_;refine G1 44 rfl BI ?_;refine gC rfl rfl (fun hC=>aG (k:=42) rfl (fV rfl rfl rfl)) rfl ?_;refine gC rfl rfl (fun hC=>aG (k:=40) rfl (qk rfl rfl rfl)) rfl ?_;refine S PA (S Mv (G0 Mv (G0 Fv ?_)));refine G1 51 rfl Ld ?_;obtain⟨ae,L,b⟩:=fc (fun _=>(HA _ _)) b;refine fI 50 52 rfl rfl rfl rfl rfl rfl (fun hC=>HB (L hC)) ?_;refine G1 53 rfl NB ?_
    refine S PA (nil ?_);obtain⟨ai,y,b⟩:=gE b;refine cO b (fun M b=>?_) (fun M b=>?_)
    ·refine region ?_;refine S Mv (S Fv (S Ld (S BV ?_)));obtain⟨B,N,b⟩:=qO rfl b;refine SH (am aP (TK rfl) rfl (TK rfl) (TK rfl) N) ?_;refine hq (H.set g3 (some (.tok 1 B.l.length))) ?_;refine S As (nil ?_);have b:=ku y b;exact x _ B wA b
    refine ag.skip ?_;have b:=ku y b;exact x _ p wA b
   rintro O b;try dsimp only at b
   refine region ?_;refine S Mv ?_;refine SI ?_;refine S As (nil ?_);exact F _ (O,(q+1)) wA b (dl w)
  rw [nA] at b;have b:=ku E b;refine ag.exit ?_;obtain⟨aj,P,b⟩:=bW b;have b:=ku P b;exact C _ p wA b
 rintro ak b;try dsimp only at b
 refine af (S Mv (S As (nil ?_)));exact rt b
def xz (g:ax)  (b:(Sl Bs)):Option Bool:=(xy b g.ai).bind fun f=>some f
def sK (g:aq) (i:ax) :Nat->(Sl Bs)->Nat->Option Bool
 | 0,_,_=>none
 | j+1,b,f=>bif (decide (((f:Nat):Int)<((b.l.length:Nat):Int))) then((b.l[f]?).bind fun k=>(xo g k).bind fun m=>(uQ g m.1 i.ai b).bind fun o=>(sK g i j) o (f+1)) else(xz i  b)
def uR (f:aq) (b:ax):Option Bool:=bif (!decide (b.an=(5:Int))) then(some false) else((uQ f b b.ai (Sl.nil:Sl Bs)).bind fun g=>sK f b F0 g 0)
theorem Qd {o:aq}{j:ax}{r:Bool}(b:uR o j=some r) (H:ah) :AC Tryz.prog 152 [.agg (aq.c o),.agg (ax.c j)] H fun v h'=>v=.a (.d (.bool r))/\h'=H:=by
 unfold uR at b;refine AC.oW 42 [.tmp 4] Tryz.call152 Tryz.func152 ?_;refine ag.tok 1 fun g i=>?_;refine af (S BX (S BX (S As (nil ?_))));refine ay fun C p=>?_;refine af (S Fv (S Ld (S BI (nil ?_))));refine cE b (fun E b=>?_) (fun E b=>?_)
 ·refine af (S As (nil ?_));refine ag.ret ?_;repeat (first|refine bK ?_|refine bL ?_)
  obtain rfl:=oJ b;refine bz.bJ H rfl ⟨rfl,rfl⟩ ?_
  first|exact ah.cG i|(simp only [ah.set_set]; exact ah.cG i)
 refine sk p ?_;clear p C;refine af (S Ld (S Ld (S Fv (S Ld ?_))));obtain⟨q,F,b⟩:=bO b;refine sH (de rfl rfl (AC.Na (.cons (.refl _) (.cons (.refl _) (.cons (.refl _) (.cons (lH.nil (k':=1) (t:=g) aI) .nil)))) (HD F _ aI))) rfl ?_;refine hq (H.set g (some (.tok 1 q.l.length))) ?_;refine S As (nil ?_);refine aT (TA 3 kN) (fun(z:(Sl Bs))=>[(5,.a (.d (Sl.d 1 aP (some g) z)))]) (fun z=>(H.set g (some (.tok 1 z.l.length)))) (fun z=>xz j z=some r) ?_ ?_
 ·intro P G;refine af (S As (nil ?_));refine block ?_;refine bx (TA 2 (TA 3 kN)) (fun(z:Nat×(Sl Bs)×Nat)=>[(5,.a (.d (Sl.d 1 aP (some g) z.2.1))),(6,.a (.d (.int .i64 ((z.2.2:Nat):Int))))]) (fun z=>(H.set g (some (.tok 1 z.2.1.l.length)))) (fun z=>z.1) (fun z=>sK o j z.1 z.2.1 z.2.2=some r) (F0,q,0) b wA ?_;rintro ⟨k,u,w⟩ b Q I;try dsimp only at b
  cases k with
  | zero=>cases b
  | succ k =>
    rw [sK] at b;refine ay fun J x=>?_;refine af (S Mv (S Mv ?_));refine sLen (f:=aP) (s:=u) (TK rfl) rfl rfl rfl rfl fun R=>?_;refine S BI (nil ?_);refine cE b (fun m b=>?_) (fun m b=>?_)
    ·try dsimp only at m
     have U:=oD m;refine sk x ?_;clear x J;refine ay fun K y=>?_;refine block ?_;refine ag.bY (Sd Ld (Sd Mv (Sd Mv ?_)));obtain⟨W,L,b⟩:=bO b;refine Sd (ix aP w L) (Sd Ld ?_);obtain⟨X,M,b⟩:=bO b;refine cq rfl rfl (jw M) ?_;refine Sd Mv (Sd EX (Sd EX ?_));refine au.sB (TK rfl) rfl rfl ?_ (by repeat (first|exact bA.nil|apply bA.cons))
     refine au.dh (dH (TK rfl) rfl rfl rfl rfl rfl) ?_;refine Sd As ?_;refine au.nil (by decide +kernel) ?_;refine bu 7 _ rfl (KA 2 (KA 3 (KA 5 (KA 6 aS.nil)))) ?_;refine region ?_;refine S Ld (S Ld (S Fv (S Ld (S Mv ?_))));obtain⟨B,N,b⟩:=bO b;refine sH (de rfl rfl (HD N _ aI)) rfl ?_;refine hq (H.set g (some (.tok 1 B.l.length))) ?_;refine S As (nil ?_)
     refine y _ ?_;clear y K;refine region ?_;refine S Mv ?_;refine SI ?_;refine S As (nil ?_);exact I _ (k,B,(w+1)) wA b (nS _)
    refine ag.exit ?_;exact G _ u wA b
 rintro Y b;try dsimp only at b
 unfold xz at b;refine af (S Mv (S Fv (S Ld ?_)));obtain⟨Z,O,b⟩:=bO b;refine Sc rfl rfl (HB O) ?_;refine S As (nil ?_);refine ag.ret ?_;repeat (first|refine bK ?_|refine bL ?_)
 obtain rfl:=oJ b;refine bz.bJ H rfl ⟨rfl,rfl⟩ ?_
 first|exact ah.cG i|(simp only [ah.set_set]; exact ah.cG i)
def sM  (b:(Sl Z5)):Option (Sl Z5):=some b
def oQ (j:aq) (b:ax)  (f:(Sl Z5)):Option (Sl Z5):=(uR j b).bind fun g=>bif g then((aZ 24 f (⟨false,[(Z5.mk (5:Int) b.ai)]⟩:Sl Z5)).bind fun i=>sM   i) else(sM   f)
def oS (g:aq) (b:ax)  (f:(Sl Z5)):Option (Sl Z5):=bif (((((((b.ai==([81,117,101,114,121]:Bs)))||((b.ai==([77,117,116,97,116,105,111,110]:Bs))))||((b.ai==([83,117,98,115,99,114,105,112,116,105,111,110]:Bs))))&&(!decide (b.an=(1:Int))))||(decide (b.an<(1:Int))))||(decide ((5:Int)<b.an))) then((aZ 24 f (⟨false,[(Z5.mk (9:Int) b.ai)]⟩:Sl Z5)).bind fun i=>oQ g b  i) else(oQ g b  f)
def qE (g:aq) (b:ax)  (i:Bool):Option (Sl Z5):=(sG b.ai false i b.ai).bind fun f=>(xx b).bind fun j=>bif j then((aZ 24 f (⟨false,[(Z5.mk (8:Int) b.ai)]⟩:Sl Z5)).bind fun k=>oS g b  k) else(oS g b  f)
def nC (i:aq) (j:Int) (b:ax) :Nat->Bool->Int->Option (Sl Z5)
 | 0,_,_=>none
 | k+1,f,g=>bif (decide (g<j)) then(aN (!f) (bV i.aA.l g) ax.zero fun m=>(bG g (1:Int)).bind fun o=>(nC i j b k) (f||((m.ai==b.ai))) o) else(qE i b  f)
def qF (f:aq) (g:Int):Option (Sl Z5):=(bV f.aA.l g).bind fun b=>(xq b.ai).bind fun i=>nC f g b F0 i (0:Int)
theorem Qf {i:aq}{o:Int}{r:Sl Z5}(b:qF i o=some r) (H:ah) :AC Tryz.prog 96 [.agg (aq.c i),.d (.int .i64 o)] H fun v h'=>v=.a (.d (Sl.d 2 Z5.c none r))/\h'=H:=by
 unfold qF at b;refine AC.oW 94 [.tmp 4] Tryz.call96 Tryz.func96 ?_;refine af (S BX ?_);refine s0 (fK (k':=2) rfl) rfl ?_;refine nil ?_;refine af (S Fv (S Ld (S Mv ?_)));obtain⟨j,F,b⟩:=bO b;refine s0 (fu (f:=ax.c) (TK rfl) rfl (TK rfl) rfl rfl rfl F) rfl ?_;refine S Ld ?_;refine Sl ?_;refine Sf ?_;refine nil ?_;refine bu 5 _ rfl (KA 1 (KA 2 aS.nil)) ?_;refine af (S Fv (S Ld ?_))
 obtain⟨G,I,b⟩:=bO b;refine Sc rfl rfl (sD I) ?_;refine S As (nil ?_);refine aT (TA 2 (TA 5 kN)) (fun(z:Bool)=>[(6,.a (.d (.bool z)))]) (fun z=>H) (fun z=>qE i j z=some r) ?_ ?_
 ·intro al J;refine af (S As (nil ?_));refine block ?_;refine bx (TA 1 (TA 2 (TA 5 kN))) (fun(z:Nat×Bool×Int)=>[(6,.a (.d (.bool z.2.1))),(7,.a (.d (.int .i64 z.2.2)))]) (fun z=>H) (fun z=>z.1) (fun z=>nC i o j z.1 z.2.1 z.2.2=some r) (F0,G,(0:Int)) b wA ?_;rintro ⟨m,p,an⟩ b ao K;try dsimp only at b
  cases m with
  | zero=>cases b
  | succ m =>
    rw [nC] at b;refine ay fun L q=>?_;refine af (S Mv (S Mv (S BI (nil ?_))));refine cE b (fun M b=>?_) (fun M b=>?_)
    ·refine sk q ?_;clear q L;refine ay fun N s=>?_;refine block ?_;refine ag.draw rfl ?_;refine Sd Mv (Sd Mv (b_ Fv ?_));refine cm 25 rfl Ld ?_;refine b_ Mv ?_;obtain⟨O,P,b⟩:=gO b;refine au.gC rfl rfl (fun hC=>aG (k:=26) rfl (aG (k:=27) rfl (fu (f:=ax.c) (TK rfl) rfl (TK rfl) rfl rfl rfl (P hC)))) rfl ?_;refine cm 28 rfl Fv ?_;refine cm 29 rfl Ld ?_;refine b_ Fv ?_
     refine cm 31 rfl Ld ?_;refine uE 30 32 rfl rfl BS ?_;refine Sd PO (Sd As ?_);refine au.nil (by decide +kernel) ?_;refine s _ ?_;clear s N;refine region ?_;refine S Mv ?_;obtain⟨Q,R,b⟩:=bO b;refine s0 (cI rfl rfl R) rfl ?_;refine S As (nil ?_);exact K _ (m,(p||((O.ai==j.ai))),Q) wA b (nS _)
    refine ag.exit ?_;exact J _ p wA b
 rintro ap b;try dsimp only at b
 unfold qE at b;refine ag.tok 2 fun g t=>?_;refine af (S Fv (S Ld (S Mv (S Fv (S Ld ?_)))));obtain⟨u,U,b⟩:=bO b;refine sH (de rfl rfl (P7 U _ aI)) rfl ?_;refine hq (H.set g (some (.tok 2 u.l.length))) ?_;refine S As (nil ?_);refine aT (TA 2 (TA 5 kN)) (fun(z:(Sl Z5))=>[(8,.a (.d (Sl.d 2 Z5.c (some g) z)))]) (fun z=>(H.set g (some (.tok 2 z.l.length)))) (fun z=>oS i j z=some r) ?_ ?_
 ·intro av w;refine af (S Ld ?_);obtain⟨aw,W,b⟩:=bO b;refine Sc rfl rfl (P9 W) ?_;refine nil ?_;refine cE b (fun X b=>?_) (fun X b=>?_)
  ·refine region ?_;refine S Mv (S Fv (S Ld (S BU (S BV ?_))));obtain⟨x,Y,b⟩:=bO b;refine SH (am Z5.c (TK rfl) rfl (TK rfl) (TK rfl) Y) ?_;refine hq (H.set g (some (.tok 2 x.l.length))) ?_;refine S As (nil ?_);exact w _ x wA b
  refine ag.skip ?_;exact w _ u wA b
 rintro Z b;try dsimp only at b
 unfold oS at b;refine af (S Fv (S Ld (S BS (S Mv (G0 Fv ?_)))));refine G1 53 rfl Ld ?_;refine G1 54 rfl BS ?_;refine S PO (S Mv (G0 Fv ?_));refine G1 58 rfl Ld ?_;refine G1 59 rfl BS ?_;refine S PO (S As (nil ?_));refine aT (TA 2 (TA 5 kN)) (fun(z:(Sl Z5))=>[(8,.a (.d (Sl.d 2 Z5.c (some g) z)))]) (fun z=>(H.set g (some (.tok 2 z.l.length)))) (fun z=>oQ i j z=some r) ?_ ?_
 ·intro az y;refine af (S Mv (S Mv (G0 Fv ?_)));refine G1 64 rfl Ld ?_;refine G1 65 rfl BI ?_;refine S PA (S Mv (G0 Fv ?_));refine G1 69 rfl Ld ?_;refine G1 70 rfl BI ?_;refine S PO (S Mv (G0 Fv ?_));refine G1 74 rfl Ld ?_;refine G1 75 rfl BI ?_;refine S PO (nil ?_);refine cE b (fun aa b=>?_) (fun aa b=>?_)
  ·refine region ?_;refine S Mv (S Fv (S Ld (S BU (S BV ?_))));obtain⟨B,ab,b⟩:=bO b;refine SH (am Z5.c (TK rfl) rfl (TK rfl) (TK rfl) ab) ?_;refine hq (H.set g (some (.tok 2 B.l.length))) ?_;refine S As (nil ?_);exact y _ B wA b
  refine ag.skip ?_;exact y _ Z wA b
 rintro ad b;try dsimp only at b
 unfold oQ at b;refine aT kN (fun(z:(Sl Z5))=>[(8,.a (.d (Sl.d 2 Z5.c (some g) z)))]) (fun z=>(H.set g (some (.tok 2 z.l.length)))) (fun z=>sM z=some r) ?_ ?_
 ·intro aA C;refine af (S Ld (S Ld ?_));obtain⟨aB,ae,b⟩:=bO b;refine Sc rfl rfl (Qd ae) ?_;refine nil ?_;refine cE b (fun aj b=>?_) (fun aj b=>?_)
  ·refine region ?_;refine S Mv (S Fv (S Ld (S BU (S BV ?_))));obtain⟨E,ak,b⟩:=bO b;refine SH (am Z5.c (TK rfl) rfl (TK rfl) (TK rfl) ak) ?_;refine hq (H.set g (some (.tok 2 E.l.length))) ?_;refine S As (nil ?_);exact C _ E wA b
  refine ag.skip ?_;exact C _ ad wA b
 rintro aC b;try dsimp only at b
 unfold sM at b;refine af (S Mv (S As (nil ?_)));refine ag.gb 4 rfl ?_;refine ag.ret ?_;repeat (first|refine bK ?_|refine bL ?_)
 obtain rfl:=oJ b;refine bz.bJ H rfl ⟨rfl,rfl⟩ ?_
 first|exact ah.cG t|(simp only [ah.set_set]; exact ah.cG t)
def uS (b:aq) (f:Int):Option (Sl Z5):=qF b f
theorem Qg (a0:aq) (a1:Int):qF a0 a1=uS a0 a1:=rfl
def nD (i:aq) (b:Bs):Bool:=on (cU i b) fun f=>on (iS b) fun g=>(g||f.2)
def AX (b:aq) (f:Bs):Option Bool:=some (nD b f)
theorem HE (a0:aq) (a1:Bs):AX a0 a1=some (nD a0 a1):=rfl
theorem HF {f:aq}{g:Bs}{r:Bool}(b:AX f g=some r) (H:ah) :AC Tryz.prog 153 [.agg (aq.c f),.d (.str g)] H fun v h'=>v=.a (.d (.bool r))/\h'=H:=by
 unfold AX nD at b;refine AC.oW 18 [.tmp 4] Tryz.call153 Tryz.func153 ?_;refine af (S BX (S As (nil ?_)));refine af (S Ld (S Mv ?_));obtain⟨k,i,b⟩:=vP (jv _ _) b;refine Sc rfl rfl (jw i) ?_;refine S Mv (S EX (S EX ?_));refine Sl ?_;refine Sf ?_;refine S As (nil ?_);refine bu 5 _ rfl (KA 1 (KA 6 aS.nil)) ?_;refine af (S Mv ?_);obtain⟨l,j,b⟩:=vP (sC _) b
 refine Sc rfl rfl (sD j) ?_;refine S Mv (G0 Mv (S PO (S As (nil ?_))));exact rt b
def lp (f:Bs):List Z8->Unit ⊕ ((Z8×Bool))
 | []=>Sum.inl ()
 | b::g=>on (b) fun i=>bif ((i.ai==f)) then(on (b) fun j=>Sum.inr (j,true)) else(lp f (g) )
def iI (g:(Sl Z8)) (i:Bs):(Z8×Bool):=on (lp i g.l ) fun b=>match b with|Sum.inl _=>(on (()) fun _=>((Z8.mk ([]:Bs) az.zero false aa.zero (Sl.nil:Sl aL)),false))|Sum.inr f=>(f)
def AY (b:(Sl Z8)) (f:Bs):Option (Z8×Bool):=some (iI b f)
theorem xA (a0:(Sl Z8)) (a1:Bs):AY a0 a1=some (iI a0 a1):=rfl
theorem xB {g:Sl Z8}{i:Bs}{w0:Option Nat}{r:Z8×Bool}(b:AY g i=some r) (H:ah) :AC Tryz.prog 154 [.d (Sl.d 10 Z8.c w0 g),.d (.str i)] H fun v h'=>v=.cS [.agg (Z8.c r.1),.d (.bool r.2)]/\h'=H:=by
 unfold AY iI at b;refine AC.oW 25 [.cell 4 148,.tmp 5] Tryz.call154 Tryz.func154 ?_;refine af ?_;refine Sl ?_;refine S As (nil ?_);refine eD (TA 4 kN) (fun(z:Z8)=>[]) (fun z=>[Z8.c z]) (fun z=>H) (fun z=>some (((Z8.mk ([]:Bs) az.zero false aa.zero (Sl.nil:Sl aL)),false))=some r) ?_ ?_
 ·intro I w;refine af (S As (nil ?_));refine block ?_;obtain⟨o,p,b⟩:=eB b;refine gW (TA 0 (TA 1 (TA 4 kN))) (fun(z:Nat×Z8)=>[(6,.a (.d (.int .i64 ((z.1:Nat):Int))))]) (fun z=>[Z8.c z.2]) (fun z=>H) (fun z=>g.l.length-z.1) (fun z=>o (lp i (g.l.drop z.1) )=some r) (0,Z8.zero) b wA ?_;rintro ⟨j,q⟩ b J x;try dsimp only at b
  refine ay fun y t=>?_;refine af (S Mv (S Mv ?_));refine sLen (f:=Z8.c) (s:=g) (TK rfl) rfl rfl rfl rfl fun K=>?_;refine S BI (nil ?_);refine ag.cA (fun l=>o (lp i l )=some r) b rfl (fun L k m b=>?_) (fun m b=>?_)
  ·rw [lp] at b;try dsimp only at m
   have M:=oD m;refine sk t ?_;clear t y;refine ay fun B u=>?_;refine block ?_;refine af (S Mv (S Mv ?_));obtain⟨N,C,b⟩:=vP k b;refine S (ix Z8.c j C) (S Fv (S Ld (S Mv (S BS (nil ?_)))));refine cP b (fun E b=>?_) (fun E b=>?_)
   ·refine af (S Mv (S Mv ?_));obtain⟨O,F,b⟩:=vP k b;refine S (ix Z8.c j F) (S Ld ?_);refine Sf ?_;refine S As (nil ?_);refine ag.ret ?_;repeat (first|refine bK ?_|refine bL ?_)
    have b:=ku p b;obtain rfl:=oJ b;refine bz.bJ H rfl ⟨rfl,rfl⟩ ?_;exact(fun _ _ h=>h)
   refine sk u ?_;clear u B;refine region ?_;refine S Mv ?_;refine SI ?_;refine S As (nil ?_);exact x _ ((j+1),q) wA b (dl k)
  rw [lp] at b;have b:=ku p b;try dsimp only at b
  refine ag.exit ?_;obtain⟨P,G,b⟩:=eB b;have b:=ku G b;exact w _ q wA b
 rintro Q b;try dsimp only at b
 refine af (S BU ?_);refine Sf ?_;refine S As (nil ?_);exact rt b
def qG (i:aq) (f:Bs):Bool:=on (cU i f) fun b=>on (iS f) fun g=>(g||(b.2&&(decide (b.1.an=(4:Int)))))
def AZ (b:aq) (f:Bs):Option Bool:=some (qG b f)
theorem HG (a0:aq) (a1:Bs):AZ a0 a1=some (qG a0 a1):=rfl
theorem HH {f:aq}{g:Bs}{r:Bool}(b:AZ f g=some r) (H:ah) :AC Tryz.prog 121 [.agg (aq.c f),.d (.str g)] H fun v h'=>v=.a (.d (.bool r))/\h'=H:=by
 unfold AZ qG at b;refine AC.oW 23 [.tmp 4] Tryz.call121 Tryz.func121 ?_;refine af (S BX (S As (nil ?_)));refine af (S Ld (S Mv ?_));obtain⟨l,i,b⟩:=vP (jv _ _) b;refine Sc rfl rfl (jw i) ?_;refine S Mv (S EX (S EX ?_));refine Sl ?_;refine Sf ?_;refine S As (nil ?_);refine bu 5 _ rfl (KA 1 (KA 6 aS.nil)) ?_;refine af (S Mv ?_);obtain⟨m,j,b⟩:=vP (sC _) b
 refine Sc rfl rfl (sD j) ?_;refine S Mv (G0 Mv ?_);refine G1 16 rfl Mv ?_;refine G0 Fv ?_;refine G1 18 rfl Ld ?_;refine G1 19 rfl BI ?_;refine gC rfl rfl (fun hC=>aG (k:=17) rfl (fV rfl rfl rfl)) rfl ?_;refine S PO (S As (nil ?_));exact rt b
def iJ (f:aq) (g:Bs):Bool:=on (cU f g) fun b=>on (qG f g) fun i=>(i||(b.2&&(decide (b.1.an=(5:Int)))))
def A3 (b:aq) (f:Bs):Option Bool:=some (iJ b f)
theorem A4 (a0:aq) (a1:Bs):A3 a0 a1=some (iJ a0 a1):=rfl
theorem A5 {f:aq}{g:Bs}{r:Bool}(b:A3 f g=some r) (H:ah) :AC Tryz.prog 155 [.agg (aq.c f),.d (.str g)] H fun v h'=>v=.a (.d (.bool r))/\h'=H:=by
 unfold A3 iJ at b;refine AC.oW 24 [.tmp 4] Tryz.call155 Tryz.func155 ?_;refine af (S BX (S As (nil ?_)));refine af (S Ld (S Mv ?_));obtain⟨l,i,b⟩:=vP (jv _ _) b;refine Sc rfl rfl (jw i) ?_;refine S Mv (S EX (S EX ?_));refine Sl ?_;refine Sf ?_;refine S As (nil ?_);refine bu 5 _ rfl (KA 1 (KA 2 (KA 6 aS.nil))) ?_;refine af (S Ld (S Mv ?_));obtain⟨m,j,b⟩:=vP (HG _ _) b
 refine Sc rfl rfl (HH j) ?_;refine S Mv (G0 Mv ?_);refine G1 17 rfl Mv ?_;refine G0 Fv ?_;refine G1 19 rfl Ld ?_;refine G1 20 rfl BI ?_;refine gC rfl rfl (fun hC=>aG (k:=18) rfl (fV rfl rfl rfl)) rfl ?_;refine S PO (S As (nil ?_));exact rt b
def jx (k:aq) (m:(Sl Z8)) (o:Bs) (p:Bs):List Z8->Nat->(Sl Z5)->Option ((Sl Z5))
 | [],f,g=>some g
 | b::q,f,g=>on (b) fun r=>(cR o r.ai).bind fun s=>(cR s p).bind fun i=>on ((⟨m.nl,m.l.take f⟩:Sl Z8)) fun t=>on (b) fun u=>on (iI t u.ai) fun v=>on (b) fun w=>(j9 w.ai false v.2 i).bind fun x=>(aZ 24 g x).bind fun j=>on (b) fun y=>on (nD k y.aJ.ai) fun z=>Option.bind (bif (!z) then((aZ 24 j (⟨false,[(Z5.mk (8:Int) i)]⟩:Sl Z5)).bind fun B=>some B) else(on (b) fun C=>on (iJ k C.aJ.ai) fun E=>bif (!E) then((aZ 24 j (⟨false,[(Z5.mk (10:Int) i)]⟩:Sl Z5)).bind fun F=>some F) else(some j))) fun G=>jx k m o p (q) (f+1) G
def j_ (i:aq) (b:(Sl Z8)) (j:Bs) (k:Bs):Option (Sl Z5):=Option.bind (jx i b j k b.l 0 (Sl.nil:Sl Z5)) fun f=>on (f) fun g=>some g
def A6 (b:aq) (f:(Sl Z8)) (g:Bs) (i:Bs):Option (Sl Z5):=j_ b f g i
theorem HI (a0:aq) (a1:(Sl Z8)) (a2:Bs) (a3:Bs):A6 a0 a1 a2 a3=j_ a0 a1 a2 a3:=rfl
theorem HJ {m:aq}{j:Sl Z8}{o p:Bs}{G:Option Nat}{r:Sl Z5}(b:A6 m j o p=some r) (H:ah) :AC Tryz.prog 99 [.agg (aq.c m),.d (Sl.d 10 Z8.c G j),.d (.str o),.d (.str p)] H fun v h'=>v=.a (.d (Sl.d 2 Z5.c none r))/\h'=H:=by
 unfold A6 j_ at b;refine AC.oW 80 [.tmp 8] Tryz.call99 Tryz.func99 ?_;refine ag.tok 2 fun g x=>?_;refine af (S BX ?_);refine s0 (fK (k':=2) rfl) rfl ?_;refine nil ?_;refine af (S As (nil ?_));refine ag.fU 9 2 g rfl aI ?_;refine aT kN (fun(z:(Sl Z5))=>[(9,.a (.d (Sl.d 2 Z5.c (some g) z)))]) (fun z=>(H.set g (some (.tok 2 z.l.length)))) (fun z=>(some z)=some r) ?_ ?_
 ·intro ao I;refine af (S As (nil ?_));refine block ?_;obtain⟨q,J,b⟩:=cB b;refine bx (TA 1 (TA 2 (TA 3 (TA 4 kN)))) (fun(z:(Sl Z5)×Nat)=>[(9,.a (.d (Sl.d 2 Z5.c (some g) z.1))),(10,.a (.d (.int .i64 ((z.2:Nat):Int))))]) (fun z=>(H.set g (some (.tok 2 z.1.l.length)))) (fun z=>j.l.length-z.2) (fun z=>Option.bind (jx m j o p (j.l.drop z.2) z.2 z.1) q=some r) ((Sl.nil:Sl Z5),0) b wA ?_
  rintro ⟨y,i⟩ b ap K;try dsimp only at b
  refine ay fun L B=>?_;refine af (S Mv (S Mv ?_));refine sLen (f:=Z8.c) (s:=j) (TK rfl) rfl rfl rfl rfl fun av=>?_;refine S BI (nil ?_);refine ag.cA (fun l=>Option.bind (jx m j o p l i y) q=some r) b rfl (fun aw k t b=>?_) (fun t b=>?_)
  ·rw [jx] at b;try dsimp only at t
   have ax:=oD t;refine sk B ?_;clear B L;refine aT (TA 1 (TA 2 (TA 3 (TA 4 (TA 10 kN))))) (fun(z:(Sl Z5))=>[(9,.a (.d (Sl.d 2 Z5.c (some g) z)))]) (fun z=>(H.set g (some (.tok 2 z.l.length)))) (fun z=>Option.bind (jx m j o p (j.l.drop (i+1)) (i+1) z) q=some r) ?_ ?_
   ·intro az u;refine block ?_;refine af (S Mv (S Mv (S Mv ?_)));obtain⟨aA,M,b⟩:=vO k b;refine S (ix Z8.c i M) (S Fv (S Ld ?_));obtain⟨aB,N,b⟩:=qO rfl b;refine s0 (ez rfl rfl N) rfl ?_;refine S Mv ?_;obtain⟨aC,O,b⟩:=qO rfl b;refine s0 (ez rfl rfl O) rfl ?_;refine S As (nil ?_);refine ag.bY (Sd Mv (Sd Mv ?_));obtain⟨aD,P,b⟩:=vO (Q.qq (by omega)) b
    refine au.s0 (lJ (f:=Z8.c) (l:=none) (r:=(some ((i:Nat):Int))) (TK rfl) rfl (TK rfl) rfl rfl trivial rfl P) rfl ?_;refine Sd Mv (Sd Mv ?_);obtain⟨aE,R,b⟩:=vO k b;refine Sd (ix Z8.c i R) (Sd Fv (Sd Ld ?_));obtain⟨aF,U,b⟩:=vO (xA _ _) b;refine cq rfl rfl (xB U) ?_;refine Sd Mv (Sd EX (Sd EX ?_));refine au.sB (TK rfl) rfl rfl ?_ (by repeat (first|exact bA.nil|apply bA.cons))
    refine au.dh (dH (TK rfl) rfl rfl rfl rfl rfl) ?_;refine Sd As ?_;refine au.nil (by decide +kernel) ?_;refine bu 12 _ rfl (KA 1 (KA 2 (KA 3 (KA 4 (KA 9 (KA 10 (KA 11 (KA 13 aS.nil)))))))) ?_;refine af (S Mv (S Mv (S Mv ?_)));obtain⟨aG,W,b⟩:=vO k b;refine S (ix Z8.c i W) (S Fv (S Ld (S Mv (S Mv ?_))));obtain⟨aH,X,b⟩:=qO (uO _ _ _ _) b;refine Sc rfl rfl (AV X) ?_
    obtain⟨C,Y,b⟩:=qO rfl b;refine SH (am Z5.c (TK rfl) rfl (TK rfl) (TK rfl) Y) ?_;refine hq (H.set g (some (.tok 2 C.l.length))) ?_;refine S As (nil ?_);refine ag.bY (Sd Ld (Sd Mv (Sd Mv ?_)));obtain⟨aJ,Z,b⟩:=vO k b;refine Sd (ix Z8.c i Z) (Sd Fv (Sd Fv (Sd Ld ?_)));obtain⟨aK,aa,b⟩:=vO (HE _ _) b;refine cq rfl rfl (HF aa) ?_;refine Sd NB ?_;refine au.nil (by decide +kernel) ?_
    obtain⟨aL,w,b⟩:=gE b;refine cO b (fun ab b=>?_) (fun ab b=>?_)
    ·refine region ?_;refine S Mv (S Mv (S BU (S BV ?_)));obtain⟨E,ad,b⟩:=qO rfl b;refine SH (am Z5.c (TK rfl) rfl (TK rfl) (TK rfl) ad) ?_;refine hq (H.set g (some (.tok 2 E.l.length))) ?_;refine S As (nil ?_);have b:=ku w b;exact u _ E wA b
    refine ag.bY (Sd Ld (Sd Mv (Sd Mv ?_)));obtain⟨aM,ae,b⟩:=vO k b;refine Sd (ix Z8.c i ae) (Sd Fv (Sd Fv (Sd Ld ?_)));obtain⟨aN,ai,b⟩:=vO (A4 _ _) b;refine cq rfl rfl (A5 ai) ?_;refine Sd NB ?_;refine au.nil (by decide +kernel) ?_;refine cO b (fun aj b=>?_) (fun aj b=>?_)
    ·refine region ?_;refine S Mv (S Mv (S BU (S BV ?_)));obtain⟨F,ak,b⟩:=qO rfl b;refine SH (am Z5.c (TK rfl) rfl (TK rfl) (TK rfl) ak) ?_;refine hq (H.set g (some (.tok 2 F.l.length))) ?_;refine S As (nil ?_);have b:=ku w b;exact u _ F wA b
    refine ag.skip ?_;have b:=ku w b;exact u _ C wA b
   rintro al b;try dsimp only at b
   refine region ?_;refine S Mv ?_;refine SI ?_;refine S As (nil ?_);exact K _ (al,(i+1)) wA b (dl k)
  rw [jx] at b;have b:=ku J b;refine ag.exit ?_;obtain⟨aO,an,b⟩:=bW b;have b:=ku an b;exact I _ y wA b
 rintro aP b;try dsimp only at b
 refine af (S Mv (S As (nil ?_)));refine ag.gb 8 rfl ?_;refine ag.ret ?_;repeat (first|refine bK ?_|refine bL ?_)
 obtain rfl:=oJ b;refine bz.bJ H rfl ⟨rfl,rfl⟩ ?_
 first|exact ah.cG x|(simp only [ah.set_set]; exact ah.cG x)
def iK (f:Bs):List Z6->Unit ⊕ ((Z6×Bool))
 | []=>Sum.inl ()
 | b::g=>on (b) fun i=>bif ((i.ai==f)) then(on (b) fun j=>Sum.inr (j,true)) else(iK f (g) )
def gm (g:ax) (i:Bs):(Z6×Bool):=on (iK i g.bC.l ) fun b=>match b with|Sum.inl _=>(on (()) fun _=>((Z6.mk ([]:Bs) (Sl.nil:Sl Z8) az.zero (Sl.nil:Sl aL)),false))|Sum.inr f=>(f)
def A7 (b:ax) (f:Bs):Option (Z6×Bool):=some (gm b f)
theorem A8 (a0:ax) (a1:Bs):A7 a0 a1=some (gm a0 a1):=rfl
theorem A9 {g:ax}{i:Bs}{r:Z6×Bool}(b:A7 g i=some r) (H:ah) :AC Tryz.prog 119 [.agg (ax.c g),.d (.str i)] H fun v h'=>v=.cS [.agg (Z6.c r.1),.d (.bool r.2)]/\h'=H:=by
 unfold A7 gm at b;refine AC.oW 28 [.cell 4 104,.tmp 5] Tryz.call119 Tryz.func119 ?_;refine af (S BX ?_);refine Sl ?_;refine S As (nil ?_);refine eD (TA 4 kN) (fun(z:Z6)=>[]) (fun z=>[Z6.c z]) (fun z=>H) (fun z=>some (((Z6.mk ([]:Bs) (Sl.nil:Sl Z8) az.zero (Sl.nil:Sl aL)),false))=some r) ?_ ?_
 ·intro I w;refine af (S As (nil ?_));refine block ?_;obtain⟨o,p,b⟩:=eB b;refine gW (TA 1 (TA 2 (TA 4 kN))) (fun(z:Nat×Z6)=>[(6,.a (.d (.int .i64 ((z.1:Nat):Int))))]) (fun z=>[Z6.c z.2]) (fun z=>H) (fun z=>g.bC.l.length-z.1) (fun z=>o (iK i (g.bC.l.drop z.1) )=some r) (0,Z6.zero) b wA ?_;rintro ⟨j,q⟩ b J x;try dsimp only at b
  refine ay fun y t=>?_;refine af (S Mv (S Fv (S Ld ?_)));refine sLen (f:=Z6.c) (s:=g.bC) (TK rfl) rfl rfl rfl rfl fun K=>?_;refine S BI (nil ?_);refine ag.cA (fun l=>o (iK i l )=some r) b rfl (fun L k m b=>?_) (fun m b=>?_)
  ·rw [iK] at b;try dsimp only at m
   have M:=oD m;refine sk t ?_;clear t y;refine ay fun B u=>?_;refine block ?_;refine af (S Fv (S Ld (S Mv ?_)));obtain⟨N,C,b⟩:=vP k b;refine S (ix Z6.c j C) (S Fv (S Ld (S Mv (S BS (nil ?_)))));refine cP b (fun E b=>?_) (fun E b=>?_)
   ·refine af (S Fv (S Ld (S Mv ?_)));obtain⟨O,F,b⟩:=vP k b;refine S (ix Z6.c j F) (S Ld ?_);refine Sf ?_;refine S As (nil ?_);refine ag.ret ?_;repeat (first|refine bK ?_|refine bL ?_)
    have b:=ku p b;obtain rfl:=oJ b;refine bz.bJ H rfl ⟨rfl,rfl⟩ ?_;exact(fun _ _ h=>h)
   refine sk u ?_;clear u B;refine region ?_;refine S Mv ?_;refine SI ?_;refine S As (nil ?_);exact x _ ((j+1),q) wA b (dl k)
  rw [iK] at b;have b:=ku p b;try dsimp only at b
  refine ag.exit ?_;obtain⟨P,G,b⟩:=eB b;have b:=ku G b;exact w _ q wA b
 rintro Q b;try dsimp only at b
 refine af (S BU ?_);refine Sf ?_;refine S As (nil ?_);exact rt b
def iL (g:aq) (i:ax):List Z6->Nat->(Sl Z5)->Option ((Sl Z5))
 | [],j,k=>some k
 | p::q,j,k=>on (p) fun b=>(cR i.ai ([46]:Bs)).bind fun r=>(cR r b.ai).bind fun f=>on ((⟨i.bC.nl,i.bC.l.take j⟩:Sl Z6)) fun s=>on (gm (ax.mk (0:Int) ([]:Bs) (Sl.nil:Sl Bs) (Sl.nil:Sl aL) s (Sl.nil:Sl Z9) (Sl.nil:Sl Z8)) b.ai) fun t=>(j9 b.ai false t.2 f).bind fun u=>(aZ 24 k u).bind fun m=>on (cU g b.aJ.ai) fun o=>on (nD g b.aJ.ai) fun v=>Option.bind (bif (!v) then((aZ 24 m (⟨false,[(Z5.mk (8:Int) f)]⟩:Sl Z5)).bind fun w=>some w) else(on (iS b.aJ.ai) fun x=>bif (((!x)&&o.2)&&(decide (o.1.an=(5:Int)))) then((aZ 24 m (⟨false,[(Z5.mk (10:Int) f)]⟩:Sl Z5)).bind fun y=>some y) else(some m))) fun z=>(cR f ([40]:Bs)).bind fun B=>(j_ g b.aO B ([41]:Bs)).bind fun C=>(aZ 24 z C).bind fun E=>on (E) fun F=>iL g i (q) (j+1) F
def oU (i:aq) (b:ax):Option (Sl Z5):=Option.bind (iL i b b.bC.l 0 (Sl.nil:Sl Z5)) fun f=>on (f) fun g=>some g
def A_ (b:aq) (f:ax):Option (Sl Z5):=oU b f
theorem Qh (a0:aq) (a1:ax):A_ a0 a1=oU a0 a1:=rfl
theorem Qi {k:aq}{i:ax}{r:Sl Z5}(b:A_ k i=some r) (H:ah) :AC Tryz.prog 97 [.agg (aq.c k),.agg (ax.c i)] H fun v h'=>v=.a (.d (Sl.d 2 Z5.c none r))/\h'=H:=by
 unfold A_ oU at b;refine AC.oW 95 [.tmp 4] Tryz.call97 Tryz.func97 ?_;refine ag.tok 2 fun g w=>?_;refine af (S BX (S BX ?_));refine s0 (fK (k':=2) rfl) rfl ?_;refine nil ?_;refine af (S As (nil ?_));refine ag.fU 5 2 g rfl aI ?_;refine aT kN (fun(z:(Sl Z5))=>[(5,.a (.d (Sl.d 2 Z5.c (some g) z)))]) (fun z=>(H.set g (some (.tok 2 z.l.length)))) (fun z=>(some z)=some r) ?_ ?_
 ·intro az J;refine af (S As (nil ?_));refine block ?_;obtain⟨m,K,b⟩:=cB b;refine bx (TA 2 (TA 3 kN)) (fun(z:(Sl Z5)×Nat)=>[(5,.a (.d (Sl.d 2 Z5.c (some g) z.1))),(6,.a (.d (.int .i64 ((z.2:Nat):Int))))]) (fun z=>(H.set g (some (.tok 2 z.1.l.length)))) (fun z=>i.bC.l.length-z.2) (fun z=>Option.bind (iL k i (i.bC.l.drop z.2) z.2 z.1) m=some r) ((Sl.nil:Sl Z5),0) b wA ?_
  rintro ⟨x,j⟩ b aA L;try dsimp only at b
  refine ay fun M y=>?_;refine af (S Mv (S Fv (S Ld ?_)));refine sLen (f:=Z6.c) (s:=i.bC) (TK rfl) rfl rfl rfl rfl fun aB=>?_;refine S BI (nil ?_);refine ag.cA (fun l=>Option.bind (iL k i l j x) m=some r) b rfl (fun aC B p b=>?_) (fun p b=>?_)
  ·rw [iL] at b;try dsimp only at p
   have aD:=oD p;refine sk y ?_;clear y M;refine aT (TA 2 (TA 3 (TA 6 kN))) (fun(z:(Sl Z5))=>[(5,.a (.d (Sl.d 2 Z5.c (some g) z)))]) (fun z=>(H.set g (some (.tok 2 z.l.length)))) (fun z=>Option.bind (iL k i (i.bC.l.drop (j+1)) (j+1) z) m=some r) ?_ ?_
   ·intro aE N;refine block ?_;refine af (S Fv (S Ld (S Mv ?_)));obtain⟨O,P,b⟩:=vO B b;refine S (ix Z6.c j P) (S Ld ?_);refine Sl ?_;refine Sf ?_;refine nil ?_;refine bu 7 _ rfl (KA 2 (KA 3 (KA 5 (KA 6 aS.nil)))) ?_;refine af (S Fv (S Ld ?_));obtain⟨aF,R,b⟩:=qO rfl b;refine s0 (ez rfl rfl R) rfl ?_;refine S Fv (S Ld ?_);obtain⟨U,W,b⟩:=qO rfl b;refine s0 (ez rfl rfl W) rfl ?_
    refine S As (nil ?_);refine ag.bY (Sd Fv (Sd Ld (Sd Mv ?_)));obtain⟨aG,X,b⟩:=vO (Q.qq (by omega)) b;refine au.s0 (lJ (f:=Z6.c) (l:=none) (r:=(some ((j:Nat):Int))) (TK rfl) rfl (TK rfl) rfl rfl trivial rfl X) rfl ?_;refine Sd BU (Sd Fv (Sd Ld ?_));obtain⟨aH,Y,b⟩:=vO (A8 _ _) b;refine cq rfl rfl (A9 Y) ?_;refine Sd Mv (Sd EX (Sd EX ?_));refine au.sB (TK rfl) rfl rfl ?_ (by repeat (first|exact bA.nil|apply bA.cons))
    refine au.dh (dH (TK rfl) rfl rfl rfl rfl rfl) ?_;refine Sd As ?_;refine au.nil (by decide +kernel) ?_;refine bu 9 _ rfl (KA 2 (KA 3 (KA 5 (KA 6 (KA 7 (KA 8 (KA 10 aS.nil))))))) ?_;refine af (S Mv (S Fv (S Ld (S Mv (S Mv ?_)))));obtain⟨aJ,Z,b⟩:=qO (uO _ _ _ _) b;refine Sc rfl rfl (AV Z) ?_;obtain⟨C,aa,b⟩:=qO rfl b;refine SH (am Z5.c (TK rfl) rfl (TK rfl) (TK rfl) aa) ?_
    refine hq (H.set g (some (.tok 2 C.l.length))) ?_;refine S As (nil ?_);refine af (S Ld (S Fv (S Fv (S Ld ?_))));obtain⟨aK,ab,b⟩:=vO (jv _ _) b;refine Sc rfl rfl (jw ab) ?_;refine S Mv (S EX (S EX ?_));refine Sl ?_;refine Sf ?_;refine S As (nil ?_);refine bu 11 _ rfl (KA 2 (KA 3 (KA 5 (KA 6 (KA 7 (KA 8 (KA 12 aS.nil))))))) ?_;refine aT (TA 2 (TA 3 (TA 6 (TA 7 (TA 8 kN))))) (fun(z:(Sl Z5))=>[(5,.a (.d (Sl.d 2 Z5.c (some g) z)))]) (fun z=>(H.set g (some (.tok 2 z.l.length)))) (fun z=>Option.bind ((cR U ([40]:Bs)).bind fun E=>(j_ k O.aO E ([41]:Bs)).bind fun F=>(aZ 24 z F).bind fun o=>on (o) fun q=>iL k i (i.bC.l.drop (j+1)) (j+1) q) m=some r) ?_ ?_
    ·intro aL t;refine af (S Ld (S Fv (S Fv (S Ld ?_))));obtain⟨aM,ad,b⟩:=vO (HE _ _) b;refine Sc rfl rfl (HF ad) ?_;refine S NB (nil ?_);obtain⟨aN,u,b⟩:=gE b;refine cO b (fun ae b=>?_) (fun ae b=>?_)
     ·refine region ?_;refine S Mv (S Mv (S BU (S BV ?_)));obtain⟨G,ai,b⟩:=qO rfl b;refine SH (am Z5.c (TK rfl) rfl (TK rfl) (TK rfl) ai) ?_;refine hq (H.set g (some (.tok 2 G.l.length))) ?_;refine S As (nil ?_);have b:=ku u b;exact t _ G wA b
     refine af (S Fv (S Fv (S Ld ?_)));obtain⟨aP,aj,b⟩:=vO (sC _) b;refine Sc rfl rfl (sD aj) ?_;refine S NB (S Mv (G0 Mv (S PA (S Mv (G0 Fv ?_)))));refine G1 77 rfl Ld ?_;refine G1 78 rfl BI ?_;refine S PA (nil ?_);refine cO b (fun ak b=>?_) (fun ak b=>?_)
     ·refine region ?_;refine S Mv (S Mv (S BU (S BV ?_)));obtain⟨I,al,b⟩:=qO rfl b;refine SH (am Z5.c (TK rfl) rfl (TK rfl) (TK rfl) al) ?_;refine hq (H.set g (some (.tok 2 I.l.length))) ?_;refine S As (nil ?_);have b:=ku u b;exact t _ I wA b
     refine ag.skip ?_;have b:=ku u b;exact t _ C wA b
    rintro aQ b;try dsimp only at b
    refine region ?_;refine S Mv (S Ld (S Fv (S Ld (S Mv ?_))));obtain⟨E,an,b⟩:=qO rfl b;refine s0 (ez rfl rfl an) rfl ?_;obtain⟨F,ao,b⟩:=qO (HI _ _ _ _) b;refine Sc rfl rfl (HJ ao) ?_;obtain⟨o,ap,b⟩:=qO rfl b;refine SH (am Z5.c (TK rfl) rfl (TK rfl) (TK rfl) ap) ?_;refine hq (H.set g (some (.tok 2 o.l.length))) ?_;refine S As (nil ?_);obtain⟨aR,av,b⟩:=jR b
    have b:=ku av b;exact N _ o wA b
   rintro q b;try dsimp only at b
   refine region ?_;refine S Mv ?_;refine SI ?_;refine S As (nil ?_);exact L _ (q,(j+1)) wA b (dl B)
  rw [iL] at b;have b:=ku K b;refine ag.exit ?_;obtain⟨aU,aw,b⟩:=bW b;have b:=ku aw b;exact J _ x wA b
 rintro aV b;try dsimp only at b
 refine af (S Mv (S As (nil ?_)));refine ag.gb 4 rfl ?_;refine ag.ret ?_;repeat (first|refine bK ?_|refine bL ?_)
 obtain rfl:=oJ b;refine bz.bJ H rfl ⟨rfl,rfl⟩ ?_
 first|exact ah.cG w|(simp only [ah.set_set]; exact ah.cG w)
def oV (i:ax) (g:Z9):Nat->Nat->Bool->Option (Bool)
 | 0,f,b=>some b
 | j+1,f,b=>aN (!b) (i.bI.l[f]?) Z9.zero fun k=>oV i g (j) (f+1) (b||((k.ai==g.ai)))
def lX (i:ax):List Z9->Nat->(Sl Z5)->Option ((Sl Z5))
 | [],f,g=>some g
 | j::k,f,g=>on (j) fun b=>Option.bind (oV i b f 0 false) fun l=>on (l) fun m=>(cR i.ai ([46]:Bs)).bind fun o=>(cR o b.ai).bind fun p=>(j9 b.ai ((((b.ai==([116,114,117,101]:Bs)))||((b.ai==([102,97,108,115,101]:Bs))))||((b.ai==([110,117,108,108]:Bs)))) m p).bind fun q=>(aZ 24 g q).bind fun r=>on (r) fun s=>lX i (k) (f+1) s
def qH (b:ax):Option (Sl Z5):=Option.bind (lX b b.bI.l 0 (Sl.nil:Sl Z5)) fun f=>on (f) fun g=>some g
def Ba (b:ax):Option (Sl Z5):=qH b
theorem Qj (a0:ax):Ba a0=qH a0:=rfl
theorem Qk {g:ax}{r:Sl Z5}(b:Ba g=some r) (H:ah) :AC Tryz.prog 98 [.agg (ax.c g)] H fun v h'=>v=.a (.d (Sl.d 2 Z5.c none r))/\h'=H:=by
 unfold Ba qH at b;refine AC.oW 58 [.tmp 2] Tryz.call98 Tryz.func98 ?_;refine ag.tok 2 fun i B=>?_;refine af (S BX ?_);refine s0 (fK (k':=2) rfl) rfl ?_;refine nil ?_;refine af (S As (nil ?_));refine ag.fU 3 2 i rfl aI ?_;refine aT kN (fun(z:(Sl Z5))=>[(3,.a (.d (Sl.d 2 Z5.c (some i) z)))]) (fun z=>(H.set i (some (.tok 2 z.l.length)))) (fun z=>(some z)=some r) ?_ ?_
 ·intro aq M;refine af (S As (nil ?_));refine block ?_;obtain⟨p,N,b⟩:=cB b;refine bx (TA 1 kN) (fun(z:(Sl Z5)×Nat)=>[(3,.a (.d (Sl.d 2 Z5.c (some i) z.1))),(4,.a (.d (.int .i64 ((z.2:Nat):Int))))]) (fun z=>(H.set i (some (.tok 2 z.1.l.length)))) (fun z=>g.bI.l.length-z.2) (fun z=>Option.bind (lX g (g.bI.l.drop z.2) z.2 z.1) p=some r) ((Sl.nil:Sl Z5),0) b wA ?_
  rintro ⟨o,j⟩ b au O;try dsimp only at b
  refine ay fun P C=>?_;refine af (S Mv (S Fv (S Ld ?_)));refine sLen (f:=Z9.c) (s:=g.bI) (TK rfl) rfl rfl rfl rfl fun av=>?_;refine S BI (nil ?_);refine ag.cA (fun l=>Option.bind (lX g l j o) p=some r) b rfl (fun aw E t b=>?_) (fun t b=>?_)
  ·rw [lX] at b;try dsimp only at t
   have az:=oD t;refine sk C ?_;clear C P;refine aT (TA 1 (TA 4 kN)) (fun(z:(Sl Z5))=>[(3,.a (.d (Sl.d 2 Z5.c (some i) z)))]) (fun z=>(H.set i (some (.tok 2 z.l.length)))) (fun z=>Option.bind (lX g (g.bI.l.drop (j+1)) (j+1) z) p=some r) ?_ ?_
   ·intro aA Q;refine block ?_;refine af (S Fv (S Ld (S Mv ?_)));obtain⟨m,R,b⟩:=vO E b;refine S (ix Z9.c j R) (S Fv (S Ld (S As (nil ?_))));refine af (S As (nil ?_));refine aT (TA 1 (TA 3 (TA 4 (TA 5 kN)))) (fun(z:Bool)=>[(6,.a (.d (.bool z)))]) (fun z=>(H.set i (some (.tok 2 o.l.length)))) (fun z=>Option.bind ((cR g.ai ([46]:Bs)).bind fun F=>(cR F m.ai).bind fun G=>(j9 m.ai ((((m.ai==([116,114,117,101]:Bs)))||((m.ai==([102,97,108,115,101]:Bs))))||((m.ai==([110,117,108,108]:Bs)))) z G).bind fun I=>(aZ 24 o I).bind fun q=>on (q) fun u=>lX g (g.bI.l.drop (j+1)) (j+1) u) p=some r) ?_ ?_
    ·intro aB U;refine af (S As (nil ?_));refine block ?_;obtain⟨J,W,b⟩:=gE b;refine bx (TA 1 (TA 3 (TA 4 (TA 5 kN)))) (fun(z:Bool×Nat)=>[(6,.a (.d (.bool z.1))),(7,.a (.d (.int .i64 ((z.2:Nat):Int))))]) (fun z=>(H.set i (some (.tok 2 o.l.length)))) (fun z=>j-z.2) (fun z=>Option.bind (oV g m (j-z.2) z.2 z.1) J=some r) (false,0) b wA ?_;rintro ⟨w,x⟩ b aC X
     try dsimp only at b
     refine ay fun Y K=>?_;refine af (S Mv (S Mv (S BI (nil ?_))));refine ag.Ac (fun l=>Option.bind (oV g m l x w) J=some r) b rfl (fun Z y b=>?_) (fun y b=>?_)
     ·rw [oV] at b;try dsimp only at y
      have aD:=oD y;refine sk K ?_;clear K Y;refine ay fun aa L=>?_;refine block ?_;refine region ?_;refine S Mv (S Mv (G0 Fv ?_));refine G1 28 rfl Ld ?_;refine G0 Mv ?_;obtain⟨ab,ad,b⟩:=eA rfl b;refine gC rfl rfl (fun hC=>aG (k:=29) rfl (aG (k:=30) rfl (eR (f:=Z9.c) (n:=x) (TK rfl) rfl (TK rfl) rfl rfl rfl (ad hC)))) rfl ?_;refine G1 31 rfl Fv ?_
      refine G1 32 rfl Ld ?_;refine G0 Mv ?_;refine G2 33 34 rfl rfl BS ?_;refine S PO (S As (nil ?_));refine L _ ?_;clear L aa;refine region ?_;refine S Mv ?_;refine SI ?_;refine S As (nil ?_);exact X _ ((w||((ab.ai==m.ai))),(x+1)) wA b (dn Z)
     rw [oV] at b;have b:=ku W b;refine ag.exit ?_;obtain⟨aE,ae,b⟩:=jR b;have b:=ku ae b;exact U _ w wA b
    rintro aF b;try dsimp only at b
    refine region ?_;refine S Mv (S Mv (S Mv (S BS (S Mv (G0 Mv ?_)))));refine G1 42 rfl BS ?_;refine S PO (S Mv (G0 Mv ?_));refine G1 46 rfl BS ?_;refine S PO (S Mv (S Fv (S Ld ?_)));obtain⟨F,aj,b⟩:=qO rfl b;refine s0 (ez rfl rfl aj) rfl ?_;refine S Mv ?_;obtain⟨G,ak,b⟩:=qO rfl b;refine s0 (ez rfl rfl ak) rfl ?_;obtain⟨I,al,b⟩:=qO (uO _ _ _ _) b;refine Sc rfl rfl (AV al) ?_
    obtain⟨q,an,b⟩:=qO rfl b;refine SH (am Z5.c (TK rfl) rfl (TK rfl) (TK rfl) an) ?_;refine hq (H.set i (some (.tok 2 q.l.length))) ?_;refine S As (nil ?_);obtain⟨aH,ao,b⟩:=jR b;have b:=ku ao b;exact Q _ q wA b
   rintro u b;try dsimp only at b
   refine region ?_;refine S Mv ?_;refine SI ?_;refine S As (nil ?_);exact O _ (u,(j+1)) wA b (dl E)
  rw [lX] at b;have b:=ku N b;refine ag.exit ?_;obtain⟨aJ,ap,b⟩:=bW b;have b:=ku ap b;exact M _ o wA b
 rintro aK b;try dsimp only at b
 refine af (S Mv (S As (nil ?_)));refine ag.gb 2 rfl ?_;refine ag.ret ?_;repeat (first|refine bK ?_|refine bL ?_)
 obtain rfl:=oJ b;refine bz.bJ H rfl ⟨rfl,rfl⟩ ?_
 first|exact ah.cG B|(simp only [ah.set_set]; exact ah.cG B)
def jy (g:aq):List ax->Nat->(Sl Z5)->Option ((Sl Z5))
 | [],i,j=>some j
 | k::l,i,j=>on (k) fun b=>(uS g ((i:Nat):Int)).bind fun m=>(aZ 24 j m).bind fun f=>on (bif (decide (b.an=(1:Int))) then((decide (b.an=(1:Int)))) else((decide (b.an=(2:Int))))) fun o=>Option.bind (bif o then((oU g b).bind fun p=>(aZ 24 f p).bind fun q=>some q) else(bif (decide (b.an=(4:Int))) then((qH b).bind fun r=>(aZ 24 f r).bind fun s=>some s) else(bif (decide (b.an=(5:Int))) then((cR b.ai ([46]:Bs)).bind fun t=>(j_ g b.bl t ([]:Bs)).bind fun u=>(aZ 24 f u).bind fun v=>some v) else(some f)))) fun w=>jy g (l) (i+1) w
def nE (b:aq) (m:Bool):Option (Sl Z5):=Option.bind (jy b b.aA.l 0 (Sl.nil:Sl Z5)) fun g=>on (g) fun f=>on (cU b ([81,117,101,114,121]:Bs)) fun i=>Option.bind (bif (m&&(!i.2)) then((aZ 24 f (⟨false,[(Z5.mk (30:Int) ([81,117,101,114,121]:Bs))]⟩:Sl Z5)).bind fun j=>some j) else(some f)) fun k=>some k
def Bb (b:aq) (f:Bool):Option (Sl Z5):=nE b f
theorem Ql (a0:aq) (a1:Bool):Bb a0 a1=nE a0 a1:=rfl
theorem Qm {i:aq}{u:Bool}{r:Sl Z5}(b:Bb i u=some r) (H:ah){g:Nat}(aD:H g=some (.tok 2 0)):AC Tryz.prog 54 [.agg (aq.c i),.d (.bool u)] H fun v h'=>v=.a (.d (Sl.d 2 Z5.c (some g) r))/\h'=H.set g (some (.tok 2 r.l.length)):=by
 unfold Bb nE at b;refine AC.oW 69 [.tmp 4] Tryz.call54 Tryz.func54 ?_;refine ag.eS (h':=(H.set g (some (.tok 2 0)))) (by funext n_; simp only [ah.set]; (repeat' split)<;>simp_all) ?_;refine af (S BX (S As (nil ?_)));refine af (S As (nil ?_));refine ag.fU 5 2 g rfl aI ?_;refine aT (TA 1 (TA 2 kN)) (fun(z:(Sl Z5))=>[(5,.a (.d (Sl.d 2 Z5.c (some g) z)))]) (fun z=>(H.set g (some (.tok 2 z.l.length)))) (fun z=>(on (cU i ([81,117,101,114,121]:Bs)) fun w=>Option.bind (bif (u&&(!w.2)) then((aZ 24 z (⟨false,[(Z5.mk (30:Int) ([81,117,101,114,121]:Bs))]⟩:Sl Z5)).bind fun k=>some k) else(some z)) fun x=>some x)=some r) ?_ ?_
 ·intro aE L;refine af (S As (nil ?_));refine block ?_;obtain⟨p,M,b⟩:=cB b;refine bx (TA 1 (TA 2 kN)) (fun(z:(Sl Z5)×Nat)=>[(5,.a (.d (Sl.d 2 Z5.c (some g) z.1))),(6,.a (.d (.int .i64 ((z.2:Nat):Int))))]) (fun z=>(H.set g (some (.tok 2 z.1.l.length)))) (fun z=>i.aA.l.length-z.2) (fun z=>Option.bind (jy i (i.aA.l.drop z.2) z.2 z.1) p=some r) ((Sl.nil:Sl Z5),0) b wA ?_
  rintro ⟨y,j⟩ b aF N;try dsimp only at b
  refine ay fun O B=>?_;refine af (S Mv (S Fv (S Ld ?_)));refine sLen (f:=ax.c) (s:=i.aA) (TK rfl) rfl rfl rfl rfl fun aG=>?_;refine S BI (nil ?_);refine ag.cA (fun l=>Option.bind (jy i l j y) p=some r) b rfl (fun aH C q b=>?_) (fun q b=>?_)
  ·rw [jy] at b;try dsimp only at q
   have aJ:=oD q;refine sk B ?_;clear B O;refine aT (TA 1 (TA 2 (TA 6 kN))) (fun(z:(Sl Z5))=>[(5,.a (.d (Sl.d 2 Z5.c (some g) z)))]) (fun z=>(H.set g (some (.tok 2 z.l.length)))) (fun z=>Option.bind (jy i (i.aA.l.drop (j+1)) (j+1) z) p=some r) ?_ ?_
   ·intro aK m;refine block ?_;refine af (S Fv (S Ld (S Mv ?_)));obtain⟨E,P,b⟩:=vO C b;refine S (ix ax.c j P) (S Ld ?_);refine Sl ?_;refine Sf ?_;refine nil ?_;refine bu 7 _ rfl (KA 1 (KA 2 (KA 5 (KA 6 aS.nil)))) ?_;refine af (S Mv (S Ld (S Mv ?_)));obtain⟨aL,Q,b⟩:=qO (Qg _ _) b;refine Sc rfl rfl (Qf Q) ?_;obtain⟨t,R,b⟩:=qO rfl b;refine SH (am Z5.c (TK rfl) rfl (TK rfl) (TK rfl) R) ?_
    refine hq (H.set g (some (.tok 2 t.l.length))) ?_;refine S As (nil ?_);refine af (S Fv (S Ld (nil ?_)));refine block ?_;obtain⟨U,W,b⟩:=jR b;refine aT (TA 1 (TA 2 (TA 5 (TA 6 (TA 7 (TA 28 kN)))))) (fun(z:Bool)=>[(29,.a (.d (.bool z)))]) (fun z=>(H.set g (some (.tok 2 t.l.length)))) (fun z=>U z=some r) ?_ ?_
    ·intro aM F;refine af (S BI (S As (nil ?_)));refine cP b (fun X b=>?_) (fun X b=>?_)
     ·refine ag.skip ?_;exact F _ (decide (E.an=(1:Int))) wA b
     refine region ?_;refine S BI (S As (nil ?_));exact F _ (decide (E.an=(2:Int))) wA b
    rintro aN b;try dsimp only at b
    have b:=ku W b;obtain⟨aO,o,b⟩:=gE b;refine cO b (fun Y b=>?_) (fun Y b=>?_)
    ·refine region ?_;refine S Mv (S Ld (S Ld ?_));obtain⟨aP,Z,b⟩:=qO (Qh _ _) b;refine Sc rfl rfl (Qi Z) ?_;obtain⟨G,aa,b⟩:=qO rfl b;refine SH (am Z5.c (TK rfl) rfl (TK rfl) (TK rfl) aa) ?_;refine hq (H.set g (some (.tok 2 G.l.length))) ?_;refine S As (nil ?_);have b:=ku o b;exact m _ G wA b
    refine af (S BI (S As (nil ?_)));refine cO b (fun ab b=>?_) (fun ab b=>?_)
    ·refine region ?_;refine S Mv (S Ld ?_);obtain⟨aQ,ad,b⟩:=qO (Qj _) b;refine Sc rfl rfl (Qk ad) ?_;obtain⟨I,ae,b⟩:=qO rfl b;refine SH (am Z5.c (TK rfl) rfl (TK rfl) (TK rfl) ae) ?_;refine hq (H.set g (some (.tok 2 I.l.length))) ?_;refine S As (nil ?_);have b:=ku o b;exact m _ I wA b
    refine af (S BI (S As (nil ?_)));refine cO b (fun ai b=>?_) (fun ai b=>?_)
    ·refine region ?_;refine S Mv (S Ld (S Fv (S Ld (S Fv (S Ld ?_)))));obtain⟨aR,aj,b⟩:=qO rfl b;refine s0 (ez rfl rfl aj) rfl ?_;obtain⟨aU,ak,b⟩:=qO (HI _ _ _ _) b;refine Sc rfl rfl (HJ ak) ?_;obtain⟨J,al,b⟩:=qO rfl b;refine SH (am Z5.c (TK rfl) rfl (TK rfl) (TK rfl) al) ?_;refine hq (H.set g (some (.tok 2 J.l.length))) ?_;refine S As (nil ?_);have b:=ku o b
     exact m _ J wA b
    refine ag.skip ?_;have b:=ku o b;exact m _ t wA b
   rintro ao b;try dsimp only at b
   refine region ?_;refine S Mv ?_;refine SI ?_;refine S As (nil ?_);exact N _ (ao,(j+1)) wA b (dl C)
  rw [jy] at b;have b:=ku M b;refine ag.exit ?_;obtain⟨aV,ap,b⟩:=bW b;have b:=ku ap b;exact L _ y wA b
 rintro au b;try dsimp only at b
 refine af (S Ld ?_);obtain⟨w,av,b⟩:=vT (jv _ _) b;refine Sc rfl rfl (jw av) ?_;refine S Mv (S EX (S EX ?_));refine Sl ?_;refine Sf ?_;refine S As (nil ?_);refine bu 8 _ rfl (KA 1 (KA 5 (KA 9 aS.nil))) ?_;obtain⟨aw,az,b⟩:=cB b;refine aT kN (fun(z:(Sl Z5))=>[(5,.a (.d (Sl.d 2 Z5.c (some g) z)))]) (fun z=>(H.set g (some (.tok 2 z.l.length)))) (fun z=>aw z=some r) ?_ ?_
 ·intro aW K;refine af (S Mv (S Mv (G0 Mv ?_)));refine G1 61 rfl NB ?_;refine S PA (nil ?_);refine cO b (fun aB b=>?_) (fun aB b=>?_)
  ·refine region ?_;refine S Mv (S BU (S BV ?_));obtain⟨k,aC,b⟩:=qO rfl b;refine SH (am Z5.c (TK rfl) rfl (TK rfl) (TK rfl) aC) ?_;refine hq (H.set g (some (.tok 2 k.l.length))) ?_;refine S As (nil ?_);exact K _ k wA b
  refine ag.skip ?_;exact K _ au wA b
 rintro x b;try dsimp only at b
 have b:=ku az b;refine af (S Mv (S As (nil ?_)));exact rt b
def nF (b:Bs):List Bs->Unit ⊕ Bool
 | []=>Sum.inl ()
 | f::g=>on (f) fun i=>bif ((i==b)) then(Sum.inr true) else(nF b (g) )
def iT (g:(Sl Bs)) (i:Bs):Bool:=on (nF i g.l ) fun b=>match b with|Sum.inl _=>(on (()) fun _=>false)|Sum.inr f=>(f)
def Bc (b:(Sl Bs)) (f:Bs):Option Bool:=some (iT b f)
theorem Bd (a0:(Sl Bs)) (a1:Bs):Bc a0 a1=some (iT a0 a1):=rfl
theorem Be {g:Sl Bs}{i:Bs}{w0:Option Nat}{r:Bool}(b:Bc g i=some r) (H:ah) :AC Tryz.prog 114 [.d (Sl.d 1 aP w0 g),.d (.str i)] H fun v h'=>v=.a (.d (.bool r))/\h'=H:=by
 unfold Bc iT at b;refine AC.oW 18 [.tmp 4] Tryz.call114 Tryz.func114 ?_;refine af (S As (nil ?_));refine aT kN (fun(z:Unit)=>[]) (fun z=>H) (fun z=>some (false)=some r) ?_ ?_
 ·intro F u;refine af (S As (nil ?_));refine block ?_;obtain⟨k,m,b⟩:=eB b;refine bx (TA 0 (TA 1 kN)) (fun(z:Nat)=>[(5,.a (.d (.int .i64 ((z:Nat):Int))))]) (fun z=>H) (fun z=>g.l.length-z) (fun z=>k (nF i (g.l.drop z) )=some r) 0 b wA ?_;rintro o b G w;try dsimp only at b
  refine ay fun x p=>?_;refine af (S Mv (S Mv ?_));refine sLen (f:=aP) (s:=g) (TK rfl) rfl rfl rfl rfl fun I=>?_;refine S BI (nil ?_);refine ag.cA (fun l=>k (nF i l )=some r) b rfl (fun J q j b=>?_) (fun j b=>?_)
  ·rw [nF] at b;try dsimp only at j
   have K:=oD j;refine sk p ?_;clear p x;refine ay fun y t=>?_;refine block ?_;refine af (S Mv (S Mv ?_));obtain⟨L,B,b⟩:=vP q b;refine S (ix aP o B) (S Ld (S Mv (S BS (nil ?_))));refine cP b (fun C b=>?_) (fun C b=>?_)
   ·refine af (S As (nil ?_));refine ag.ret ?_;repeat (first|refine bK ?_|refine bL ?_)
    have b:=ku m b;obtain rfl:=oJ b;refine bz.bJ H rfl ⟨rfl,rfl⟩ ?_;exact(fun _ _ h=>h)
   refine sk t ?_;clear t y;refine region ?_;refine S Mv ?_;refine SI ?_;refine S As (nil ?_);exact w _ (o+1) wA b (dl q)
  rw [nF] at b;have b:=ku m b;try dsimp only at b
  refine ag.exit ?_;obtain⟨M,E,b⟩:=eB b;have b:=ku E b;exact u _ () wA b
 rintro _ b;try dsimp only at b
 refine af (S As (nil ?_));exact rt b
def uT (i:aq) (f:Bs) (j:Int):Int:=on (cU i f) fun b=>on (bif (!b.2) then iS f else false) fun g=>bif ((!b.2)&&(!g)) then((8:Int)) else(bif (!decide (b.1.an=j)) then((9:Int)) else((0:Int)))
def Bf (b:aq) (f:Bs) (g:Int):Option Int:=some (uT b f g)
theorem HK (a0:aq) (a1:Bs) (a2:Int):Bf a0 a1 a2=some (uT a0 a1 a2):=rfl
theorem HM {i:aq}{j:Bs}{k r:Int}(b:Bf i j k=some r) (H:ah) :AC Tryz.prog 156 [.agg (aq.c i),.d (.str j),.d (.int .i64 k)] H fun v h'=>v=.a (.d (.int .i64 r))/\h'=H:=by
 unfold Bf uT at b;refine AC.oW 26 [.tmp 6] Tryz.call156 Tryz.func156 ?_;refine af (S BX (S As (nil ?_)));refine af (S Ld (S Mv ?_));obtain⟨t,l,b⟩:=vP (jv _ _) b;refine Sc rfl rfl (jw l) ?_;refine S Mv (S EX (S EX ?_));refine Sl ?_;refine Sf ?_;refine S As (nil ?_);refine bu 7 _ rfl (KA 1 (KA 2 (KA 8 aS.nil))) ?_;refine ay fun m f=>?_;refine af (S Mv (S NB (S Mv (G0 Mv ?_))))
 obtain⟨u,o,b⟩:=lP (fun _=>(sC _)) b;refine dA 18 rfl rfl rfl rfl rfl (fun hC=>sD (o hC)) ?_;refine G1 19 rfl NB ?_;refine S PA (nil ?_);refine cP b (fun p b=>?_) (fun p b=>?_)
 ·refine af (S As (nil ?_));exact rt b
 refine sk f ?_;clear f m;refine ay fun q g=>?_;refine af (S Fv (S Ld (S Mv (S BI (nil ?_)))));refine cP b (fun s b=>?_) (fun s b=>?_)
 ·refine af (S As (nil ?_));exact rt b
 refine sk g ?_;clear g q;refine af (S As (nil ?_));exact rt b
end Go.Proofs
