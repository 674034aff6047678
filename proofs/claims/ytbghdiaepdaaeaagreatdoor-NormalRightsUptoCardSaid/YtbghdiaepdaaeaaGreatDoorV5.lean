import Derived.Test.YtbghdiaepdaaeaaGreatDoorV4
set_option maxRecDepth 100000
set_option maxHeartbeats 2000000
set_option linter.unusedVariables false
set_option linter.unusedSimpArgs false
namespace Go.Proofs
open Go Go.Ab
open aQ ar ag aS dY
variable {ak:bf}
def xO (b:Bs):az:=(az.mk b (Sl.nil:Sl Int))
def Ca (b:Bs):Option az:=some (xO b)
theorem Rq (a0:Bs):Ca a0=some (xO a0):=rfl
theorem Rr {f:Bs}{r:az}(b:Ca f=some r) (H:ah) :AC Tryz.prog 167 [.d (.str f)] H fun v h'=>v=.a (.agg (az.c r))/\h'=H:=by
 unfold Ca xO at b;refine AC.oW 5 [.cell 2 50] Tryz.call167 Tryz.func167 ?_;refine af ?_;refine Sl ?_;refine nil ?_;refine af (S Mv (S BU ?_));refine Sf ?_;refine nil ?_;exact rt b
def vc :Option az:=on (xO ([83,116,114,105,110,103]:Bs)) fun b=>(xN b).bind fun f=>some f
def xP :Option az:=vc 
theorem Rs :xP =vc :=rfl
theorem Iv    {r:az}(b:xP =some r) (H:ah) :AC Tryz.prog 107 [] H fun v h'=>v=.a (.agg (az.c r))/\h'=H:=by
 unfold xP vc at b;refine AC.oW 3 [.cell 0 50] Tryz.call107 Tryz.func107 ?_;refine af ?_;refine Sl ?_;refine nil ?_;refine af ?_;obtain⟨i,f,b⟩:=vT (Rq _) b;refine Sc rfl rfl (Rr f) ?_;obtain⟨j,g,b⟩:=qT (Ro _) b;refine Sc rfl rfl (Rp g) ?_;refine Sf ?_;refine nil ?_;exact rt b
def mm :List UInt8->Unit ⊕ Bool
 | []=>Sum.inl ()
 | f::g=>on (f) fun b=>bif (!(((((decide ((97:Int)<=((b.toNat:Nat):Int)))&&(decide (((b.toNat:Nat):Int)<=(122:Int))))||((decide ((65:Int)<=((b.toNat:Nat):Int)))&&(decide (((b.toNat:Nat):Int)<=(90:Int)))))||((decide ((48:Int)<=((b.toNat:Nat):Int)))&&(decide (((b.toNat:Nat):Int)<=(57:Int)))))||(decide (((b.toNat:Nat):Int)=(95:Int))))) then(Sum.inr false) else(mm  (g) )
def nP (b:Bs):Option Bool:=aN (!(((b==([]:Bs)))||(decide ((64:Int)<((b.length:Nat):Int))))) (b[0]?) (0:UInt8) fun f=>aN ((!(((b==([]:Bs)))||(decide ((64:Int)<((b.length:Nat):Int))))&&(decide ((48:Int)<=((f.toNat:Nat):Int))))) (b[0]?) (0:UInt8) fun g=>bif ((((b==([]:Bs)))||(decide ((64:Int)<((b.length:Nat):Int))))||((decide ((48:Int)<=((f.toNat:Nat):Int)))&&(decide (((g.toNat:Nat):Int)<=(57:Int))))) then(some false) else(on (mm  b ) fun i=>match i with|Sum.inl _=>(on (()) fun _=>some true)|Sum.inr j=>(some j))
def Cb (b:Bs):Option Bool:=nP b
theorem xQ (a0:Bs):Cb a0=nP a0:=rfl
theorem xR {f:Bs}{r:Bool}(b:Cb f=some r) (H:ah) :AC Tryz.prog 168 [.d (.str f)] H fun v h'=>v=.a (.d (.bool r))/\h'=H:=by
 unfold Cb nP at b;refine AC.oW 58 [.tmp 2] Tryz.call168 Tryz.func168 ?_;refine af (S As (nil ?_));refine ay fun t i=>?_;refine af (S Mv (S BS (S Mv (G0 Mv ?_))));refine gC rfl rfl (fun hC=>aG (k:=8) rfl (wo (TK rfl) rfl rfl rfl)) rfl ?_;refine G1 9 rfl BI ?_;refine S PO (S Mv (G0 Mv ?_));obtain⟨J,u,b⟩:=dx rfl b;refine gC rfl rfl (fun hC=>aG (k:=13) rfl (qi (n:=0) (TK rfl) rfl rfl rfl (u hC))) rfl ?_
 refine G1 14 rfl BI ?_;refine G1 15 rfl Mv ?_;refine G0 Mv ?_;obtain⟨K,w,b⟩:=dx rfl b;refine gC rfl rfl (fun hC=>aG (k:=17) rfl (qi (n:=0) (TK rfl) rfl rfl rfl (w hC))) rfl ?_;refine G1 18 rfl BI ?_;refine gC rfl rfl (fun hC=>aG (k:=16) rfl (fV rfl rfl rfl)) rfl ?_;refine S PO (nil ?_);refine cE b (fun x b=>?_) (fun x b=>?_)
 ·refine af (S As (nil ?_));exact rt b
 refine sk i ?_;clear i t;refine aT kN (fun(z:Unit)=>[]) (fun z=>H) (fun z=>(some true)=some r) ?_ ?_
 ·intro L y;refine af (S Mv ?_);refine mS (TK rfl) rfl rfl rfl rfl fun M=>?_;refine S Mv (nil ?_);refine block ?_;obtain⟨j,m,b⟩:=bW b;refine bx (TA 0 (TA 23 kN)) (fun(z:Nat)=>[(24,.a (.d (.int .i64 ((z:Nat):Int))))]) (fun z=>H) (fun z=>f.length-z) (fun z=>j (mm  (f.drop z) )=some r) 0 b wA ?_;rintro o b N B;try dsimp only at b
  refine af (S BI (nil ?_));refine ay fun C p=>?_;refine ag.cA (fun l=>j (mm  l )=some r) b rfl (fun O q g b=>?_) (fun g b=>?_)
  ·rw [mm] at b;try dsimp only at g
   have P:=oD g;refine sk p ?_;clear p C;refine ay fun E s=>?_;refine block ?_;refine af (S Mv (S As (nil ?_)));refine af (S Mv (S Mv ?_));obtain⟨Q,F,b⟩:=vP q b;refine s0 (qi (n:=o) (TK rfl) rfl rfl rfl F) rfl ?_;refine S As (nil ?_);refine af (S Mv (S BI (S Mv (G0 Mv ?_))));refine G1 33 rfl BI ?_;refine S PA (S Mv (G0 Mv ?_));refine G1 37 rfl BI ?_
   refine G1 38 rfl Mv ?_;refine G0 Mv ?_;refine G1 40 rfl BI ?_;refine gC rfl rfl (fun hC=>aG (k:=39) rfl (fV rfl rfl rfl)) rfl ?_;refine S PO (S Mv (G0 Mv ?_));refine G1 45 rfl BI ?_;refine G1 46 rfl Mv ?_;refine G0 Mv ?_;refine G1 48 rfl BI ?_;refine gC rfl rfl (fun hC=>aG (k:=47) rfl (fV rfl rfl rfl)) rfl ?_;refine S PO (S Mv (G0 Mv ?_));refine G1 53 rfl BI ?_;refine S PO (S NB (nil ?_))
   refine cP b (fun G b=>?_) (fun G b=>?_)
   ·refine af (S As (nil ?_));refine ag.ret ?_;repeat (first|refine bK ?_|refine bL ?_)
    have b:=ku m b;obtain rfl:=oJ b;refine bz.bJ H rfl ⟨rfl,rfl⟩ ?_;exact(fun _ _ h=>h)
   refine sk s ?_;clear s E;refine region ?_;refine SI ?_;refine S Mv (nil ?_);exact B _ (o+1) wA b (dl q)
  rw [mm] at b;have b:=ku m b;try dsimp only at b
  refine ag.exit ?_;obtain⟨R,I,b⟩:=bW b;have b:=ku I b;exact y _ () wA b
 rintro _ b;try dsimp only at b
 refine af (S As (nil ?_));exact rt b
def ve (f:Bs) (b:Bs):Bool:=on (bif (decide (((b.length:Nat):Int)<=((f.length:Nat):Int))) then(List.take (b.length) f) else([]:Bs)) fun g=>((decide (((b.length:Nat):Int)<=((f.length:Nat):Int)))&&((g==b)))
def Cc (b:Bs) (f:Bs):Option Bool:=some (ve b f)
theorem Ru (a0:Bs) (a1:Bs):Cc a0 a1=some (ve a0 a1):=rfl
theorem Rv {g f:Bs}{r:Bool}(b:Cc g f=some r) (H:ah) :AC Tryz.prog 239 [.d (.str g),.d (.str f)] H fun v h'=>v=.a (.d (.bool r))/\h'=H:=by
 unfold Cc ve at b;refine AC.oW 18 [.tmp 4] Tryz.call239 Tryz.func239 ?_;refine af (S As (nil ?_));refine af (S Mv ?_);refine mS (TK rfl) rfl rfl rfl rfl fun j=>?_;refine S Mv ?_;refine mS (TK rfl) rfl rfl rfl rfl fun m=>?_;refine S BI (S Mv (G0 Mv (G0 Mv ?_)));refine gC rfl rfl (fun hC=>aG (k:=12) rfl (wo (TK rfl) rfl rfl rfl)) rfl ?_;obtain⟨o,i,b⟩:=lP (fun hc=>Q.OE (by simp at hc; omega)) b
 refine gC rfl rfl (fun hC=>aG (k:=11) rfl (aG (k:=13) rfl (Np (l:=none) (r:=(some ((f.length:Nat):Int))) (TK rfl) rfl rfl trivial rfl (by simp) (i hC)))) rfl ?_;refine G0 Mv ?_;refine G2 14 15 rfl rfl BS ?_;refine S PA (S As (nil ?_));exact rt b
def vf (f:Bs) (g:Bs):Bool:=on (ve f g) fun b=>b
def Cd (b:Bs) (f:Bs):Option Bool:=some (vf b f)
theorem Rw (a0:Bs) (a1:Bs):Cd a0 a1=some (vf a0 a1):=rfl
theorem Rx {f g:Bs}{r:Bool}(b:Cd f g=some r) (H:ah) :AC Tryz.prog 211 [.d (.str f),.d (.str g)] H fun v h'=>v=.a (.d (.bool r))/\h'=H:=by
 unfold Cd vf at b;refine AC.oW 8 [.tmp 4] Tryz.call211 Tryz.func211 ?_;refine af (S As (nil ?_));refine af (S Mv (S Mv ?_));obtain⟨j,i,b⟩:=vP (Ru _ _) b;refine Sc rfl rfl (Rv i) ?_;refine S As (nil ?_);exact rt b
def nQ (f:Bs):Bool:=on (vf f ([95,95]:Bs)) fun b=>b
def Ce (b:Bs):Option Bool:=some (nQ b)
theorem Ry (a0:Bs):Ce a0=some (nQ a0):=rfl
theorem Rz {f:Bs}{r:Bool}(b:Ce f=some r) (H:ah) :AC Tryz.prog 169 [.d (.str f)] H fun v h'=>v=.a (.d (.bool r))/\h'=H:=by
 unfold Ce nQ at b;refine AC.oW 5 [.tmp 2] Tryz.call169 Tryz.func169 ?_;refine af (S As (nil ?_));refine af (S Mv ?_);obtain⟨i,g,b⟩:=vP (Rw _ _) b;refine Sc rfl rfl (Rx g) ?_;refine S As (nil ?_);exact rt b
def qY (f:Bs):Option Bool:=(nP f).bind fun b=>on (bif b then nQ f else false) fun g=>some (b&&(!g))
def Cf (b:Bs):Option Bool:=qY b
theorem Iw (a0:Bs):Cf a0=qY a0:=rfl
theorem Iy {f:Bs}{r:Bool}(b:Cf f=some r) (H:ah) :AC Tryz.prog 108 [.d (.str f)] H fun v h'=>v=.a (.d (.bool r))/\h'=H:=by
 unfold Cf qY at b;refine AC.oW 10 [.tmp 2] Tryz.call108 Tryz.func108 ?_;refine af (S As (nil ?_));refine af (S Mv ?_);obtain⟨j,g,b⟩:=qT (xQ _) b;refine Sc rfl rfl (xR g) ?_;refine S Mv (G0 Mv ?_);obtain⟨k,i,b⟩:=lN (fun _=>(Ry _)) b;refine dA 6 rfl rfl rfl rfl rfl (fun hC=>Rz (i hC)) ?_;refine G1 7 rfl NB ?_;refine S PA (S As (nil ?_));exact rt b
def mo (f:Bs):List Z6->Unit ⊕ ((Z6×Bool))
 | []=>Sum.inl ()
 | g::i=>on (g) fun b=>bif ((b.ai==f)) then(Sum.inr (b,true)) else(mo f (i) )
def kF (g:ax) (i:Bs):(Z6×Bool):=on (mo i g.bC.l ) fun b=>match b with|Sum.inl _=>(on (()) fun _=>((Z6.mk ([]:Bs) (Sl.nil:Sl Z8) az.zero (Sl.nil:Sl aL)),false))|Sum.inr f=>(f)
def xS (b:ax) (f:Bs):Option (Z6×Bool):=some (kF b f)
theorem RA (a0:ax) (a1:Bs):xS a0 a1=some (kF a0 a1):=rfl
theorem Iz {g:ax}{i:Bs}{r:Z6×Bool}(b:xS g i=some r) (H:ah) :AC Tryz.prog 109 [.agg (ax.c g),.d (.str i)] H fun v h'=>v=.cS [.agg (Z6.c r.1),.d (.bool r.2)]/\h'=H:=by
 unfold xS kF at b;refine AC.oW 22 [.cell 4 104,.tmp 5] Tryz.call109 Tryz.func109 ?_;refine af (S BX ?_);refine Sl ?_;refine S As (nil ?_);refine eD (TA 4 kN) (fun(z:Z6)=>[]) (fun z=>[Z6.c z]) (fun z=>H) (fun z=>some (((Z6.mk ([]:Bs) (Sl.nil:Sl Z8) az.zero (Sl.nil:Sl aL)),false))=some r) ?_ ?_
 ·intro G w;refine af (S Fv (S Ld ?_));refine sLen (f:=Z6.c) (s:=g.bC) (TK rfl) rfl rfl rfl rfl fun I=>?_;refine S Mv (nil ?_);refine block ?_;obtain⟨k,m,b⟩:=eB b;refine gW (TA 1 (TA 4 (TA 9 (TA 10 kN)))) (fun(z:Nat×Z6)=>[(11,.a (.d (.int .i64 ((z.1:Nat):Int))))]) (fun z=>[Z6.c z.2]) (fun z=>H) (fun z=>g.bC.l.length-z.1) (fun z=>k (mo i (g.bC.l.drop z.1) )=some r) (0,Z6.zero) b wA ?_
  rintro ⟨o,p⟩ b J x;try dsimp only at b
  refine af (S BI (nil ?_));refine ay fun y q=>?_;refine ag.cA (fun l=>k (mo i l )=some r) b rfl (fun K t j b=>?_) (fun j b=>?_)
  ·rw [mo] at b;try dsimp only at j
   have L:=oD j;refine sk q ?_;clear q y;refine ay fun B u=>?_;refine block ?_;refine af ?_;obtain⟨M,C,b⟩:=vP t b;refine S (ix Z6.c o C) (S Ld ?_);refine Sl ?_;refine Sf ?_;refine nil ?_;refine bu 7 _ rfl (KA 1 (KA 4 (KA 9 (KA 10 (KA 11 aS.nil))))) ?_;refine af (S Fv (S Ld (S Mv (S BS (nil ?_)))));refine cP b (fun E b=>?_) (fun E b=>?_)
   ·refine af (S Ld ?_);refine Sf ?_;refine S As (nil ?_);refine ag.ret ?_;repeat (first|refine bK ?_|refine bL ?_)
    have b:=ku m b;obtain rfl:=oJ b;refine bz.bJ H rfl ⟨rfl,rfl⟩ ?_;exact(fun _ _ h=>h)
   refine sk u ?_;clear u B;refine region ?_;refine SI ?_;refine S Mv (nil ?_);exact x _ ((o+1),p) wA b (dl t)
  rw [mo] at b;have b:=ku m b;try dsimp only at b
  refine ag.exit ?_;obtain⟨N,F,b⟩:=eB b;have b:=ku F b;exact w _ p wA b
 rintro O b;try dsimp only at b
 refine af (S BU ?_);refine Sf ?_;refine S As (nil ?_);exact rt b
def s8 (b:Int):Bool:=(!decide (b=b))
def Cg (b:Int):Option Bool:=some (s8 b)
theorem IA (a0:Int):Cg a0=some (s8 a0):=rfl
theorem IB {f:Int}{r:Bool}(b:Cg f=some r) (H:ah) :AC Tryz.prog 187 [.d (.int .i64 f)] H fun v h'=>v=.a (.d (.bool r))/\h'=H:=by
 unfold Cg s8 at b;refine AC.oW 6 [.tmp 2] Tryz.call187 Tryz.func187 ?_;refine af (S As (nil ?_));refine af (S Mv (S Mv (S BI (S As (nil ?_)))));exact rt b
def xT (b:Int) (f:Int):Int:=on (s8 b) fun i=>on (s8 f) fun g=>bif i then(bif g then((0:Int)) else((-1:Int))) else(bif g then((1:Int)) else(bif (decide (b<f)) then((-1:Int)) else(bif (decide (f<b)) then((1:Int)) else((0:Int)))))
def qZ (b:Int) (f:Int):Option Int:=some (xT b f)
theorem RB (a0:Int) (a1:Int):qZ a0 a1=some (xT a0 a1):=rfl
theorem Ch {l m r:Int}(b:qZ l m=some r) (H:ah) :AC Tryz.prog 138 [.d (.int .i64 l),.d (.int .i64 m)] H fun v h'=>v=.a (.d (.int .i64 r))/\h'=H:=by
 unfold qZ xT at b;refine AC.oW 20 [.tmp 4] Tryz.call138 Tryz.func138 ?_;refine af (S As (nil ?_));refine af (S Mv ?_);obtain⟨E,o,b⟩:=vP (IA _) b;refine Sc rfl rfl (IB o) ?_;refine S As (nil ?_);refine af (S Mv ?_);obtain⟨F,p,b⟩:=vP (IA _) b;refine Sc rfl rfl (IB p) ?_;refine S As (nil ?_);refine ay fun q f=>?_;refine af (S Mv (nil ?_));refine cP b (fun s b=>?_) (fun s b=>?_)
 ·refine ay fun t g=>?_;refine af (S Mv (nil ?_));refine cP b (fun u b=>?_) (fun u b=>?_)
  ·refine af (S As (nil ?_));exact rt b
  refine sk g ?_;clear g t;refine af (S As (nil ?_));exact rt b
 refine sk f ?_;clear f q;refine ay fun w i=>?_;refine af (S Mv (nil ?_));refine cP b (fun x b=>?_) (fun x b=>?_)
 ·refine af (S As (nil ?_));exact rt b
 refine sk i ?_;clear i w;refine ay fun y j=>?_;refine af (S Mv (S Mv (S BI (nil ?_))));refine cP b (fun z b=>?_) (fun z b=>?_)
 ·refine af (S As (nil ?_));exact rt b
 refine sk j ?_;clear j y;refine ay fun B k=>?_;refine af (S Mv (S Mv (S BI (nil ?_))));refine cP b (fun C b=>?_) (fun C b=>?_)
 ·refine af (S As (nil ?_));exact rt b
 refine sk k ?_;clear k B;refine af (S As (nil ?_));exact rt b
def Tryz.RC:Go.Shelf.Ren:=⟨fun|106=>139|213=>188|265=>225|n=>n,fun|9=>9|3=>3|n=>n,fun|n=>n⟩
theorem Tryz.RD:Go.Proofs.Lays.n106 Tryz.prog Tryz.RC:={
 mixed:=by kernel_rfl
 f106:=Tryz.func139.trans (congrArg some (by kernel_rfl))
 f213:=Tryz.func188.trans (congrArg some (by kernel_rfl))
 f265:=Tryz.func225.trans (congrArg some (by kernel_rfl))
 t3:=Tryz.underlying3
 a3:=Tryz.isAgg3
 z3:=Tryz.sizeOf3
 v3:=Tryz.zeroValue3
 t9:=Tryz.underlying9
 a9:=Tryz.isAgg9
 z9:=Tryz.sizeOf9
 v9:=Tryz.zeroValue9 }
def vg (s t:Bs):Option Int:=some (Lib.compareBytes s t)
theorem IC {b f:Bs}{r:Int}(g:vg b f=some r) (H:ah):AC Tryz.prog 139 [.d (.str b),.d (.str f)] H fun v h'=>v=.a (.d (.int .i64 r))/\h'=H:=by
 obtain rfl:=oJ g;exact Oi Tryz.RD rfl
def xU (b:aa) (f:Int):Option Bs:=bif (decide (f<((b.aF.l.length:Nat):Int))) then((bV b.aF.l f).bind fun g=>some g) else(some ([]:Bs))
def s9 (b:aa) (f:Int):Option Bs:=xU b f
theorem RE (a0:aa) (a1:Int):s9 a0 a1=xU a0 a1:=rfl
theorem ID {g:aa}{j:Int}{r:Bs}(b:s9 g j=some r) (H:ah) :AC Tryz.prog 140 [.agg (aa.c g),.d (.int .i64 j)] H fun v h'=>v=.a (.d (.str r))/\h'=H:=by
 unfold s9 xU at b;refine AC.oW 15 [.tmp 4] Tryz.call140 Tryz.func140 ?_;refine af (S BX (S As (nil ?_)));refine ay fun k i=>?_;refine af (S Mv (S Fv (S Ld ?_)));refine sLen (f:=aP) (s:=g.aF) (TK rfl) rfl rfl rfl rfl fun o=>?_;refine S BI (nil ?_);refine cE b (fun l b=>?_) (fun l b=>?_)
 ·refine af (S Fv (S Ld (S Mv ?_)));obtain⟨p,m,b⟩:=qT rfl b;refine s0 (fu (f:=aP) (TK rfl) rfl (TK rfl) rfl rfl rfl m) rfl ?_;refine S Ld (S As (nil ?_));exact rt b
 refine sk i ?_;clear i k;refine af (S As (nil ?_));exact rt b
def py  (b:Int):Option Int:=some b
def xV (b:Int) (f:Int->Int->Option Int) (g:Int):Option Int:=(bG b (1:Int)).bind fun i=>f g i
def xW (i:aa) (j:aa) (b:Int) (f:Int->Int->Option Int) :Option Int:=(qZ ((i.av.l.length:Nat):Int) ((j.av.l.length:Nat):Int)).bind fun g=>xV b f g
def s_ (f:aa) (g:aa) (i:Int) (j:Int->Int->Option Int) (k:aa->aa->Option Int):Nat->Int->Option Int
 | 0,_=>none
 | p+1,b=>bif (decide (b<(if ((g.av.l.length:Nat):Int)<((f.av.l.length:Nat):Int) then((g.av.l.length:Nat):Int) else((f.av.l.length:Nat):Int)))) then((s9 f b).bind fun q=>(s9 g b).bind fun r=>(vg q r).bind fun m=>bif (!decide (m=(0:Int))) then(py   m) else((bV f.av.l b).bind fun s=>(bV g.av.l b).bind fun t=>(k s t).bind fun o=>bif (!decide (o=(0:Int))) then(py   o) else((bG b (1:Int)).bind fun u=>(s_ f g i j k p) u))) else(xW f g i j )
def kG (b:aa) (f:aa) (g:aa->aa->Option Int):Nat->Int->Int->Option Int
 | 0,_,_=>none
 | j+1,k,i=>bif (decide (i<(1:Int))) then(bif (!decide (b.an=f.an)) then((qZ b.an f.an).bind fun l=>py   l) else(bif (!decide (b.aV=f.aV)) then((qZ b.aV f.aV).bind fun m=>py   m) else(bif (!(b.aR==f.aR)) then((vg b.aR f.aR).bind fun o=>py   o) else(s_ b f i ((kG b f g j)) g F0 (0:Int))))) else(py   k)
def iD:Nat->aa->aa->Option Int
 | 0,_,_=>none
 | n+1,b,f=>kG b f (iD n) F0 (0:Int) (0:Int)
def Ci (n:Nat):Prop:=∀{a0:aa}{a1:aa}   {r:Int},iD n a0 a1=some r->∀(H:ah),AC Tryz.prog 84 [.agg (aa.c a0),.agg (aa.c a1)] H fun v h'=>v=.a (.d (.int .i64 r))/\h'=H
theorem RF (n:Nat) (w:Ci (ak:=ak) n):Ci (ak:=ak) (n+1):=by
 intro g i   r b H ;rw [iD] at b;refine AC.oW 84 [.tmp 4] Tryz.call84 Tryz.func84 ?_;refine af (S BX (S BX (S As (nil ?_))));refine ag.scope ?_;refine af (S As (nil ?_));refine ay fun y o=>?_;refine ag.label ?_;refine o _ ?_;clear o y;refine aT kN (fun(z:Int)=>[(5,.a (.d (.int .i64 z)))]) (fun z=>H) (fun z=>py z=some r) ?_ ?_
 ·intro aE j;refine af (S Mv (nil ?_));refine block ?_;refine bx (TA 2 (TA 3 kN)) (fun(z:Nat×Int×Int)=>[(5,.a (.d (.int .i64 z.2.1))),(7,.a (.d (.int .i64 z.2.2)))]) (fun z=>H) (fun z=>z.1) (fun z=>kG g i (iD n) z.1 z.2.1 z.2.2=some r) (F0,(0:Int),(0:Int)) b wA ?_;rintro ⟨k,B,l⟩ b aF C;try dsimp only at b
  cases k with
  | zero=>cases b
  | succ k =>
    rw [kG] at b;refine af (S BI (nil ?_));refine ay fun E p=>?_;refine cE b (fun F b=>?_) (fun F b=>?_)
    ·refine sk p ?_;clear p E;refine aT (TA 2 (TA 3 (TA 7 kN))) (fun(z:Int)=>[(5,.a (.d (.int .i64 z)))]) (fun z=>H) (fun z=>xV l ((kG g i (iD n) k)) z=some r) ?_ ?_
     ·intro aG G;refine block ?_;refine ay fun I q=>?_;refine block ?_;refine af (S Fv (S Ld (S Fv (S Ld (S BI (S As (nil ?_)))))));refine cE b (fun J b=>?_) (fun J b=>?_)
      ·refine af (S Fv (S Ld (S Fv (S Ld ?_))));obtain⟨K,L,b⟩:=bO b;refine Sc rfl rfl (Ch L) ?_;refine S As (nil ?_);refine ag.exit ?_;exact j _ K wA b
      refine af (S Fv (S Ld (S Fv (S Ld (S BI (S As (nil ?_)))))));refine cE b (fun M b=>?_) (fun M b=>?_)
      ·refine af (S Fv (S Ld (S Fv (S Ld ?_))));obtain⟨N,O,b⟩:=bO b;refine Sc rfl rfl (Ch O) ?_;refine S As (nil ?_);refine ag.exit ?_;exact j _ N wA b
      refine af (S Fv (S Ld (S Fv (S Ld (S BS (S As (nil ?_)))))));refine cE b (fun P b=>?_) (fun P b=>?_)
      ·refine af (S Fv (S Ld (S Fv (S Ld ?_))));obtain⟨Q,R,b⟩:=bO b;refine Sc rfl rfl (IC R) ?_;refine S As (nil ?_);refine ag.exit ?_;exact j _ Q wA b
      refine sk q ?_;clear q I;refine aT (TA 2 (TA 3 (TA 7 kN))) (fun(z:Unit)=>[]) (fun z=>H) (fun z=>xW g i l ((kG g i (iD n) k)) =some r) ?_ ?_
      ·intro aH U;refine af (S Fv ?_);refine s0 (bS (TK rfl) rfl rfl (congrArg (fun x=>some (A.d x)) (aa.dm _))) rfl ?_;refine sLen (f:=aa.c) (s:=g.av) (TK rfl) rfl rfl rfl rfl fun aJ=>?_;refine S Fv ?_;refine s0 (bS (TK rfl) rfl rfl (congrArg (fun x=>some (A.d x)) (aa.dm _))) rfl ?_;refine sLen (f:=aa.c) (s:=i.av) (TK rfl) rfl rfl rfl rfl fun aK=>?_;refine s0 (No rfl rfl) rfl ?_
       refine S Mv (nil ?_);refine block ?_;refine bx (TA 2 (TA 3 (TA 7 (TA 48 kN)))) (fun(z:Nat×Int)=>[(49,.a (.d (.int .i64 z.2)))]) (fun z=>H) (fun z=>z.1) (fun z=>s_ g i l ((kG g i (iD n) k)) (iD n) z.1 z.2=some r) (F0,(0:Int)) b wA ?_;rintro ⟨m,aL⟩ b aM W;try dsimp only at b
       cases m with
       | zero=>cases b
       | succ m =>
         rw [s_] at b;refine af (S BI (nil ?_));refine ay fun X t=>?_;refine cE b (fun Y b=>?_) (fun Y b=>?_)
         ·refine sk t ?_;clear t X;refine ay fun Z u=>?_;refine block ?_;refine af (S Mv (S As (nil ?_)));refine ay fun ab v=>?_;refine ag.bY (Sd Ld (Sd Mv ?_));obtain⟨aN,ad,b⟩:=bO b;refine cq rfl rfl (ID ad) ?_;refine Sd Ld (Sd Mv ?_);obtain⟨aO,ae,b⟩:=bO b;refine cq rfl rfl (ID ae) ?_;obtain⟨ai,aj,b⟩:=bO b;refine cq rfl rfl (IC aj) ?_
          refine Sd As ?_;refine au.nil (by decide +kernel) ?_;refine af (S Mv (S BI (nil ?_)));refine cE b (fun al b=>?_) (fun al b=>?_)
          ·refine ag.exit ?_;exact j _ ai wA b
          refine sk v ?_;clear v ab;refine ag.bY (Sd Fv ?_);refine au.s0 (bS (TK rfl) rfl rfl (congrArg (fun x=>some (A.d x)) (aa.dm _))) rfl ?_;refine Sd Mv ?_;obtain⟨aP,am,b⟩:=bO b;refine au.s0 (fu (f:=aa.c) (TK rfl) rfl (TK rfl) rfl rfl rfl am) rfl ?_;refine Sd Ld (Sd Fv ?_);refine au.s0 (bS (TK rfl) rfl rfl (congrArg (fun x=>some (A.d x)) (aa.dm _))) rfl ?_
          refine Sd Mv ?_;obtain⟨aQ,an,b⟩:=bO b;refine au.s0 (fu (f:=aa.c) (TK rfl) rfl (TK rfl) rfl rfl rfl an) rfl ?_;refine Sd Ld ?_;obtain⟨ao,ap,b⟩:=bO b;refine cq rfl rfl (w ap) ?_;refine Sd As ?_;refine au.nil (by decide +kernel) ?_;refine af (S Mv (S BI (nil ?_)));refine cE b (fun aq b=>?_) (fun aq b=>?_)
          ·refine ag.exit ?_;exact j _ ao wA b
          refine sk u ?_;clear u Z;refine region ?_;obtain⟨aw,ax,b⟩:=bO b;refine s0 (cI rfl rfl ax) rfl ?_;refine S Mv (nil ?_);exact W _ (m,aw) wA b (nS _)
         refine ag.exit ?_;exact U _ () wA b
      rintro _ b;try dsimp only at b
      unfold xW at b;refine region ?_;refine S Fv ?_;refine s0 (bS (TK rfl) rfl rfl (congrArg (fun x=>some (A.d x)) (aa.dm _))) rfl ?_;refine sLen (f:=aa.c) (s:=g.av) (TK rfl) rfl rfl rfl rfl fun aR=>?_;refine S Fv ?_;refine s0 (bS (TK rfl) rfl rfl (congrArg (fun x=>some (A.d x)) (aa.dm _))) rfl ?_;refine sLen (f:=aa.c) (s:=i.av) (TK rfl) rfl rfl rfl rfl fun aU=>?_
      obtain⟨az,aA,b⟩:=bO b;refine Sc rfl rfl (Ch aA) ?_;refine S As (nil ?_);exact G _ az wA b
     rintro aB b;try dsimp only at b
     unfold xV at b;refine region ?_;obtain⟨aC,aD,b⟩:=bO b;refine s0 (cI rfl rfl aD) rfl ?_;refine S Mv (nil ?_);exact C _ (k,aB,aC) wA b (nS _)
    refine ag.exit ?_;exact j _ B wA b
 rintro aV b;try dsimp only at b
 unfold py at b;refine af (S Mv (S As (nil ?_)));refine ag.ret ?_;repeat (first|refine bK ?_|refine bL ?_|refine NO ?_)
 obtain rfl:=oJ b;refine bz.bJ H rfl ⟨rfl,rfl⟩ ?_;exact(fun _ _ h=>h)
theorem IE:∀(n:Nat),(Ci (ak:=ak) n)
 | 0=>fun b=>by first|cases b|(rw [iD] at b; cases b)
 | n+1=>RF n (IE n)
def Cj (b:aa) (f:aa):Option Int:=iD F0 b f
theorem RG {b f:aa}{r:Int}(g:Cj b f=some r) (H:ah) :AC Tryz.prog 84 [.agg (aa.c b),.agg (aa.c f)] H fun v h'=>v=.a (.d (.int .i64 r))/\h'=H:=(IE F0) g H 
def pz (f:aa) (g:aa):Option Bool:=(Cj f g).bind fun b=>some (decide (b=(0:Int)))
def Ck (b:aa) (f:aa):Option Bool:=pz b f
theorem IF (a0:aa) (a1:aa):Ck a0 a1=pz a0 a1:=rfl
theorem IG {f g:aa}{r:Bool}(b:Ck f g=some r) (H:ah) :AC Tryz.prog 45 [.agg (aa.c f),.agg (aa.c g)] H fun v h'=>v=.a (.d (.bool r))/\h'=H:=by
 unfold Ck pz at b;refine AC.oW 9 [.tmp 4] Tryz.call45 Tryz.func45 ?_;refine af (S BX (S BX (S As (nil ?_))));refine af (S Ld (S Ld ?_));obtain⟨j,i,b⟩:=qT rfl b;refine Sc rfl rfl (RG i) ?_;refine S BI (S As (nil ?_));exact rt b
def mq (f:Bs):List Z8->Unit ⊕ ((Z8×Bool))
 | []=>Sum.inl ()
 | g::i=>on (g) fun b=>bif ((b.ai==f)) then(Sum.inr (b,true)) else(mq f (i) )
def iV (g:(Sl Z8)) (i:Bs):(Z8×Bool):=on (mq i g.l ) fun b=>match b with|Sum.inl _=>(on (()) fun _=>((Z8.mk ([]:Bs) az.zero false aa.zero (Sl.nil:Sl aL)),false))|Sum.inr f=>(f)
def Cl (b:(Sl Z8)) (f:Bs):Option (Z8×Bool):=some (iV b f)
theorem Cm (a0:(Sl Z8)) (a1:Bs):Cl a0 a1=some (iV a0 a1):=rfl
theorem Cn {g:Sl Z8}{i:Bs}{w0:Option Nat}{r:Z8×Bool}(b:Cl g i=some r) (H:ah) :AC Tryz.prog 170 [.d (Sl.d 10 Z8.c w0 g),.d (.str i)] H fun v h'=>v=.cS [.agg (Z8.c r.1),.d (.bool r.2)]/\h'=H:=by
 unfold Cl iV at b;refine AC.oW 21 [.cell 4 148,.tmp 5] Tryz.call170 Tryz.func170 ?_;refine af ?_;refine Sl ?_;refine S As (nil ?_);refine eD (TA 4 kN) (fun(z:Z8)=>[]) (fun z=>[Z8.c z]) (fun z=>H) (fun z=>some (((Z8.mk ([]:Bs) az.zero false aa.zero (Sl.nil:Sl aL)),false))=some r) ?_ ?_
 ·intro G w;refine af (S Mv ?_);refine sLen (f:=Z8.c) (s:=g) (TK rfl) rfl rfl rfl rfl fun I=>?_;refine S Mv (nil ?_);refine block ?_;obtain⟨k,m,b⟩:=eB b;refine gW (TA 1 (TA 4 (TA 8 (TA 9 kN)))) (fun(z:Nat×Z8)=>[(10,.a (.d (.int .i64 ((z.1:Nat):Int))))]) (fun z=>[Z8.c z.2]) (fun z=>H) (fun z=>g.l.length-z.1) (fun z=>k (mq i (g.l.drop z.1) )=some r) (0,Z8.zero) b wA ?_
  rintro ⟨o,p⟩ b J x;try dsimp only at b
  refine af (S BI (nil ?_));refine ay fun y q=>?_;refine ag.cA (fun l=>k (mq i l )=some r) b rfl (fun K t j b=>?_) (fun j b=>?_)
  ·rw [mq] at b;try dsimp only at j
   have L:=oD j;refine sk q ?_;clear q y;refine ay fun B u=>?_;refine block ?_;refine af ?_;obtain⟨M,C,b⟩:=vP t b;refine S (ix Z8.c o C) (S Ld ?_);refine Sl ?_;refine Sf ?_;refine nil ?_;refine bu 7 _ rfl (KA 1 (KA 4 (KA 8 (KA 9 (KA 10 aS.nil))))) ?_;refine af (S Fv (S Ld (S Mv (S BS (nil ?_)))));refine cP b (fun E b=>?_) (fun E b=>?_)
   ·refine af (S Ld ?_);refine Sf ?_;refine S As (nil ?_);refine ag.ret ?_;repeat (first|refine bK ?_|refine bL ?_)
    have b:=ku m b;obtain rfl:=oJ b;refine bz.bJ H rfl ⟨rfl,rfl⟩ ?_;exact(fun _ _ h=>h)
   refine sk u ?_;clear u B;refine region ?_;refine SI ?_;refine S Mv (nil ?_);exact x _ ((o+1),p) wA b (dl t)
  rw [mq] at b;have b:=ku m b;try dsimp only at b
  refine ag.exit ?_;obtain⟨N,F,b⟩:=eB b;have b:=ku F b;exact w _ p wA b
 rintro O b;try dsimp only at b
 refine af (S BU ?_);refine Sf ?_;refine S As (nil ?_);exact rt b
def tc (b:(Sl Bs)):Option (Sl Bs):=bif b.nl then(some (Sl.nil:Sl Bs)) else((aZ 16 (⟨false,[]⟩:Sl Bs) b).bind fun f=>some f)
def Co (b:(Sl Bs)):Option (Sl Bs):=tc b
theorem RH (a0:(Sl Bs)):Co a0=tc a0:=rfl
theorem RI {i:Sl Bs}{w0:Option Nat}{r:Sl Bs}(b:Co i=some r) (H:ah) :AC Tryz.prog 190 [.d (Sl.d 1 aP w0 i)] H fun v h'=>v=.a (.d (Sl.d 1 aP none r))/\h'=H:=by
 unfold Co tc at b;refine AC.oW 8 [.tmp 2] Tryz.call190 Tryz.func190 ?_;refine af ?_;refine s0 (fK (k':=1) rfl) rfl ?_;refine nil ?_;refine ay fun j g=>?_;refine af (S Mv ?_);refine s0 (FU (TK rfl) rfl rfl) rfl ?_;refine nil ?_;refine cE b (fun k b=>?_) (fun k b=>?_)
 ·refine af ?_;refine s0 (fK (k':=1) rfl) rfl ?_;refine nil ?_;exact rt b
 refine sk g ?_;clear g j;refine af ?_;refine s0 (ov (TK rfl) rfl (TK rfl) rfl rfl rfl rfl rfl rfl) rfl ?_;refine S Mv ?_;obtain⟨m,l,b⟩:=qT rfl b;refine s0 (rR (f:=aP) (TK rfl) rfl (TK rfl) (TK rfl) ⟨_,rfl⟩ rfl rfl (by decide) rfl rfl rfl (by intro q h; cases h<;>decide) rfl rfl l) rfl ?_;refine S As (nil ?_);exact rt b
def mr (f:aa->Option aa):List aa->(Sl aa)->Option ((Sl aa))
 | [],b=>some b
 | g::i,b=>on (g) fun j=>(f j).bind fun k=>(aZ 80 b (⟨false,[k]⟩:Sl aa)).bind fun l=>mr f (i) l
mutual
def iW:Nat->aa->Option aa
 | 0,_=>none
 | n+1,b=>((td n) b.av).bind fun f=>(tc b.aF).bind fun g=>some (aa.mk b.an b.aV b.aR f.nl f.l g)
def td:Nat->(Sl aa)->Option (Sl aa)
 | 0,_=>none
 | n+1,g=>Option.bind (mr (iW n) g.l (Sl.nil:Sl aa)) fun b=>on (b) fun f=>some f
end
def xX (n:Nat):Prop:=∀{a0:aa}   {r:aa},iW n a0=some r->∀(H:ah),AC Tryz.prog 141 [.agg (aa.c a0)] H fun v h'=>v=.a (.agg (aa.c r))/\h'=H
def xY (n:Nat):Prop:=∀{a0:(Sl aa)}{w0:Option Nat}  {r:(Sl aa)},td n a0=some r->∀(H:ah),AC Tryz.prog 189 [.d (Sl.d 5 aa.c w0 a0)] H fun v h'=>v=.a (.d (Sl.d 5 aa.c none r))/\h'=H
theorem RJ (n:Nat) (q:xX (ak:=ak) n) (k:xY (ak:=ak) n):xX (ak:=ak) (n+1):=by
 intro b   r g H;rw [iW] at g;refine AC.oW 12 [.cell 2 58] Tryz.call141 Tryz.func141 ?_;refine af ?_;refine sL (rL rfl (by repeat (first|exact bA.nil|apply bA.cons))) rfl ?_;refine Sl ?_;refine nil ?_;refine af (S FL ?_);refine aQ.dc 0 (aa.cu b) rfl (fun j w cs hh f=>by rw [<- aa.fM]; exact f) ?_;refine S LL ?_;obtain⟨i,m,g⟩:=qT rfl g;refine Sc rfl rfl (k m) ?_
 refine S FL ?_;refine Sf ?_;refine aQ.dc 0 (aa.c (aa.mk b.an b.aV b.aR i.nl i.l b.aF)) rfl (fun j w cs hh f=>by rw [aa.fM]; exact f) ?_;refine nil ?_;refine af (S FL (S LL ?_));obtain⟨o,p,g⟩:=qT (RH _) g;refine Sc rfl rfl (RI p) ?_;refine S FL ?_;refine aQ.dc 0 (aa.cu (aa.mk b.an b.aV b.aR i.nl i.l b.aF)) rfl (fun j w cs hh f=>by rw [<- aa.fM]; exact f) ?_
 refine Sf ?_;refine aQ.dc 0 (aa.c (aa.mk b.an b.aV b.aR i.nl i.l o)) rfl (fun j w cs hh f=>by rw [aa.fM]; exact f) ?_;refine nil ?_;refine af (S LL ?_);refine Sf ?_;refine nil ?_;exact rt g
theorem RL (n:Nat) (w:xX (ak:=ak) n) (K:xY (ak:=ak) n):xY (ak:=ak) (n+1):=by
 intro j w0  r b H;rw [td] at b;refine AC.oW 19 [.tmp 2] Tryz.call189 Tryz.func189 ?_;refine ag.tok 5 fun g k=>?_;refine af ?_;refine s0 (fK (k':=5) rfl) rfl ?_;refine nil ?_;refine af (S As (nil ?_));refine ag.fU 3 5 g rfl aI ?_;refine aT kN (fun(z:(Sl aa))=>[(3,.a (.d (Sl.d 5 aa.c (some g) z)))]) (fun z=>(H.set g (some (.tok 5 z.l.length)))) (fun z=>(some z)=some r) ?_ ?_
 ·intro L x;refine af (S Mv ?_);refine sLen (f:=aa.c) (s:=j) (TK rfl) rfl rfl rfl rfl fun M=>?_;refine S Mv (nil ?_);refine block ?_;obtain⟨m,y,b⟩:=cB b;refine bx (TA 6 (TA 7 kN)) (fun(z:(Sl aa)×Nat)=>[(3,.a (.d (Sl.d 5 aa.c (some g) z.1))),(8,.a (.d (.int .i64 ((z.2:Nat):Int))))]) (fun z=>(H.set g (some (.tok 5 z.1.l.length)))) (fun z=>j.l.length-z.2) (fun z=>Option.bind (mr (iW n) (j.l.drop z.2) z.1) m=some r) ((Sl.nil:Sl aa),0) b wA ?_
  rintro ⟨o,p⟩ b N B;try dsimp only at b
  refine af (S BI (nil ?_));refine ay fun C q=>?_;refine ag.cA (fun l=>Option.bind (mr (iW n) l o) m=some r) b rfl (fun O t i b=>?_) (fun i b=>?_)
  ·rw [mr] at b;try dsimp only at i
   have P:=oD i;refine sk q ?_;clear q C;refine ay fun E u=>?_;refine block ?_;refine af ?_;obtain⟨Q,F,b⟩:=vO t b;refine S (ix aa.c p F) (S Ld ?_);refine Sl ?_;refine Sf ?_;refine nil ?_;refine bu 5 _ rfl (KA 3 (KA 6 (KA 7 (KA 8 aS.nil)))) ?_;refine region ?_;refine S Mv (S Ld ?_);obtain⟨R,G,b⟩:=qO rfl b;refine Sc rfl rfl (w G) ?_
   refine S BV ?_;obtain⟨v,I,b⟩:=qO rfl b;refine SH (am aa.c (TK rfl) rfl (TK rfl) (TK rfl) I) ?_;refine hq (H.set g (some (.tok 5 v.l.length))) ?_;refine S As (nil ?_);refine u _ ?_;clear u E;refine region ?_;refine SI ?_;refine S Mv (nil ?_);exact B _ (v,(p+1)) wA b (dl t)
  rw [mr] at b;have b:=ku y b;refine ag.exit ?_;obtain⟨U,J,b⟩:=bW b;have b:=ku J b;exact x _ o wA b
 rintro W b;try dsimp only at b
 refine af (S Mv (S As (nil ?_)));refine ag.gb 2 rfl ?_;refine ag.ret ?_;repeat (first|refine bK ?_|refine bL ?_)
 obtain rfl:=oJ b;refine bz.bJ H rfl ⟨rfl,rfl⟩ ?_
 first|exact ah.cG k|(simp only [ah.set_set]; exact ah.cG k)
theorem vh:∀(n:Nat),(xX (ak:=ak) n)/\(xY (ak:=ak) n)
 | 0=>⟨fun b=>by first|cases b|(rw [iW] at b; cases b),fun b=>by first|cases b|(rw [td] at b; cases b)⟩
 | n+1=>⟨RJ n (vh n).1 (vh n).2,RL n (vh n).1 (vh n).2⟩
def II (a0:aa):Option aa:=iW F0 a0
theorem IJ {b r:aa}(f:II b=some r) (H:ah) :AC Tryz.prog 141 [.agg (aa.c b)] H fun v h'=>v=.a (.agg (aa.c r))/\h'=H:=(vh F0).1 f H 
def q6 (b:aa):Option aa:=iW F0 b
theorem IK (a0:aa):II a0=q6 a0:=rfl
def mu (g:aa) (b:Int):Option (aa×Int):=bif (!decide (b=(0:Int))) then(some ((aa.mk (0:Int) (0:Int) ([]:Bs) true ([]) (Sl.nil:Sl Bs)),b)) else((q6 g).bind fun f=>some (f,(0:Int)))
def Cp (b:aa) (f:Int):Option (aa×Int):=mu b f
theorem RM (a0:aa) (a1:Int):Cp a0 a1=mu a0 a1:=rfl
theorem RN {g:aa}{i:Int}{r:aa×Int}(b:Cp g i=some r) (H:ah) :AC Tryz.prog 212 [.agg (aa.c g),.d (.int .i64 i)] H fun v h'=>v=.cS [.agg (aa.c r.1),.d (.int .i64 r.2)]/\h'=H:=by
 unfold Cp mu at b;refine AC.oW 12 [.cell 4 58,.tmp 5] Tryz.call212 Tryz.func212 ?_;refine af (S BX ?_);refine Sl ?_;refine S As (nil ?_);refine ay fun j f=>?_;refine af (S Mv (S BI (nil ?_)));refine cE b (fun k b=>?_) (fun k b=>?_)
 ·refine af (S BU (S Mv ?_));refine Sf ?_;refine S As (nil ?_);exact rt b
 refine sk f ?_;clear f j;refine af (S Ld ?_);obtain⟨m,l,b⟩:=qT (IK _) b;refine Sc rfl rfl (IJ l) ?_;refine Sf ?_;refine S As (nil ?_);exact rt b
def gJ (b:Bs):Bool:=(((((b==([73,110,116]:Bs)))||((b==([83,116,114,105,110,103]:Bs))))||((b==([66,111,111,108,101,97,110]:Bs))))||((b==([73,68]:Bs))))
def Cr (b:Bs):Option Bool:=some (gJ b)
theorem IL (a0:Bs):Cr a0=some (gJ a0):=rfl
theorem IM {f:Bs}{r:Bool}(b:Cr f=some r) (H:ah) :AC Tryz.prog 174 [.d (.str f)] H fun v h'=>v=.a (.d (.bool r))/\h'=H:=by
 unfold Cr gJ at b;refine AC.oW 17 [.tmp 2] Tryz.call174 Tryz.func174 ?_;refine af (S As (nil ?_));refine af (S Mv (S BS (S Mv (G0 Mv ?_))));refine G1 6 rfl BS ?_;refine S PO (S Mv (G0 Mv ?_));refine G1 10 rfl BS ?_;refine S PO (S Mv (G0 Mv ?_));refine G1 14 rfl BS ?_;refine S PO (S As (nil ?_));exact rt b
def iE (b:aa) (j:Bs):Option (aa×Bool):=on (g_ b.aF j) fun f=>bif (((!decide (b.an=(6:Int)))||(decide (f<(0:Int))))||(decide (((b.av.l.length:Nat):Int)<=f))) then(some ((aa.mk (0:Int) (0:Int) ([]:Bs) true ([]) (Sl.nil:Sl Bs)),false)) else((bV b.av.l f).bind fun g=>(q6 g).bind fun i=>some (i,true))
def Ct (b:aa) (f:Bs):Option (aa×Bool):=iE b f
theorem xZ (a0:aa) (a1:Bs):Ct a0 a1=iE a0 a1:=rfl
theorem x_ {g:aa}{j:Bs}{r:aa×Bool}(b:Ct g j=some r) (H:ah) :AC Tryz.prog 237 [.agg (aa.c g),.d (.str j)] H fun v h'=>v=.cS [.agg (aa.c r.1),.d (.bool r.2)]/\h'=H:=by
 unfold Ct iE at b;refine AC.oW 32 [.cell 4 58,.tmp 5] Tryz.call237 Tryz.func237 ?_;refine af (S BX ?_);refine Sl ?_;refine S As (nil ?_);refine af (S Fv (S Ld (S Mv ?_)));obtain⟨t,l,b⟩:=vT (B0 _ _) b;refine Sc rfl rfl (B1 l) ?_;refine S As (nil ?_);refine ay fun m i=>?_;refine af (S Fv (S Ld (S BI (S Mv (G0 Mv ?_)))));refine G1 15 rfl BI ?_;refine S PO (S Mv (G0 Mv (G0 Fv ?_)))
 refine gC rfl rfl (fun hC=>aG (k:=20) rfl (bS (TK rfl) rfl rfl (congrArg (fun x=>some (A.d x)) (aa.dm _)))) rfl ?_;refine gC rfl rfl (fun hC=>aG (k:=21) rfl (cZ (f:=aa.c) (s:=g.av) (TK rfl) rfl rfl rfl)) rfl ?_;refine G2 19 22 rfl rfl BI ?_;refine S PO (nil ?_);refine cE b (fun o b=>?_) (fun o b=>?_)
 ·refine af (S BU ?_);refine Sf ?_;refine S As (nil ?_);exact rt b
 refine sk i ?_;clear i m;refine af (S Fv ?_);refine s0 (bS (TK rfl) rfl rfl (congrArg (fun x=>some (A.d x)) (aa.dm _))) rfl ?_;refine S Mv ?_;obtain⟨u,p,b⟩:=qT rfl b;refine s0 (fu (f:=aa.c) (TK rfl) rfl (TK rfl) rfl rfl rfl p) rfl ?_;refine S Ld ?_;obtain⟨w,q,b⟩:=qT (IK _) b;refine Sc rfl rfl (IJ q) ?_;refine Sf ?_;refine S As (nil ?_)
 exact rt b
def pE (f:aq) (g:Bs):Int:=on (eL f g) fun b=>b.1.an
def Cu (b:aq) (f:Bs):Option Int:=some (pE b f)
theorem IN (a0:aq) (a1:Bs):Cu a0 a1=some (pE a0 a1):=rfl
theorem IP {f:aq}{g:Bs}{r:Int}(b:Cu f g=some r) (H:ah) :AC Tryz.prog 175 [.agg (aq.c f),.d (.str g)] H fun v h'=>v=.a (.d (.int .i64 r))/\h'=H:=by
 unfold Cu pE at b;refine AC.oW 15 [.tmp 4] Tryz.call175 Tryz.func175 ?_;refine af (S BX (S As (nil ?_)));refine af (S Ld (S Mv ?_));obtain⟨j,i,b⟩:=vP (oO _ _) b;refine Sc rfl rfl (pq i) ?_;refine S Mv (S EX (S EX ?_));refine Sl ?_;refine Sf ?_;refine S As (nil ?_);refine bu 5 _ rfl aS.nil ?_;refine af (S Fv (S Ld (S As (nil ?_))));exact rt b
def lB (i:aq) (f:Bs):Bool:=on (gJ f) fun b=>on (bif !b then pE i f else(0:Int)) fun g=>(b||(decide (g=(4:Int))))
def Cv (b:aq) (f:Bs):Option Bool:=some (lB b f)
theorem IQ (a0:aq) (a1:Bs):Cv a0 a1=some (lB a0 a1):=rfl
theorem IR {f:aq}{g:Bs}{r:Bool}(b:Cv f g=some r) (H:ah) :AC Tryz.prog 111 [.agg (aq.c f),.d (.str g)] H fun v h'=>v=.a (.d (.bool r))/\h'=H:=by
 unfold Cv lB at b;refine AC.oW 13 [.tmp 4] Tryz.call111 Tryz.func111 ?_;refine af (S BX (S As (nil ?_)));refine af (S Mv ?_);obtain⟨k,i,b⟩:=vP (IL _) b;refine Sc rfl rfl (IM i) ?_;refine S Mv (G0 Ld (G0 Mv ?_));obtain⟨l,j,b⟩:=lP (fun _=>(IN _ _)) b;refine fI 8 9 rfl rfl rfl rfl rfl rfl (fun hC=>IP (j hC)) ?_;refine G1 10 rfl BI ?_;refine S PO (S As (nil ?_))
 exact rt b
def jE (f:aq) (g:Bs):Bool:=on (lB f g) fun b=>on (bif !b then pE f g else(0:Int)) fun i=>(b||(decide (i=(5:Int))))
def Cw (b:aq) (f:Bs):Option Bool:=some (jE b f)
theorem RO (a0:aq) (a1:Bs):Cw a0 a1=some (jE a0 a1):=rfl
theorem RP {f:aq}{g:Bs}{r:Bool}(b:Cw f g=some r) (H:ah) :AC Tryz.prog 238 [.agg (aq.c f),.d (.str g)] H fun v h'=>v=.a (.d (.bool r))/\h'=H:=by
 unfold Cw jE at b;refine AC.oW 14 [.tmp 4] Tryz.call238 Tryz.func238 ?_;refine af (S BX (S As (nil ?_)));refine af (S Ld (S Mv ?_));obtain⟨k,i,b⟩:=vP (IQ _ _) b;refine Sc rfl rfl (IR i) ?_;refine S Mv (G0 Ld (G0 Mv ?_));obtain⟨l,j,b⟩:=lP (fun _=>(IN _ _)) b;refine fI 9 10 rfl rfl rfl rfl rfl rfl (fun hC=>IP (j hC)) ?_;refine G1 11 rfl BI ?_;refine S PO (S As (nil ?_))
 exact rt b
def kH (b:Z0) (g:Int):Option (Int×Z0):=bif (decide ((24:Int)<g)) then(some ((5:Int),b)) else((bG b.gQ (1:Int)).bind fun f=>bif (decide ((4096:Int)<f)) then(some ((4:Int),(Z0.mk b.Fd b.dD b.gY f))) else(some ((0:Int),(Z0.mk b.Fd b.dD b.gY f))))
def Cx (b:Z0) (f:Int):Option (Int×Z0):=kH b f
theorem IS (a0:Z0) (a1:Int):Cx a0 a1=kH a0 a1:=rfl
theorem IT {f:Z0}{k:Int}{g:Nat}{r:Int×Z0}(b:Cx f k=some r) (H:ah) (t:H g=some (.cells (Z0.c f))):AC Tryz.prog 241 [.d (.ptr g 0),.d (.int .i64 k)] H fun v h'=>v=.a (.d (.int .i64 r.1))/\h'=(H.set g (some (.cells (Z0.c r.2)))):=by
 unfold Cx kH at b;refine AC.oW 19 [.tmp 4] Tryz.call241 Tryz.func241 ?_;refine ag.eS (h':=(H.set g (some (.cells (Z0.c f))))) (by funext n_; simp only [ah.set]; (repeat' split)<;>simp_all) ?_;refine af (S As (nil ?_));refine ay fun l i=>?_;refine af (S Mv (S BI (nil ?_)));refine cE b (fun m b=>?_) (fun m b=>?_)
 ·refine af (S As (nil ?_));exact rt b
 refine sk i ?_;clear i l;refine af (S Mv (S NP ?_));refine s0 (ct (TK rfl) rfl rfl (TK rfl) rfl rfl) rfl ?_;refine s0 (dr (TK rfl) rfl rfl aI rfl) rfl ?_;obtain⟨o,p,b⟩:=qT rfl b;refine s0 (cI rfl rfl p) rfl ?_;refine S NP ?_;refine s0 (ct (TK rfl) rfl rfl (TK rfl) rfl rfl) rfl ?_;refine fT (mN (TK rfl) rfl rfl aI rfl (by repeat (first|exact cD.zero|apply cD.succ))) rfl rfl ?_
 refine hq (H.set g (some (.cells (Z0.c (Z0.mk f.Fd f.dD f.gY o))))) ?_;refine nil ?_;refine ay fun q j=>?_;refine af (S Mv (S NP ?_));refine s0 (ct (TK rfl) rfl rfl (TK rfl) rfl rfl) rfl ?_;refine s0 (dr (TK rfl) rfl rfl aI rfl) rfl ?_;refine S BI (nil ?_);refine cE b (fun s b=>?_) (fun s b=>?_)
 ·refine af (S As (nil ?_));exact rt b
 refine sk j ?_;clear j q;refine af (S As (nil ?_));exact rt b
def lC (i:Int) (g:Z0->aa->Int->Option (Int×Z0)):List aa->Z0->Option (Z0 ⊕ ((Int×Z0)))
 | [],f=>some (Sum.inl f)
 | j::k,f=>on (j) fun l=>(bG i (1:Int)).bind fun m=>(g f l m).bind fun b=>bif (!decide (b.1=(0:Int))) then(some (Sum.inr (b.1,b.2))) else(lC i g (k) b.2)
def iM:Nat->Z0->aa->Int->Option (Int×Z0)
 | 0,_,_,_=>none
 | n+1,m,o,f=>(kH m f).bind fun b=>bif (!decide (b.1=(0:Int))) then(some (b.1,b.2)) else(Option.bind (lC f (iM n) o.av.l b.2) fun g=>match g with|Sum.inl i=>(on (i) fun j=>some ((0:Int),j))|Sum.inr k=>(some k))
def Cy (n:Nat):Prop:=∀{a0:Z0}{a1:aa}{a2:Int}  {b:Nat}{r:(Int×Z0)},iM n a0 a1 a2=some r->∀(H:ah) (f:H b=some (.cells (Z0.c a0))),AC Tryz.prog 240 [.d (.ptr b 0),.agg (aa.c a1),.d (.int .i64 a2)] H fun v h'=>v=.a (.d (.int .i64 r.1))/\h'=(H.set b (some (.cells (Z0.c r.2))))
theorem RQ (n:Nat) (C:Cy (ak:=ak) n):Cy (ak:=ak) (n+1):=by
 intro R k B  g r b H U;rw [iM] at b;refine AC.oW 33 [.tmp 6] Tryz.call240 Tryz.func240 ?_;refine ag.eS (h':=(H.set g (some (.cells (Z0.c R))))) (by funext n_; simp only [ah.set]; (repeat' split)<;>simp_all) ?_;refine af (S BX (S As (nil ?_)));refine ay fun E m=>?_;refine af (S Mv (S Mv ?_));obtain⟨o,F,b⟩:=qT (IS _ _) b;refine sH (de rfl rfl (IT F _ aI)) rfl ?_
 refine hq (H.set g (some (.cells (Z0.c o.2)))) ?_;refine S As (nil ?_);refine af (S Mv (S BI (nil ?_)));refine cE b (fun G b=>?_) (fun G b=>?_)
 ·refine af (S Mv (S As (nil ?_)));exact rt b
 refine sk m ?_;clear m E;refine aT kN (fun(z:Z0)=>[]) (fun z=>(H.set g (some (.cells (Z0.c z))))) (fun z=>(some ((0:Int),z))=some r) ?_ ?_
 ·intro W I;refine af (S Fv ?_);refine s0 (bS (TK rfl) rfl rfl (congrArg (fun x=>some (A.d x)) (aa.dm _))) rfl ?_;refine sLen (f:=aa.c) (s:=k.av) (TK rfl) rfl rfl rfl rfl fun X=>?_;refine S Mv (nil ?_);refine block ?_;obtain⟨p,q,b⟩:=cB b;refine bx (TA 0 (TA 2 (TA 18 (TA 19 kN)))) (fun(z:Nat×Z0)=>[(20,.a (.d (.int .i64 ((z.1:Nat):Int))))]) (fun z=>(H.set g (some (.cells (Z0.c z.2))))) (fun z=>k.av.l.length-z.1) (fun z=>Option.bind (lC B (iM n) (k.av.l.drop z.1) z.2) p=some r) (0,o.2) b wA ?_
  rintro ⟨t,u⟩ b Y J;try dsimp only at b
  refine af (S BI (nil ?_));refine ay fun K v=>?_;refine ag.cA (fun l=>Option.bind (lC B (iM n) l u) p=some r) b rfl (fun Z w i b=>?_) (fun i b=>?_)
  ·rw [lC] at b;try dsimp only at i
   have ab:=oD i;refine sk v ?_;clear v K;refine ay fun L y=>?_;refine block ?_;refine af ?_;obtain⟨ad,M,b⟩:=vO w b;refine S (ix aa.c t M) (S Ld ?_);refine Sl ?_;refine Sf ?_;refine nil ?_;refine bu 9 _ rfl (KA 0 (KA 2 (KA 18 (KA 19 (KA 20 aS.nil))))) ?_;refine af (S Mv (S Ld (S Mv ?_)));obtain⟨ae,N,b⟩:=qO rfl b;refine s0 (cI rfl rfl N) rfl ?_
   obtain⟨j,O,b⟩:=qO rfl b;refine sH (de rfl rfl (C O _ aI)) rfl ?_;refine hq (H.set g (some (.cells (Z0.c j.2)))) ?_;refine S As (nil ?_);refine af (S Mv (S BI (nil ?_)));refine cO b (fun P b=>?_) (fun P b=>?_)
   ·refine af (S Mv (S As (nil ?_)));refine ag.ret ?_;repeat (first|refine bK ?_|refine bL ?_)
    have b:=ku q b;obtain rfl:=oJ b;refine bz.bJ (H.set g (some (.cells (Z0.c j.2)))) rfl ⟨rfl,rfl⟩ ?_;exact(fun _ _ h=>h)
   refine sk y ?_;clear y L;refine region ?_;refine SI ?_;refine S Mv (nil ?_);exact J _ ((t+1),j.2) wA b (dl w)
  rw [lC] at b;have b:=ku q b;try dsimp only at b
  refine ag.exit ?_;obtain⟨ai,Q,b⟩:=bW b;have b:=ku Q b;exact I _ u wA b
 rintro aj b;try dsimp only at b
 refine af (S As (nil ?_));exact rt b
theorem IU:∀(n:Nat),(Cy (ak:=ak) n)
 | 0=>fun b=>by first|cases b|(rw [iM] at b; cases b)
 | n+1=>RQ n (IU n)
def IV (b:Z0) (f:aa) (g:Int):Option (Int×Z0):=iM F0 b f g
theorem RR {f:Z0}{g:aa}{i:Int}{b:Nat}{r:Int×Z0}(j:IV f g i=some r) (H:ah) (k:H b=some (.cells (Z0.c f))):AC Tryz.prog 240 [.d (.ptr b 0),.agg (aa.c g),.d (.int .i64 i)] H fun v h'=>v=.a (.d (.int .i64 r.1))/\h'=(H.set b (some (.cells (Z0.c r.2)))):=(IU F0) j H k
def tf (b:Z0) (f:aa) (g:Int):Option (Int×Z0):=iM F0 b f g
theorem RS (a0:Z0) (a1:aa) (a2:Int):IV a0 a1 a2=tf a0 a1 a2:=rfl
def pF (f:az):Option (az×Bool):=(qX f).bind fun g=>bif (!g) then(some ((az.mk ([]:Bs) (Sl.nil:Sl Int)),false)) else((qW f).bind fun b=>(mR b.aK (some (1:Int)) none).bind fun i=>some ((az.mk b.ai i),true))
def Cz (b:az):Option (az×Bool):=pF b
theorem RT (a0:az):Cz a0=pF a0:=rfl
theorem RU {i:az}{r:az×Bool}(b:Cz i=some r) (H:ah) :AC Tryz.prog 242 [.agg (az.c i)] H fun v h'=>v=.cS [.agg (az.c r.1),.d (.bool r.2)]/\h'=H:=by
 unfold Cz pF at b;refine AC.oW 15 [.cell 2 50,.tmp 3] Tryz.call242 Tryz.func242 ?_;refine af ?_;refine sL (rL rfl (by repeat (first|exact bA.nil|apply bA.cons))) rfl ?_;refine Sl ?_;refine S As (nil ?_);refine ay fun j g=>?_;refine af (S LL ?_);obtain⟨q,k,b⟩:=qT (It _) b;refine Sc rfl rfl (Iu k) ?_;refine S NB (nil ?_);refine cE b (fun m b=>?_) (fun m b=>?_)
 ·refine af (S BU ?_);refine Sf ?_;refine S As (nil ?_);exact rt b
 refine sk g ?_;clear g j;refine af (S LL ?_);obtain⟨s,o,b⟩:=qT (Ir _) b;refine Sc rfl rfl (Is o) ?_;refine Sf ?_;refine nil ?_;refine af (S FL (S LL ?_));obtain⟨t,p,b⟩:=qT rfl b;refine s0 (lJ (f:=(bp .i64)) (l:=(some (1:Int))) (r:=none) (TK rfl) rfl (TK rfl) rfl rfl rfl trivial p) rfl ?_;refine S FL ?_;refine Sf ?_;refine nil ?_;refine af (S LL ?_);refine Sf ?_
 refine S As (nil ?_);exact rt b
def mv (b:Z0) (f:aa):Option Bool:=bif ((!decide (f.an=(7:Int)))||(!b.gY)) then(some false) else((iE b.dD f.aR).bind fun g=>some (!g.2))
def CA (b:Z0) (f:aa):Option Bool:=mv b f
theorem RV (a0:Z0) (a1:aa):CA a0 a1=mv a0 a1:=rfl
theorem RW {i:Z0}{j:aa}{f:Nat}{r:Bool}(b:CA i j=some r) (H:ah) (p:H f=some (.cells (Z0.c i))):AC Tryz.prog 209 [.d (.ptr f 0),.agg (aa.c j)] H fun v h'=>v=.a (.d (.bool r))/\h'=H:=by
 unfold CA mv at b;refine AC.oW 29 [.tmp 4] Tryz.call209 Tryz.func209 ?_;refine af (S BX (S As (nil ?_)));refine ay fun l g=>?_;refine af (S Fv (S Ld (S BI (S Mv (G0 Mv ?_)))));refine G1 11 rfl NP ?_;refine gC rfl rfl (fun hC=>aG (k:=12) rfl (ct (TK rfl) rfl rfl (TK rfl) rfl rfl)) rfl ?_;refine gC rfl rfl (fun hC=>aG (k:=13) rfl (dr (TK rfl) rfl rfl aI rfl)) rfl ?_;refine G1 14 rfl NB ?_
 refine S PO (nil ?_);refine cE b (fun m b=>?_) (fun m b=>?_)
 ·refine af (S As (nil ?_));exact rt b
 refine sk g ?_;clear g l;refine ag.bY (Sd Mv (Sd NP ?_));refine au.s0 (ct (TK rfl) rfl rfl (TK rfl) rfl rfl) rfl ?_;refine au.s0 (dr (TK rfl) rfl rfl aI rfl) rfl ?_;refine Sd Fv (Sd Ld ?_);obtain⟨q,o,b⟩:=qT (xZ _ _) b;refine cq rfl rfl (x_ o) ?_;refine Sd Mv (Sd EX (Sd EX ?_));refine au.sB (TK rfl) rfl rfl ?_ (by repeat (first|exact bA.nil|apply bA.cons))
 refine au.dh (dH (TK rfl) rfl rfl rfl rfl rfl) ?_;refine Sd As ?_;refine au.nil (by decide +kernel) ?_;refine bu 5 _ rfl (KA 6 aS.nil) ?_;refine af (S Mv (S NB (S As (nil ?_))));exact rt b
def ya (f:aa) (g:Bool) (b:Z0):Z0:=(Z0.mk b.Fd f g b.gQ)
def CB (b:aa) (f:Bool) (g:Z0):Option Z0:=some (ya b f g)
theorem RX (a0:aa) (a1:Bool) (a2:Z0):CB a0 a1 a2=some (ya a0 a1 a2):=rfl
theorem RY {f:aa}{g:Bool}{b:Z0}{c2:Nat}{r:Z0}(i:CB f g b=some r) (H:ah) (j:H c2=some (.cells (Z0.c b))):mV Tryz.prog 275 [.d (.view (aa.c f)),.d (.view (qg g)),.d (.view [.ptr c2 0])] H fun v h'=>v=.cS []/\h'=(H.set c2 (some (.cells (Z0.c r)))):=by
 unfold CB ya at i;refine mV.of_wp (fn:=Tryz.f275) (c:=_) Tryz.bn (fun _ _=>Tryz.call275 _ _) Tryz.func275 rfl (n:=11) rfl (rs:=[]) rfl rfl ?_;refine ag.eS (h':=(H.set c2 (some (.cells (Z0.c b))))) (by funext n_; simp only [ah.set]; (repeat' split)<;>simp_all) ?_;refine region ?_;refine S Ld (S Ld (S Ld (S Ld (S NP ?_))));refine s0 (ct (TK rfl) rfl rfl (TK rfl) rfl rfl) rfl ?_
 refine fT (um (TK rfl) rfl rfl aI rfl (Nat.le_of_ble_eq_true rfl) rfl rfl) rfl rfl ?_;refine hq (H.set c2 (some (.cells (Z0.c (Z0.mk b.Fd f b.gY b.gQ))))) ?_;refine S NP ?_;refine s0 (ct (TK rfl) rfl rfl (TK rfl) rfl rfl) rfl ?_;refine fT (mN (TK rfl) rfl rfl aI rfl (by repeat (first|exact cD.zero|apply cD.succ))) rfl rfl ?_;refine hq (H.set c2 (some (.cells (Z0.c (Z0.mk b.Fd f g b.gQ))))) ?_
 refine nil ?_;repeat (first|refine k ?_|refine l ?_|refine m ?_)
 obtain rfl:=oJ i;refine bz.ux (H.set c2 (some (.cells (Z0.c (Z0.mk b.Fd f g b.gQ))))) (xs:=[]) rfl ⟨rfl,rfl⟩ ?_;exact(fun _ _ h=>h)
def Tryz.RZ:Go.Shelf.Ren:=⟨fun|171=>71|243=>125|246=>180|283=>218|284=>219|285=>220|286=>221|129=>250|317=>249|318=>251|319=>252|320=>253|337=>270|338=>271|n=>n,fun|3=>3|9=>9|2=>2|4=>4|171=>256|0=>0|53=>257|37=>128|5=>5|173=>260|212=>286|51=>266|20=>20|213=>287|46=>190|232=>308|233=>309|n=>n,fun|17=>4|18=>5|19=>6|n=>n⟩
theorem Tryz.R1:Go.Proofs.LaysM.n171 Tryz.prog Tryz.RZ:={
 mixed:=by kernel_rfl
 f129:=Tryz.func250.trans (congrArg some (by kernel_rfl))
 f171:=Tryz.func71.trans (congrArg some (by kernel_rfl))
 f243:=Tryz.func125.trans (congrArg some (by kernel_rfl))
 f246:=Tryz.func180.trans (congrArg some (by kernel_rfl))
 f283:=Tryz.func218.trans (congrArg some (by kernel_rfl))
 f284:=Tryz.func219.trans (congrArg some (by kernel_rfl))
 f285:=Tryz.func220.trans (congrArg some (by kernel_rfl))
 f286:=Tryz.func221.trans (congrArg some (by kernel_rfl))
 f317:=Tryz.func249.trans (congrArg some (by kernel_rfl))
 f318:=Tryz.func251.trans (congrArg some (by kernel_rfl))
 f319:=Tryz.func252.trans (congrArg some (by kernel_rfl))
 f320:=Tryz.func253.trans (congrArg some (by kernel_rfl))
 f337:=Tryz.func270.trans (congrArg some (by kernel_rfl))
 f338:=Tryz.func271.trans (congrArg some (by kernel_rfl))
 t0:=Tryz.underlying0
 a0:=Tryz.isAgg0
 z0:=Tryz.sizeOf0
 v0:=Tryz.zeroValue0
 t2:=Tryz.underlying2
 a2:=Tryz.isAgg2
 z2:=Tryz.sizeOf2
 v2:=Tryz.zeroValue2
 t3:=Tryz.underlying3
 a3:=Tryz.isAgg3
 z3:=Tryz.sizeOf3
 v3:=Tryz.zeroValue3
 t4:=Tryz.underlying4
 a4:=Tryz.isAgg4
 z4:=Tryz.sizeOf4
 v4:=Tryz.zeroValue4
 t5:=Tryz.underlying5
 a5:=Tryz.isAgg5
 z5:=Tryz.sizeOf5
 v5:=Tryz.zeroValue5
 t9:=Tryz.underlying9
 a9:=Tryz.isAgg9
 z9:=Tryz.sizeOf9
 v9:=Tryz.zeroValue9
 t20:=Tryz.underlying20
 a20:=Tryz.isAgg20
 z20:=Tryz.sizeOf20
 v20:=Tryz.zeroValue20
 t37:=Tryz.underlying128
 a37:=Tryz.isAgg128
 z37:=Tryz.sizeOf128
 v37:=Tryz.zeroValue128
 t46:=Tryz.underlying190
 a46:=Tryz.isAgg190
 z46:=Tryz.sizeOf190
 v46:=Tryz.zeroValue190
 t51:=Tryz.underlying266
 a51:=Tryz.isAgg266
 z51:=Tryz.sizeOf266
 v51:=Tryz.zeroValue266
 t53:=Tryz.underlying257
 a53:=Tryz.isAgg257
 z53:=Tryz.sizeOf257
 v53:=Tryz.zeroValue257
 t171:=Tryz.underlying256
 a171:=Tryz.isAgg256
 z171:=Tryz.sizeOf256
 v171:=Tryz.zeroValue256
 t173:=Tryz.underlying260
 a173:=Tryz.isAgg260
 z173:=Tryz.sizeOf260
 v173:=Tryz.zeroValue260
 t212:=Tryz.underlying286
 a212:=Tryz.isAgg286
 z212:=Tryz.sizeOf286
 v212:=Tryz.zeroValue286
 t213:=Tryz.underlying287
 a213:=Tryz.isAgg287
 z213:=Tryz.sizeOf287
 t232:=Tryz.underlying308
 a232:=Tryz.isAgg308
 z232:=Tryz.sizeOf308
 v232:=Tryz.zeroValue308
 t233:=Tryz.underlying309
 a233:=Tryz.isAgg309
 z233:=Tryz.sizeOf309
 v233:=Tryz.zeroValue309
 g17:=by kernel_rfl
 g18:=by kernel_rfl
 g19:=by kernel_rfl
 i0:=by kernel_rfl
 i2:=by kernel_rfl
 i3:=by kernel_rfl
 i4:=by kernel_rfl
 i5:=by kernel_rfl
 i9:=by kernel_rfl
 i20:=by kernel_rfl
 i37:=by kernel_rfl
 i46:=by kernel_rfl
 i51:=by kernel_rfl
 i53:=by kernel_rfl
 i171:=by kernel_rfl
 i173:=by kernel_rfl
 i212:=by kernel_rfl
 i232:=by kernel_rfl
 i233:=by kernel_rfl
 m17:=by kernel_rfl
 m18:=by kernel_rfl
 m19:=by kernel_rfl }
def tg (n:Int):Option Bs:=if -9223372036854775808<=n/\n<=9223372036854775807/\(Lib.itoa n).length<=eF then some (Lib.itoa n) else none
def yb (n:Int):Option Bs:=tg n
theorem R2 (n:Int):tg n=yb n:=rfl
theorem R3 {f:Int}{oT:Ab.Obj}{gT:Nat}{r:Bs}(b:tg f=some r) (H:ah) (g:H gT=some oT) (i:fP Tryz.prog oT):AC Tryz.prog 71 [.d (.int .i64 f)] H fun v h'=>v=.a (.d (.str r))/\h'=H:=by
 unfold tg at b
 split at b
 ·rename_i h
  obtain rfl:=oJ b;exact N4 Tryz.R1 h.1 h.2.1 rfl g i h.2.2
 cases b
def nR (f:Int):Option Bs:=(yb f).bind fun b=>some b
def yc (b:Int):Option Bs:=nR b
theorem R4 (a0:Int):yc a0=nR a0:=rfl
theorem IW {f:Int}{oT:Ab.Obj}{gT:Nat}{r:Bs}(b:yc f=some r) (H:ah) (i:H gT=some oT) (j:fP Tryz.prog oT):AC Tryz.prog 35 [.d (.int .i64 f)] H fun v h'=>v=.a (.d (.str r))/\h'=H:=by
 unfold yc nR at b;refine AC.oW 5 [.tmp 2] Tryz.call35 Tryz.func35 ?_;refine af (S As (nil ?_));refine af (S Mv ?_);obtain⟨k,g,b⟩:=qT (R2 _) b;refine s0 (gN rfl rfl (R3 (gT:=gT) (oT:=oT) g _ aI (by assumption))) rfl ?_;refine S As (nil ?_);exact rt b
def th (b:Bs):aa:=(aa.mk (3:Int) (0:Int) b true ([]) (Sl.nil:Sl Bs))
def CC (b:Bs):Option aa:=some (th b)
theorem R5 (a0:Bs):CC a0=some (th a0):=rfl
theorem R6 {f:Bs}{r:aa}(b:CC f=some r) (H:ah) :AC Tryz.prog 88 [.d (.str f)] H fun v h'=>v=.a (.agg (aa.c r))/\h'=H:=by
 unfold CC th at b;refine AC.oW 5 [.cell 2 58] Tryz.call88 Tryz.func88 ?_;refine af ?_;refine Sl ?_;refine nil ?_;refine af (S Mv (S BU ?_));refine Sf ?_;refine nil ?_;exact rt b
def tj  :Option Int:=some (-1:Int)
def tn (f:(Sl Z9)) (g:(Z9->Option Bool)) :Nat->Nat->Option Int
 | 0,_=>none
 | i+1,b=>bif (decide (((b:Nat):Int)<((f.l.length:Nat):Int))) then((f.l[b]?).bind fun j=>(g j).bind fun k=>bif k then(some ((b:Nat):Int)) else((tn f g i) (b+1))) else(tj   )
def vi (b:(Sl Z9)) (f:(Z9->Option Bool)):Option Int:=tn b f (b.l.length+1) 0
theorem R7 {g:Sl Z9}{k:Z9->Option Bool}{w0:Option Nat}{m:List D}{k1:Nat}{r:Int}(b:vi g k=some r) (H:ah) (u:∀o r,k o=some r->∀H,AC Tryz.prog k1 ([.agg (Z9.c o)]++m.map A.d) H fun v h'=>v=.a (.d (.bool r))/\h'=H):AC Tryz.prog 276 [.d (Sl.d 2 Z9.c w0 g),.d (.func k1 m)] H fun v h'=>v=.a (.d (.int .i64 r))/\h'=H:=by
 unfold vi at b;refine AC.oW 19 [.tmp 4] Tryz.call276 Tryz.func276 ?_;refine af (S As (nil ?_));refine aT kN (fun(z:Unit)=>[]) (fun z=>H) (fun z=>tj =some r) ?_ ?_
 ·intro G w;refine af (S Mv ?_);refine sLen (f:=Z9.c) (s:=g) (TK rfl) rfl rfl rfl rfl fun I=>?_;refine S Mv (nil ?_);refine block ?_;refine bx (TA 0 (TA 1 (TA 7 kN))) (fun(z:Nat×Nat)=>[(8,.a (.d (.int .i64 ((z.2:Nat):Int))))]) (fun z=>H) (fun z=>z.1) (fun z=>tn g k z.1 z.2=some r) ((g.l.length+1),0) b wA ?_;rintro ⟨i,p⟩ b J x;try dsimp only at b
  cases i with
  | zero=>cases b
  | succ i =>
    rw [tn] at b;refine af (S BI (nil ?_));refine ay fun y q=>?_;refine cE b (fun j b=>?_) (fun j b=>?_)
    ·try dsimp only at j
     have K:=oD j;refine sk q ?_;clear q y;refine ay fun B t=>?_;refine block ?_;refine af (S Mv (S As (nil ?_)));refine af (S Mv (S Mv (S Mv ?_)));obtain⟨L,C,b⟩:=bO b;refine S (ix Z9.c p C) (S Ld ?_);obtain⟨M,E,b⟩:=bO b;refine s0 (en rfl rfl (u _ _ E)) rfl ?_;refine nil ?_;refine cE b (fun F b=>?_) (fun F b=>?_)
     ·refine af (S Mv (S As (nil ?_)));exact rt b
     refine sk t ?_;clear t B;refine region ?_;refine SI ?_;refine S Mv (nil ?_);exact x _ (i,(p+1)) wA b (nS _)
    refine ag.exit ?_;exact w _ () wA b
 rintro _ b;try dsimp only at b
 unfold tj at b;refine af (S As (nil ?_));exact rt b
def pG (f:(Z9->Bool)):List Z9->Nat->Unit ⊕ Int
 | [],b=>Sum.inl ()
 | g::i,b=>on (g) fun j=>on (f j) fun k=>bif k then(Sum.inr ((b:Nat):Int)) else(pG f (i) (b+1) )
theorem R8 {g:Sl Z9}{k:Z9->Bool}(i:(Unit ⊕ Int)->Option Int) (m:∀(f:Nat) (b:Nat),tj   =i (Sum.inl ())) (o:∀e:Int,some e=i (Sum.inr e)):∀(f:Nat) (b:Nat),(0<f/\g.l.length<b+f)->tn g (fun p=>some (k p)) f b=i (pG k (g.l.drop b) b ):=by
 intro f;induction f with
 | zero=>intro b hn; exact absurd hn.1 (by omega)
 | succ f q =>
  intro b hn;rw [tn];by_cases aY:b<g.l.length
  ·obtain⟨r,j⟩:=Qa aY;rw [Q.jQ j,pG];refine QT aY ?_;refine Q.rT j fun s t=>?_;refine Q.rT rfl fun u v=>?_;refine Q.wO ?_ ?_
   ·all_goals exact o _
   all_goals exact q _ ⟨by omega,by omega⟩
  rw [dL (by omega),pG];refine QF aY ?_;exact m f b
def yd (g:(Sl Z9)) (i:(Z9->Bool)):Int:=on (pG i g.l 0 ) fun b=>match b with|Sum.inl _=>(on (()) fun _=>(-1:Int))|Sum.inr f=>(f)
theorem R9 (a0:(Sl Z9)) (a1:(Z9->Bool)):vi a0 (fun f=>some (a1 f))=some (yd a0 a1):=by
 unfold vi yd;refine Q.wP fun g b=>?_;refine R8  g ?_ ?_ _ _ ⟨Nat.succ_pos _,by omega⟩
 ·intro l m;refine Qe (b _) ?_;try dsimp only
  refine Q.wP fun i j=>?_;have k:tj  =i ():=by
   refine Qe (j _) ?_;unfold tj;all_goals rfl
  all_goals exact k
 intro o;refine Qe (b _) ?_;try dsimp only
 all_goals rfl
def vj (f:(Sl Z9)) (g:(Z9->Option Bool)):Option Bool:=(vi f g).bind fun b=>some (decide ((0:Int)<=b))
theorem R_ {i:Sl Z9}{j:Z9->Option Bool}{w0:Option Nat}{f:List D}{k1:Nat}{r:Bool}(b:vj i j=some r) (H:ah) (k:∀g r,j g=some r->∀H,AC Tryz.prog k1 ([.agg (Z9.c g)]++f.map A.d) H fun v h'=>v=.a (.d (.bool r))/\h'=H):AC Tryz.prog 264 [.d (Sl.d 2 Z9.c w0 i),.d (.func k1 f)] H fun v h'=>v=.a (.d (.bool r))/\h'=H:=by
 unfold vj at b;refine AC.oW 9 [.tmp 4] Tryz.call264 Tryz.func264 ?_;refine af (S As (nil ?_));refine af (S Mv (S Mv ?_));obtain⟨m,l,b⟩:=bO b;refine s0 (en rfl rfl (fun H=>R7 l H k)) rfl ?_;refine S BI (S As (nil ?_));exact rt b
def vk (f:(Sl Z9)) (g:(Z9->Bool)):Bool:=on (yd f g) fun b=>(decide ((0:Int)<=b))
theorem Sa (a0:(Sl Z9)) (a1:(Z9->Bool)):vj a0 (fun b=>some (a1 b))=some (vk a0 a1):=by
 unfold vj vk;refine Q.rT (R9 _ _) fun f g=>?_;all_goals rfl
def vl (b:Z9) (f:aa):Bool:=((b.ai==f.aR))
def ye (b:Z9) (f:aa):Option Bool:=some (vl b f)
theorem Sb (a0:Z9) (a1:aa):ye a0 a1=some (vl a0 a1):=rfl
theorem Se {f:Z9}{g:aa}{r:Bool}(b:ye f g=some r) (H:ah) :AC Tryz.prog 265 [.agg (Z9.c f),.d (.view (aa.c g))] H fun v h'=>v=.a (.d (.bool r))/\h'=H:=by
 unfold ye vl at b;refine AC.oW 9 [.tmp 3] Tryz.call265 Tryz.func265 ?_;refine af (S BX (S As (nil ?_)));refine af (S Fv (S Ld (S Fv (S Ld (S BS (S As (nil ?_)))))));exact rt b
def kI (k:Z0) (f:Bs) (b:aa):Option (aa×Int):=on (fun(m:Bool) (o:aa)=>bif (!m) then(some ((aa.mk (0:Int) (0:Int) ([]:Bs) true ([]) (Sl.nil:Sl Bs)),(23:Int))) else(some (o,(0:Int)))) fun g=>bif ((f==([73,110,116]:Bs))) then(g (((decide (b.an=(2:Int)))&&(decide ((-2147483648:Int)<=b.aV)))&&(decide (b.aV<(2147483648:Int)))) b) else(bif ((f==([83,116,114,105,110,103]:Bs))) then(g (decide (b.an=(3:Int))) b) else(bif ((f==([66,111,111,108,101,97,110]:Bs))) then(g (decide (b.an=(1:Int))) b) else(bif ((f==([73,68]:Bs))) then(Option.bind (bif (decide (b.an=(2:Int))) then((nR b.aV).bind fun p=>on (th p) fun q=>some q) else(some b)) fun j=>g (decide (j.an=(3:Int))) j) else(on (bif ((decide (b.an=(3:Int)))&&(!k.gY)) then((aa.mk (4:Int) b.aV b.aR b.av.nl b.av.l b.aF)) else(b)) fun i=>on (eL k.Fd f) fun r=>on (bif (decide (i.an=(4:Int))) then vk r.1.bI (fun s=>vl s i) else false) fun t=>bif (!((decide (i.an=(4:Int)))&&t)) then(some ((aa.mk (0:Int) (0:Int) ([]:Bs) true ([]) (Sl.nil:Sl Bs)),(23:Int))) else(some (i,(0:Int)))))))
def CD (b:Z0) (f:Bs) (g:aa):Option (aa×Int):=kI b f g
theorem Sg (a0:Z0) (a1:Bs) (a2:aa):CD a0 a1 a2=kI a0 a1 a2:=rfl
theorem Sh {x:Z0}{y:Bs}{f:aa}{oT:Ab.Obj}{m gT:Nat}{r:aa×Int}(b:CD x y f=some r) (H:ah) (ak:H m=some (.cells (Z0.c x))) (al:H gT=some oT) (am:fP Tryz.prog oT):AC Tryz.prog 245 [.d (.ptr m 0),.d (.str y),.agg (aa.c f)] H fun v h'=>v=.cS [.agg (aa.c r.1),.d (.int .i64 r.2)]/\h'=H:=by
 unfold CD kI at b;refine AC.oW 82 [.cell 6 58,.tmp 7] Tryz.call245 Tryz.func245 ?_;refine af ?_;refine sL (rL rfl (by repeat (first|exact bA.nil|apply bA.cons))) rfl ?_;refine Sl ?_;refine S As (nil ?_);refine af (S As (nil ?_));obtain⟨B,C,b⟩:=mT b;refine ag.NN (TA 5 (TA 6 kN)) (fun(z:Bool×aa)=>[(8,.a (.d (.bool z.1)))]) (fun z=>[aa.c z.2,aa.c aa.zero]) (fun z=>H) (fun z=>(B z.1 z.2)=some r) ?_ ?_
 ·intro ao i E;refine af (S Mv (nil ?_));refine block ?_;refine af (S BS (S As (nil ?_)));refine cE b (fun F b=>?_) (fun F b=>?_)
  ·refine region ?_;refine S FL (S LL (S BI (S Mv (G0 FL ?_))));refine gC rfl rfl (fun hC=>uz (k:=47) rfl (rI (TK rfl) rfl rfl rfl rfl)) rfl ?_;refine G1 48 rfl BI ?_;refine S PA (S Mv (G0 FL ?_));refine gC rfl rfl (fun hC=>uz (k:=52) rfl (rI (TK rfl) rfl rfl rfl rfl)) rfl ?_;refine G1 53 rfl BI ?_;refine S PA (S As (nil ?_));exact i _ ((((decide (f.an=(2:Int)))&&(decide ((-2147483648:Int)<=f.aV)))&&(decide (f.aV<(2147483648:Int)))),f) wA b
  refine af (S BS (S As (nil ?_)));refine cE b (fun G b=>?_) (fun G b=>?_)
  ·refine region ?_;refine S FL (S LL (S BI (S As (nil ?_))));exact i _ ((decide (f.an=(3:Int))),f) wA b
  refine af (S BS (S As (nil ?_)));refine cE b (fun I b=>?_) (fun I b=>?_)
  ·refine region ?_;refine S FL (S LL (S BI (S As (nil ?_))));exact i _ ((decide (f.an=(1:Int))),f) wA b
  refine af (S BS (S As (nil ?_)));refine cE b (fun J b=>?_) (fun J b=>?_)
  ·obtain⟨K,L,b⟩:=cB b;refine eD (TA 5 (TA 6 kN)) (fun(z:aa)=>[]) (fun z=>[aa.c z,aa.c aa.zero]) (fun z=>H) (fun z=>K z=some r) ?_ ?_
   ·intro ap p;refine af (S FL (S LL (S BI (nil ?_))));refine cO b (fun M b=>?_) (fun M b=>?_)
    ·refine region ?_;refine S FL (S LL ?_);obtain⟨aq,N,b⟩:=qO (R4 _) b;refine s0 (gN rfl rfl (IW (gT:=gT) (oT:=oT) N _ aI (by assumption))) rfl ?_;obtain⟨O,P,b⟩:=vO (R5 _) b;refine Sc rfl rfl (R6 P) ?_;refine Sf ?_;refine nil ?_;exact p _ O wA b
    refine ag.skip ?_;exact p _ f wA b
   rintro q b;try dsimp only at b
   have b:=ku L b;refine region ?_;refine S FL (S LL (S BI (S As (nil ?_))));exact i _ ((decide (q.an=(3:Int))),q) wA b
  obtain⟨Q,R,b⟩:=bW b;refine eD (TA 0 (TA 1 (TA 5 (TA 6 kN)))) (fun(z:aa)=>[]) (fun z=>[aa.c z,aa.c aa.zero]) (fun z=>H) (fun z=>Q z=some r) ?_ ?_
  ·intro au s;refine af (S FL (S LL (S BI (S Mv (G0 Mv ?_)))));refine G1 16 rfl NP ?_;refine gC rfl rfl (fun hC=>aG (k:=17) rfl (ct (TK rfl) rfl rfl (TK rfl) rfl rfl)) rfl ?_;refine gC rfl rfl (fun hC=>aG (k:=18) rfl (dr (TK rfl) rfl rfl aI rfl)) rfl ?_;refine G1 19 rfl NB ?_;refine S PA (nil ?_);refine cP b (fun U b=>?_) (fun U b=>?_)
   ·refine region ?_;refine S FL ?_;refine aQ.dc 0 (aa.cu f) rfl (fun j w cs hh g=>by rw [<- aa.fM]; exact g) ?_;refine Sf ?_;refine aQ.dc 0 (aa.c (aa.mk (4:Int) f.aV f.aR f.av.nl f.av.l f.aF)) rfl (fun j w cs hh g=>by rw [aa.fM]; exact g) ?_;refine nil ?_;exact s _ (aa.mk (4:Int) f.aV f.aR f.av.nl f.av.l f.aF) wA b
   refine ag.skip ?_;exact s _ f wA b
  rintro W b;try dsimp only at b
  have b:=ku R b;refine af (S Mv (S NP ?_));refine s0 (ct (TK rfl) rfl rfl (TK rfl) rfl rfl) rfl ?_;refine s0 (dr (TK rfl) rfl rfl aI rfl) rfl ?_;refine S Mv ?_;obtain⟨X,Y,b⟩:=vT (oO _ _) b;refine Sc rfl rfl (pq Y) ?_;refine S Mv (S EX (S EX ?_));refine Sl ?_;refine Sf ?_;refine S As (nil ?_);refine bu 9 _ rfl (KA 5 (KA 6 aS.nil)) ?_;refine ag.zQ 5 _ rfl rfl ?_
  refine region ?_;refine S Fv (S Ld (S BI (S Mv (G0 Fv ?_))));refine G1 36 rfl Ld ?_;refine gC rfl rfl (fun hC=>makeFunc rfl) rfl ?_;obtain⟨aw,Z,b⟩:=lN (o:=vj X.1.bI (fun ab=>ye ab W)) (fun _=>(by simp only [Sb,Sa])) b;refine gC rfl rfl (fun hC=>aG (k:=37) rfl (aG (k:=38) rfl (en rfl rfl (fun H=>R_ (Z hC) H (fun _ _ g=>Se g))))) rfl ?_;refine S PA (S As (nil ?_))
  refine E _ ?_;refine ay fun ad t=>?_;refine af (S Mv (S NB (nil ?_)));refine cE b (fun ae b=>?_) (fun ae b=>?_)
  ·refine af (S BU ?_);refine Sf ?_;refine S As (nil ?_);exact rt b
  refine sk t ?_;clear t ad;refine af (S Ld ?_);refine Sf ?_;refine S As (nil ?_);exact rt b
 rintro ⟨ax,az⟩ b;try dsimp only at b
 rw [C] at b;try dsimp only at b
 refine ay fun ai u=>?_;refine af (S Mv (S NB (nil ?_)));refine cE b (fun aj b=>?_) (fun aj b=>?_)
 ·refine af (S BU ?_);refine Sf ?_;refine S As (nil ?_);exact rt b
 refine sk u ?_;clear u ai;refine af (S LL ?_);refine Sf ?_;refine S As (nil ?_);exact rt b
def kJ (k:az) (m:Int) (i:Z0->az->aa->Int->Option (aa×Int×Z0)):List aa->Z0->aa->Option (((Z0×aa)) ⊕ ((aa×Int×Z0)))
 | [],g,b=>some (Sum.inl (g,b))
 | o::p,g,b=>on (o) fun q=>(bG m (1:Int)).bind fun r=>(i g k q r).bind fun f=>bif (!decide (f.2.1=(0:Int))) then(some (Sum.inr ((aa.mk (0:Int) (0:Int) ([]:Bs) true ([]) (Sl.nil:Sl Bs)),f.2.1,f.2.2))) else((aZ 80 b.av (⟨false,[f.1]⟩:Sl aa)).bind fun j=>kJ k m i (p) f.2.2 (aa.mk b.an b.aV b.aR j.nl j.l b.aF))
def kK (b:Z0) (f:ax):List Bs->Unit ⊕ ((aa×Int×Z0))
 | []=>Sum.inl ()
 | g::i=>on (g) fun j=>on (iV f.bl j) fun k=>bif (!k.2) then(Sum.inr ((aa.mk (0:Int) (0:Int) ([]:Bs) true ([]) (Sl.nil:Sl Bs)),(22:Int),b)) else(kK b f (i) )
def ek (q:ax) (x:aa) (r:Int) (s:Z0->az->aa->Int->Option (aa×Int×Z0)) (t:Z0->Z8->Int->Option (aa×Int×Z0)):List Z8->Nat->Z0->aa->Option (((Z0×aa)) ⊕ ((aa×Int×Z0)))
 | [],j,f,b=>some (Sum.inl (f,b))
 | y::z,j,f,b=>on (y) fun g=>on ((⟨q.bl.nl,q.bl.l.take j⟩:Sl Z8)) fun B=>on (iV B g.ai) fun C=>on (fun(E:Z0) (F:aa)=>ek q x r s t (z) (j+1) E F) fun k=>bif C.2 then(k f b) else((iE x g.ai).bind fun i=>aN (i.2) (mv f i.1) false fun G=>on (fun(u:Int) (v:Z0) (H:aa)=>bif (!decide (u=(0:Int))) then(some (Sum.inr ((aa.mk (0:Int) (0:Int) ([]:Bs) true ([]) (Sl.nil:Sl Bs)),u,v))) else((aZ 16 b.aF (⟨false,[g.ai]⟩:Sl Bs)).bind fun I=>(aZ 80 b.av (⟨false,[H]⟩:Sl aa)).bind fun w=>k v (aa.mk b.an b.aV b.aR w.nl w.l I))) fun m=>bif (i.2&&(!G)) then((bG r (1:Int)).bind fun J=>(s f g.aJ i.1 J).bind fun o=>m o.2.1 o.2.2 o.1) else(bif g.c_ then((bG r (1:Int)).bind fun K=>(t f g K).bind fun p=>m p.2.1 p.2.2 p.1) else(on (gq g.aJ) fun L=>bif L then(m (22:Int) f aa.zero) else(k f b))))
mutual
def dO:Nat->Z0->az->aa->Int->Option (aa×Int×Z0)
 | 0,_,_,_,_=>none
 | n+1,f,g,q,m=>on (jE f.Fd g.ai) fun u=>bif (!u) then(some ((aa.mk (0:Int) (0:Int) ([]:Bs) true ([]) (Sl.nil:Sl Bs)),(10:Int),f)) else(on (fun(v:Z0) (i:aa)=>(kH v m).bind fun b=>bif (!decide (b.1=(0:Int))) then(some ((aa.mk (0:Int) (0:Int) ([]:Bs) true ([]) (Sl.nil:Sl Bs)),b.1,b.2)) else(bif (decide (i.an=(0:Int))) then(on (gq g) fun w=>bif w then(some ((aa.mk (0:Int) (0:Int) ([]:Bs) true ([]) (Sl.nil:Sl Bs)),(23:Int),b.2)) else(some ((aa.mk (0:Int) (0:Int) ([]:Bs) true ([]) (Sl.nil:Sl Bs)),(0:Int),b.2))) else((pF g).bind fun r=>bif r.2 then(((lD n) b.2 r.1 i m).bind fun o=>some (o.1,o.2.1,o.2.2)) else(on (eL b.2.Fd g.ai) fun j=>on (bif j.2 then gJ g.ai else false) fun x=>bif ((j.2&&(!x))&&(decide (j.1.an=(5:Int)))) then(((lE n) b.2 j.1 i m).bind fun p=>some (p.1,p.2.1,p.2.2)) else((kI b.2 g.ai i).bind fun s=>some (s.1,s.2,b.2)))))) fun t=>bif ((decide (q.an=(7:Int)))&&f.gY) then((iE f.dD q.aR).bind fun k=>bif (!decide (k.1.an=(0:Int))) then((tf f k.1 m).bind fun l=>bif (!decide (l.1=(0:Int))) then(some ((aa.mk (0:Int) (0:Int) ([]:Bs) true ([]) (Sl.nil:Sl Bs)),l.1,l.2)) else(some (k.1,(0:Int),l.2))) else(t f k.1)) else(t f q))
def lD:Nat->Z0->az->aa->Int->Option (aa×Int×Z0)
 | 0,_,_,_,_=>none
 | n+1,m,o,b,p=>on (bif (!decide (b.an=(5:Int))) then((⟨false,[b]⟩:Sl aa)) else(b.av)) fun i=>Option.bind (kJ o p (dO n) i.l m (aa.mk (5:Int) (0:Int) ([]:Bs) true ([]) (Sl.nil:Sl Bs))) fun j=>match j with|Sum.inl f=>(on ((f.1,f.2)) fun g=>some (g.2,(0:Int),g.1))|Sum.inr k=>(some k)
def lE:Nat->Z0->ax->aa->Int->Option (aa×Int×Z0)
 | 0,_,_,_,_=>none
 | n+1,b,f,g,q=>bif (!decide (g.an=(6:Int))) then(some ((aa.mk (0:Int) (0:Int) ([]:Bs) true ([]) (Sl.nil:Sl Bs)),(23:Int),b)) else(on (kK b f g.aF.l ) fun k=>match k with|Sum.inl _=>(on (()) fun _=>Option.bind (ek f g q (dO n) (fm n) f.bl.l 0 b (aa.mk (6:Int) (0:Int) ([]:Bs) true ([]) (Sl.nil:Sl Bs))) fun m=>match m with|Sum.inl i=>(on ((i.1,i.2)) fun j=>some (j.2,(0:Int),j.1))|Sum.inr o=>(some o))|Sum.inr p=>(some p))
def fm:Nat->Z0->Z8->Int->Option (aa×Int×Z0)
 | 0,_,_,_=>none
 | n+1,b,g,j=>((dO n) (Z0.mk b.Fd (aa.mk (0:Int) (0:Int) ([]:Bs) true ([]) (Sl.nil:Sl Bs)) true b.gQ) g.aJ g.dy j).bind fun f=>on (ya b.dD b.gY f.2.2) fun i=>some (f.1,f.2.1,i)
end
def tq (n:Nat):Prop:=∀{a0:Z0}{a1:az}{a2:aa}{a3:Int}{oT:Ab.Obj}{b:Nat}{gT:Nat}{r:(aa×Int×Z0)},dO n a0 a1 a2 a3=some r->∀(H:ah) (f:H b=some (.cells (Z0.c a0))) (g:H gT=some oT) (i:fP Tryz.prog oT),AC Tryz.prog 213 [.d (.ptr b 0),.agg (az.c a1),.agg (aa.c a2),.d (.int .i64 a3)] H fun v h'=>v=.cS [.agg (aa.c r.1),.d (.int .i64 r.2.1)]/\h'=(H.set b (some (.cells (Z0.c r.2.2))))
def tr (n:Nat):Prop:=∀{a0:Z0}{a1:az}{a2:aa}{a3:Int}{oT:Ab.Obj}{b:Nat}{gT:Nat}{r:(aa×Int×Z0)},lD n a0 a1 a2 a3=some r->∀(H:ah) (f:H b=some (.cells (Z0.c a0))) (g:H gT=some oT) (i:fP Tryz.prog oT),AC Tryz.prog 243 [.d (.ptr b 0),.agg (az.c a1),.agg (aa.c a2),.d (.int .i64 a3)] H fun v h'=>v=.cS [.agg (aa.c r.1),.d (.int .i64 r.2.1)]/\h'=(H.set b (some (.cells (Z0.c r.2.2))))
def tt (n:Nat):Prop:=∀{a0:Z0}{a1:ax}{a2:aa}{a3:Int}{oT:Ab.Obj}{b:Nat}{gT:Nat}{r:(aa×Int×Z0)},lE n a0 a1 a2 a3=some r->∀(H:ah) (f:H b=some (.cells (Z0.c a0))) (g:H gT=some oT) (i:fP Tryz.prog oT),AC Tryz.prog 244 [.d (.ptr b 0),.agg (ax.c a1),.agg (aa.c a2),.d (.int .i64 a3)] H fun v h'=>v=.cS [.agg (aa.c r.1),.d (.int .i64 r.2.1)]/\h'=(H.set b (some (.cells (Z0.c r.2.2))))
def tu (n:Nat):Prop:=∀{a0:Z0}{a1:Z8}{a2:Int}{oT:Ab.Obj}{b:Nat}{gT:Nat}{r:(aa×Int×Z0)},fm n a0 a1 a2=some r->∀(H:ah) (f:H b=some (.cells (Z0.c a0))) (g:H gT=some oT) (i:fP Tryz.prog oT),AC Tryz.prog 263 [.d (.ptr b 0),.agg (Z8.c a1),.d (.int .i64 a2)] H fun v h'=>v=.cS [.agg (aa.c r.1),.d (.int .i64 r.2.1)]/\h'=(H.set b (some (.cells (Z0.c r.2.2))))
theorem Si (n:Nat) (ax:tq (ak:=ak) n) (t:tr (ak:=ak) n) (u:tt (ak:=ak) n) (az:tu (ak:=ak) n):tq (ak:=ak) (n+1):=by
 intro g aQ aw aR oT f gT r b H aA aB v;rw [dO] at b;refine AC.oW 119 [.cell 8 58,.tmp 9] Tryz.call213 Tryz.func213 ?_;have aC:gT≠f:=fun w=>by subst w; obtain⟨_,_,_,aD,_⟩:=v; simp_all
 refine ag.eS (h':=(H.set f (some (.cells (Z0.c g))))) (by funext n_; simp only [ah.set]; (repeat' split)<;>simp_all) ?_;refine af (S BX ?_);refine sL (rL rfl (by repeat (first|exact bA.nil|apply bA.cons))) rfl ?_;refine Sl ?_;refine S As (nil ?_);refine ay fun x i=>?_;refine ag.bY (Sd Mv (Sd NP ?_));refine au.s0 (ct (TK rfl) rfl rfl (TK rfl) rfl rfl) rfl ?_;refine au.s0 (dr (TK rfl) rfl rfl aI rfl) rfl ?_
 refine Sd Fv (Sd Ld ?_);obtain⟨aE,y,b⟩:=vT (RO _ _) b;refine cq rfl rfl (RP y) ?_;refine Sd NB ?_;refine au.nil (by decide +kernel) ?_;refine cE b (fun B b=>?_) (fun B b=>?_)
 ·refine af (S BU ?_);refine Sf ?_;refine S As (nil ?_);exact rt b
 refine sk i ?_;clear i x;obtain⟨C,E,b⟩:=mT b;refine eD (TA 0 (TA 3 (TA 5 (TA 6 (TA 8 kN))))) (fun(z:Z0×aa×aa)=>[]) (fun z=>[aa.c z.2.1,aa.c z.2.2]) (fun z=>(H.set f (some (.cells (Z0.c z.1))))) (fun z=>(C z.1 z.2.1)=some r) ?_ ?_
 ·intro aF j;refine af (S FL (S LL (S BI (S Mv (G0 Mv ?_)))));refine G1 29 rfl NP ?_;refine gC rfl rfl (fun hC=>aG (k:=30) rfl (ct (TK rfl) rfl rfl (TK rfl) rfl rfl)) rfl ?_;refine gC rfl rfl (fun hC=>aG (k:=31) rfl (dr (TK rfl) rfl rfl aI rfl)) rfl ?_;refine S PA (nil ?_);refine cE b (fun F b=>?_) (fun F b=>?_)
  ·refine ag.bY (Sd Mv (Sd NP ?_));refine au.s0 (ct (TK rfl) rfl rfl (TK rfl) rfl rfl) rfl ?_;refine au.s0 (dr (TK rfl) rfl rfl aI rfl) rfl ?_;refine Sd FL (Sd LL ?_);obtain⟨G,I,b⟩:=qT (xZ _ _) b;refine cq rfl rfl (x_ I) ?_;refine Sd Mv (Sd EX (Sd EX ?_));refine au.dh (dH (TK rfl) rfl rfl rfl rfl rfl) ?_;refine au.nil (by decide +kernel) ?_;refine af (S FL (S LL (S BI (nil ?_))))
   refine cE b (fun J b=>?_) (fun J b=>?_)
   ·refine af (S Mv (S LL (S Mv ?_)));obtain⟨K,L,b⟩:=qT (RS _ _ _) b;refine sH (de rfl rfl (RR L _ aI)) rfl ?_;refine hq (H.set f (some (.cells (Z0.c K.2)))) ?_;refine S As (nil ?_);refine ay fun M l=>?_;refine af (S Mv (S BI (nil ?_)));refine cE b (fun N b=>?_) (fun N b=>?_)
    ·refine af (S BU (S Mv ?_));refine Sf ?_;refine S As (nil ?_);exact rt b
    refine sk l ?_;clear l M;refine af (S LL ?_);refine Sf ?_;refine S As (nil ?_);exact rt b
   refine ag.skip ?_;exact j _ (g,G.1,aa.zero) wA b
  refine ag.skip ?_;exact j _ (g,aw,aa.zero) wA b
 rintro ⟨aH,aJ,aK⟩ b;try dsimp only at b
 rw [E] at b;try dsimp only at b
 refine ay fun O m=>?_;refine af (S Mv (S Mv ?_));obtain⟨P,Q,b⟩:=qT (IS _ _) b;refine sH (de rfl rfl (IT Q _ aI)) rfl ?_;refine hq (H.set f (some (.cells (Z0.c P.2)))) ?_;refine S As (nil ?_);refine af (S Mv (S BI (nil ?_)));refine cE b (fun R b=>?_) (fun R b=>?_)
 ·refine af (S BU (S Mv ?_));refine Sf ?_;refine S As (nil ?_);exact rt b
 refine sk m ?_;clear m O;refine ay fun U o=>?_;refine af (S FL (S LL (S BI (nil ?_))));refine cE b (fun W b=>?_) (fun W b=>?_)
 ·refine ay fun X p=>?_;refine af (S Ld ?_);obtain⟨aL,Y,b⟩:=vT (u_ _) b;refine Sc rfl rfl (vb Y) ?_;refine nil ?_;refine cE b (fun Z b=>?_) (fun Z b=>?_)
  ·refine af (S BU ?_);refine Sf ?_;refine S As (nil ?_);exact rt b
  refine sk p ?_;clear p X;refine af (S BU ?_);refine Sf ?_;refine S As (nil ?_);exact rt b
 refine sk o ?_;clear o U;refine ay fun ab q=>?_;refine af (S Ld ?_);obtain⟨aM,ad,b⟩:=qT (RT _) b;refine Sc rfl rfl (RU ad) ?_;refine S Mv (S EX (S EX ?_));refine Sl ?_;refine Sf ?_;refine S As (nil ?_);refine bu 12 _ rfl (KA 0 (KA 3 (KA 5 (KA 6 (KA 8 (KA 13 aS.nil)))))) ?_;refine af (S Mv (nil ?_));refine cE b (fun ae b=>?_) (fun ae b=>?_)
 ·refine af (S Mv (S Ld (S LL (S Mv ?_))));obtain⟨ai,aj,b⟩:=qT rfl b;refine sH (de rfl rfl (t (gT:=gT) (oT:=oT) aj _ aI aI (by assumption))) rfl ?_;refine hq (H.set f (some (.cells (Z0.c ai.2.2)))) ?_;refine S EX (S EX ?_);refine Sf ?_;refine S As (nil ?_);exact rt b
 refine sk q ?_;clear q ab;refine ay fun al s=>?_;refine ag.bY (Sd Mv (Sd NP ?_));refine au.s0 (ct (TK rfl) rfl rfl (TK rfl) rfl rfl) rfl ?_;refine au.s0 (dr (TK rfl) rfl rfl aI rfl) rfl ?_;refine Sd Fv (Sd Ld ?_);obtain⟨aN,am,b⟩:=vT (oO _ _) b;refine cq rfl rfl (pq am) ?_;refine Sd Mv (Sd EX (Sd EX ?_));refine au.sB (TK rfl) rfl rfl ?_ (by repeat (first|exact bA.nil|apply bA.cons))
 refine au.dh (dH (TK rfl) rfl rfl rfl rfl rfl) ?_;refine Sd As ?_;refine au.nil (by decide +kernel) ?_;refine bu 14 _ rfl (KA 0 (KA 3 (KA 5 (KA 6 (KA 8 (KA 15 aS.nil)))))) ?_;refine af (S Mv (S Mv (G0 Fv ?_)));refine G1 95 rfl Ld ?_;obtain⟨aO,an,b⟩:=lN (fun _=>(IL _)) b;refine dA 96 rfl rfl rfl rfl rfl (fun hC=>IM (an hC)) ?_;refine G1 97 rfl NB ?_;refine S PA (S Mv (G0 Fv ?_))
 refine G1 101 rfl Ld ?_;refine G1 102 rfl BI ?_;refine S PA (nil ?_);refine cE b (fun ao b=>?_) (fun ao b=>?_)
 ·refine af (S Mv (S Ld (S LL (S Mv ?_))));obtain⟨ap,aq,b⟩:=qT rfl b;refine sH (de rfl rfl (u (gT:=gT) (oT:=oT) aq _ aI aI (by assumption))) rfl ?_;refine hq (H.set f (some (.cells (Z0.c ap.2.2)))) ?_;refine S EX (S EX ?_);refine Sf ?_;refine S As (nil ?_);exact rt b
 refine sk s ?_;clear s al;refine af (S Mv (S Fv (S Ld (S LL ?_))));obtain⟨aP,av,b⟩:=qT (Sg _ _ _) b;refine s0 (gN rfl rfl (Sh (gT:=gT) (oT:=oT) av _ aI aI (by assumption))) rfl ?_;refine S EX (S EX ?_);refine Sf ?_;refine S As (nil ?_);exact rt b
theorem Sj (n:Nat) (X:tq (ak:=ak) n) (aG:tr (ak:=ak) n) (aH:tt (ak:=ak) n) (aJ:tu (ak:=ak) n):tr (ak:=ak) (n+1):=by
 intro C R U W oT i gT r b H aK aL Y;rw [lD] at b;refine AC.oW 51 [.cell 8 58,.tmp 9] Tryz.call243 Tryz.func243 ?_;have aM:gT≠i:=fun k=>by subst k; obtain⟨_,_,_,aN,_⟩:=Y; simp_all
 refine ag.eS (h':=(H.set i (some (.cells (Z0.c C))))) (by funext n_; simp only [ah.set]; (repeat' split)<;>simp_all) ?_;refine af (S BX (S BX ?_));refine Sl ?_;refine S As (nil ?_);refine af (S Fv ?_);refine s0 (bS (TK rfl) rfl rfl (congrArg (fun x=>some (A.d x)) (aa.dm _))) rfl ?_;refine S As (nil ?_);obtain⟨Z,ab,b⟩:=bW b;refine aT (TA 0 (TA 3 (TA 5 (TA 8 kN)))) (fun(z:(Sl aa))=>[(10,.a (.d (Sl.d 5 aa.c none z)))]) (fun z=>(H.set i (some (.cells (Z0.c C))))) (fun z=>Z z=some r) ?_ ?_
 ·intro aO E;refine af (S Fv (S Ld (S BI (nil ?_))));refine cP b (fun ad b=>?_) (fun ad b=>?_)
  ·refine region ?_;refine S Ld (S BV (S As (nil ?_)));exact E _ (⟨false,[U]⟩:Sl aa) wA b
  refine ag.skip ?_;exact E _ U.av wA b
 rintro u b;try dsimp only at b
 have b:=ku ab b;refine af (S BU ?_);refine Sl ?_;refine aQ.tok 5 fun g F=>?_;obtain⟨aU,F⟩:=ah.gB F;have aW:g≠gT:=fun k=>by subst k; simp_all
 refine aQ.dc 1 _ rfl (fun j w cs hh m=>tok_cell 3 5 5 hh (t:=g) aI m rfl) ?_;refine Sf ?_;refine aQ.dc 1 _ rfl (fun j w cs hh m=>tok_cell 3 5 5 hh (t:=g) aI m rfl) ?_;refine nil ?_;refine eD (TA 8 (TA 11 kN)) (fun(z:Z0×aa×aa)=>[]) (fun z=>[aa.c z.2.1,((bp .i64) z.2.2.an++(bp .i64) z.2.2.aV++aP z.2.2.aR++[Sl.d 5 aa.c (some g) z.2.2.av]++(fun s=>[Sl.d 1 aP none s]) z.2.2.aF)]) (fun z=>((H.set i (some (.cells (Z0.c z.1)))).set g (some (.tok 5 z.2.2.av.l.length)))) (fun z=>(some (z.2.2,(0:Int),z.1))=some r) ?_ ?_
 ·intro aX ae;refine af (S Mv ?_);refine sLen (f:=aa.c) (s:=u) (TK rfl) rfl rfl rfl rfl fun aY=>?_;refine S Mv (nil ?_);refine block ?_;obtain⟨G,I,b⟩:=cB b;refine gW (TA 0 (TA 3 (TA 5 (TA 8 (TA 11 (TA 24 (TA 25 kN))))))) (fun(z:Nat×Z0×aa×aa)=>[(26,.a (.d (.int .i64 ((z.1:Nat):Int))))]) (fun z=>[aa.c z.2.2.1,((bp .i64) z.2.2.2.an++(bp .i64) z.2.2.2.aV++aP z.2.2.2.aR++[Sl.d 5 aa.c (some g) z.2.2.2.av]++(fun s=>[Sl.d 1 aP none s]) z.2.2.2.aF)]) (fun z=>((H.set i (some (.cells (Z0.c z.2.1)))).set g (some (.tok 5 z.2.2.2.av.l.length)))) (fun z=>u.l.length-z.1) (fun z=>Option.bind (kJ R W (dO n) (u.l.drop z.1) z.2.1 z.2.2.2) G=some r) (0,C,aa.zero,(aa.mk (5:Int) (0:Int) ([]:Bs) true ([]) (Sl.nil:Sl Bs))) b wA ?_
  rintro ⟨J,K,L,o⟩ b aZ ai;try dsimp only at b
  refine af (S BI (nil ?_));refine ay fun aj M=>?_;refine ag.cA (fun l=>Option.bind (kJ R W (dO n) l K o) G=some r) b rfl (fun a0 N v b=>?_) (fun v b=>?_)
  ·rw [kJ] at b;try dsimp only at v
   have a1:=oD v;refine sk M ?_;clear M aj;refine ay fun al O=>?_;refine block ?_;refine af ?_;obtain⟨a2,ao,b⟩:=vO N b;refine S (ix aa.c J ao) (S Ld ?_);refine Sl ?_;refine Sf ?_;refine nil ?_;refine bu 13 _ rfl (KA 0 (KA 3 (KA 5 (KA 8 (KA 11 (KA 24 (KA 25 (KA 26 aS.nil)))))))) ?_;refine af (S Mv (S Ld (S Ld (S Mv ?_))));obtain⟨a3,ap,b⟩:=qO rfl b
   refine s0 (cI rfl rfl ap) rfl ?_;obtain⟨q,aq,b⟩:=qO rfl b;refine sH (de rfl rfl (X (gT:=gT) (oT:=oT) aq _ aI aI (by assumption))) rfl ?_;refine hq ((H.set i (some (.cells (Z0.c q.2.2)))).set g (some (.tok 5 o.av.l.length))) ?_;refine S Mv (S EX (S EX ?_));refine Sl ?_;refine Sf ?_;refine S As (nil ?_);refine bu 14 _ rfl (KA 0 (KA 3 (KA 5 (KA 8 (KA 11 (KA 15 (KA 24 (KA 25 (KA 26 aS.nil))))))))) ?_
   refine ay fun au P=>?_;refine af (S Mv (S BI (nil ?_)));refine cO b (fun aw b=>?_) (fun aw b=>?_)
   ·refine af (S BU (S Mv ?_));refine Sf ?_;refine S As (nil ?_);refine ag.ret ?_;repeat (first|refine bK ?_|refine bL ?_)
    have b:=ku I b;obtain rfl:=oJ b;refine bz.bJ (H.set i (some (.cells (Z0.c q.2.2)))) rfl ⟨rfl,rfl⟩ ?_;intro y ax p;have az:y≠g:=fun k=>by subst k; simp_all [ah.set]
    rw [<- p];simp only [ah.set] at p ⊢
    (repeat' split)<;>simp_all
   refine sk P ?_;clear P au;refine region ?_;refine S FL (S LL (S Ld (S BV ?_)));obtain⟨B,aA,b⟩:=qO rfl b;refine SH (am aa.c (TK rfl) rfl (TK rfl) (TK rfl) aA) ?_;refine hq ((H.set i (some (.cells (Z0.c q.2.2)))).set g (some (.tok 5 B.l.length))) ?_;refine S FL ?_;refine Sf ?_;refine nil ?_;refine O _ ?_;clear O al;refine region ?_;refine SI ?_;refine S Mv (nil ?_)
   exact ai _ ((J+1),q.2.2,L,(aa.mk o.an o.aV o.aR B.nl B.l o.aF)) wA b (dl N)
  rw [kJ] at b;have b:=ku I b;try dsimp only at b
  refine ag.exit ?_;obtain⟨a4,aB,b⟩:=bW b;have b:=ku aB b;exact ae _ (K,L,o) wA b
 rintro ⟨aC,a5,aD⟩ b;try dsimp only at b
 refine ay fun aE Q=>?_;refine ag.dc 1 _ rfl (fun j w cs hh m=>mU 3 m rfl) ?_;refine ag.dc 1 (aa.c aD) rfl (fun j w cs hh m=>by rw [aa.fM]; exact m) ?_;refine region ?_;refine S LL ?_;refine Sf ?_;refine S As (nil ?_);refine Q _ ?_;clear Q aE;refine ag.ret ?_;repeat (first|refine bK ?_|refine bL ?_)
 obtain rfl:=oJ b;refine bz.bJ (H.set i (some (.cells (Z0.c aC)))) rfl ⟨rfl,rfl⟩ ?_;intro y ax p;have az:y≠g:=fun k=>by subst k; simp_all [ah.set]
 rw [<- p];simp only [ah.set] at p ⊢
 (repeat' split)<;>simp_all
theorem Sk (n:Nat) (aC:tq (ak:=ak) n) (bC:tr (ak:=ak) n) (bD:tt (ak:=ak) n) (aD:tu (ak:=ak) n):tt (ak:=ak) (n+1):=by
 intro x u y J oT o gT r b H bE bF aE;rw [lE] at b;refine AC.oW 124 [.cell 8 58,.tmp 9] Tryz.call244 Tryz.func244 ?_;have bG:gT≠o:=fun p=>by subst p; obtain⟨_,_,_,bH,_⟩:=aE; simp_all
 refine ag.eS (h':=(H.set o (some (.cells (Z0.c x))))) (by funext n_; simp only [ah.set]; (repeat' split)<;>simp_all) ?_;refine af (S BX (S BX ?_));refine Sl ?_;refine S As (nil ?_);refine ay fun aH X=>?_;refine af (S Fv (S Ld (S BI (nil ?_))));refine cE b (fun aJ b=>?_) (fun aJ b=>?_)
 ·refine af (S BU ?_);refine Sf ?_;refine S As (nil ?_);exact rt b
 refine sk X ?_;clear X aH;refine eD (TA 0 (TA 3 (TA 5 (TA 6 (TA 8 kN))))) (fun(z:aa)=>[]) (fun z=>[aa.c z]) (fun z=>(H.set o (some (.cells (Z0.c x))))) (fun z=>(Option.bind (ek u y J (dO n) (fm n) u.bl.l 0 x (aa.mk (6:Int) (0:Int) ([]:Bs) true ([]) (Sl.nil:Sl Bs))) fun aK=>match aK with|Sum.inl Y=>(on ((Y.1,Y.2)) fun Z=>some (Z.2,(0:Int),Z.1))|Sum.inr aL=>(some aL))=some r) ?_ ?_
 ·intro bI aM;refine af (S Fv (S Ld ?_));refine sLen (f:=aP) (s:=y.aF) (TK rfl) rfl rfl rfl rfl fun bM=>?_;refine S Mv (nil ?_);refine block ?_;obtain⟨ab,ad,b⟩:=bW b;refine gW (TA 0 (TA 3 (TA 5 (TA 6 (TA 8 (TA 28 (TA 29 kN))))))) (fun(z:Nat×aa)=>[(30,.a (.d (.int .i64 ((z.1:Nat):Int))))]) (fun z=>[aa.c z.2]) (fun z=>(H.set o (some (.cells (Z0.c x))))) (fun z=>y.aF.l.length-z.1) (fun z=>ab (kK x u (y.aF.l.drop z.1) )=some r) (0,aa.zero) b wA ?_
  rintro ⟨ae,aj⟩ b bN aN;try dsimp only at b
  refine af (S BI (nil ?_));refine ay fun aO al=>?_;refine ag.cA (fun l=>ab (kK x u l )=some r) b rfl (fun bO am P b=>?_) (fun P b=>?_)
  ·rw [kK] at b;try dsimp only at P
   have bQ:=oD P;refine sk al ?_;clear al aO;refine ay fun aT ao=>?_;refine block ?_;refine af ?_;obtain⟨bR,aU,b⟩:=vP am b;refine S (ix aP ae aU) (S Ld (S As (nil ?_)));refine af (S Fv (S Ld (S Mv ?_)));obtain⟨bT,aW,b⟩:=vP (Cm _ _) b;refine Sc rfl rfl (Cn aW) ?_;refine S Mv (S EX (S EX ?_));refine Sl ?_;refine Sf ?_;refine S As (nil ?_)
   refine bu 12 _ rfl (KA 0 (KA 3 (KA 5 (KA 6 (KA 8 (KA 13 (KA 28 (KA 29 (KA 30 aS.nil))))))))) ?_;refine af (S Mv (S NB (nil ?_)));refine cP b (fun aX b=>?_) (fun aX b=>?_)
   ·refine af (S BU ?_);refine Sf ?_;refine S As (nil ?_);refine ag.ret ?_;repeat (first|refine bK ?_|refine bL ?_)
    have b:=ku ad b;obtain rfl:=oJ b;refine bz.bJ (H.set o (some (.cells (Z0.c x)))) rfl ⟨rfl,rfl⟩ ?_;exact(fun _ _ h=>h)
   refine sk ao ?_;clear ao aT;refine region ?_;refine SI ?_;refine S Mv (nil ?_);exact aN _ ((ae+1),aj) wA b (dl am)
  rw [kK] at b;have b:=ku ad b;try dsimp only at b
  refine ag.exit ?_;obtain⟨bU,aY,b⟩:=bW b;have b:=ku aY b;exact aM _ aj wA b
 rintro a0 b;try dsimp only at b
 refine af (S BU ?_);refine Sl ?_;refine aQ.tok 5 fun i ap=>?_;obtain⟨bV,ap⟩:=ah.gB ap;have bZ:i≠gT:=fun p=>by subst p; simp_all
 refine aQ.dc 1 _ rfl (fun j w cs hh q=>tok_cell 3 5 5 hh (t:=i) aI q rfl) ?_;refine aQ.tok 1 fun m K=>?_;obtain⟨b0,K⟩:=ah.gB K;obtain⟨b1,K⟩:=ah.gB K;have b2:m≠gT:=fun p=>by subst p; simp_all
 refine aQ.dc 1 _ rfl (fun j w cs hh q=>tok_cell 4 1 1 hh (t:=m) aI q rfl) ?_;refine Sf ?_;refine aQ.dc 1 _ rfl (fun j w cs hh q=>tok_cell 3 5 5 hh (t:=i) aI q rfl) ?_;refine aQ.dc 1 _ rfl (fun j w cs hh q=>tok_cell 4 1 1 hh (t:=m) aI q rfl) ?_;refine nil ?_;refine eD (TA 8 (TA 14 kN)) (fun(z:Z0×aa×aa)=>[]) (fun z=>[aa.c z.2.1,((bp .i64) z.2.2.an++(bp .i64) z.2.2.aV++aP z.2.2.aR++[Sl.d 5 aa.c (some i) z.2.2.av]++[Sl.d 1 aP (some m) z.2.2.aF])]) (fun z=>(((H.set o (some (.cells (Z0.c z.1)))).set i (some (.tok 5 z.2.2.av.l.length))).set m (some (.tok 1 z.2.2.aF.l.length)))) (fun z=>(some (z.2.2,(0:Int),z.1))=some r) ?_ ?_
 ·intro b3 a1;refine af (S Fv (S Ld ?_));refine sLen (f:=Z8.c) (s:=u.bl) (TK rfl) rfl rfl rfl rfl fun b4=>?_;refine S Mv (nil ?_);refine block ?_;obtain⟨L,aq,b⟩:=cB b;refine gW (TA 0 (TA 3 (TA 5 (TA 6 (TA 8 (TA 14 (TA 47 (TA 48 kN)))))))) (fun(z:Nat×Z0×aa×aa)=>[(49,.a (.d (.int .i64 ((z.1:Nat):Int))))]) (fun z=>[aa.c z.2.2.1,((bp .i64) z.2.2.2.an++(bp .i64) z.2.2.2.aV++aP z.2.2.2.aR++[Sl.d 5 aa.c (some i) z.2.2.2.av]++[Sl.d 1 aP (some m) z.2.2.2.aF])]) (fun z=>(((H.set o (some (.cells (Z0.c z.2.1)))).set i (some (.tok 5 z.2.2.2.av.l.length))).set m (some (.tok 1 z.2.2.2.aF.l.length)))) (fun z=>u.bl.l.length-z.1) (fun z=>Option.bind (ek u y J (dO n) (fm n) (u.bl.l.drop z.1) z.1 z.2.1 z.2.2.2) L=some r) (0,x,a0,(aa.mk (6:Int) (0:Int) ([]:Bs) true ([]) (Sl.nil:Sl Bs))) b wA ?_
  rintro ⟨v,C,E,g⟩ b b5 a2;try dsimp only at b
  refine af (S BI (nil ?_));refine ay fun a3 aw=>?_;refine ag.cA (fun l=>Option.bind (ek u y J (dO n) (fm n) l v C g) L=some r) b rfl (fun b6 ax R b=>?_) (fun R b=>?_)
  ·rw [ek] at b;try dsimp only at R
   have b7:=oD R;refine sk aw ?_;clear aw a3;refine eD (TA 0 (TA 3 (TA 5 (TA 6 (TA 8 (TA 14 (TA 47 (TA 48 (TA 49 kN))))))))) (fun(z:Z0×aa×aa)=>[]) (fun z=>[aa.c z.2.1,((bp .i64) z.2.2.an++(bp .i64) z.2.2.aV++aP z.2.2.aR++[Sl.d 5 aa.c (some i) z.2.2.av]++[Sl.d 1 aP (some m) z.2.2.aF])]) (fun z=>(((H.set o (some (.cells (Z0.c z.1)))).set i (some (.tok 5 z.2.2.av.l.length))).set m (some (.tok 1 z.2.2.aF.l.length)))) (fun z=>Option.bind (ek u y J (dO n) (fm n) (u.bl.l.drop (v+1)) (v+1) z.1 z.2.2) L=some r) ?_ ?_
   ·intro b8 U;refine block ?_;refine af (S Mv ?_);obtain⟨a4,a5,b⟩:=vO ax b;refine S (ix Z8.c v a5) (S Ld ?_);refine Sl ?_;refine S As ?_;refine Sf ?_;refine nil ?_;refine bu 16 _ rfl (KA 0 (KA 3 (KA 5 (KA 6 (KA 8 (KA 14 (KA 15 (KA 47 (KA 48 (KA 49 aS.nil)))))))))) ?_;refine ay fun a6 az=>?_;refine ag.bY (Sd Fv (Sd Ld (Sd Mv ?_)));obtain⟨b9,a7,b⟩:=vO (Q.qq (by omega)) b
    refine au.s0 (lJ (f:=Z8.c) (l:=none) (r:=(some ((v:Nat):Int))) (TK rfl) rfl (TK rfl) rfl rfl trivial rfl a7) rfl ?_;refine Sd Fv (Sd Ld ?_);obtain⟨b_,a8,b⟩:=vO (Cm _ _) b;refine cq rfl rfl (Cn a8) ?_;refine Sd Mv (Sd EX (Sd EX ?_));refine au.sB (TK rfl) rfl rfl ?_ (by repeat (first|exact bA.nil|apply bA.cons));refine au.dh (dH (TK rfl) rfl rfl rfl rfl rfl) ?_
    refine Sd As ?_;refine au.nil (by decide +kernel) ?_;refine bu 17 _ rfl (KA 0 (KA 3 (KA 5 (KA 6 (KA 8 (KA 14 (KA 16 (KA 18 (KA 47 (KA 48 (KA 49 aS.nil))))))))))) ?_;refine af (S Mv (nil ?_));obtain⟨_,rfl,b⟩:=mO b;refine cO b (fun a9 b=>?_) (fun a9 b=>?_)
    ·refine ag.exit ?_;exact U _ (C,E,g) wA b
    refine sk az ?_;clear az a6;refine af (S Ld (S Fv (S Ld ?_)));obtain⟨b',a_,b⟩:=qO (xZ _ _) b;refine Sc rfl rfl (x_ a_) ?_;refine S Mv (S EX (S EX ?_));refine Sl ?_;refine Sf ?_;refine S As (nil ?_);refine bu 19 _ rfl (KA 0 (KA 3 (KA 5 (KA 6 (KA 8 (KA 14 (KA 16 (KA 20 (KA 47 (KA 48 (KA 49 aS.nil))))))))))) ?_;refine af ?_;refine Sl ?_;refine nil ?_;refine af (S As (nil ?_))
    refine eD (TA 0 (TA 3 (TA 5 (TA 6 (TA 8 (TA 14 (TA 16 (TA 21 (TA 47 (TA 48 (TA 49 kN))))))))))) (fun(z:Int×Z0×aa)=>[(22,.a (.d (.int .i64 z.1)))]) (fun z=>[aa.c E,((bp .i64) g.an++(bp .i64) g.aV++aP g.aR++[Sl.d 5 aa.c (some i) g.av]++[Sl.d 1 aP (some m) g.aF]),aa.c z.2.2]) (fun z=>(((H.set o (some (.cells (Z0.c z.2.1)))).set i (some (.tok 5 g.av.l.length))).set m (some (.tok 1 g.aF.l.length)))) (fun z=>Option.bind (bif (!decide (z.1=(0:Int))) then(some (Sum.inr ((aa.mk (0:Int) (0:Int) ([]:Bs) true ([]) (Sl.nil:Sl Bs)),z.1,z.2.1))) else((aZ 16 g.aF (⟨false,[a4.ai]⟩:Sl Bs)).bind fun F=>(aZ 80 g.av (⟨false,[z.2.2]⟩:Sl aa)).bind fun B=>(ek u y J (dO n) (fm n) (u.bl.l.drop (v+1)) (v+1) z.2.1 (aa.mk g.an g.aV g.aR B.nl B.l F)))) L=some r) ?_ ?_
    ·intro ca W;refine block ?_;refine af (S Mv (S Mv (G0 Mv (G0 Ld ?_))));obtain⟨cb,a',b⟩:=eA (RV _ _) b;refine gC rfl rfl (fun hC=>aG (k:=75) rfl (aG (k:=76) rfl (gN rfl rfl (RW (a' hC) _ aI)))) rfl ?_;refine G1 77 rfl NB ?_;refine S PA (S As (nil ?_));obtain⟨_,rfl,b⟩:=mO b;refine cO b (fun ba b=>?_) (fun ba b=>?_)
     ·refine region ?_;refine S Mv (S Fv (S Ld (S Ld (S Mv ?_))));obtain⟨cc,bb,b⟩:=qO rfl b;refine s0 (cI rfl rfl bb) rfl ?_;obtain⟨M,bc,b⟩:=qO rfl b;refine sH (de rfl rfl (aC (gT:=gT) (oT:=oT) bc _ aI aI (by assumption))) rfl ?_;refine hq (((H.set o (some (.cells (Z0.c M.2.2)))).set i (some (.tok 5 g.av.l.length))).set m (some (.tok 1 g.aF.l.length))) ?_
      refine S Mv (S EX (S EX ?_));refine Sf ?_;refine S As (nil ?_);exact W _ (M.2.1,M.2.2,M.1) wA b
     refine af (S Fv (S Ld (S As (nil ?_))));refine cO b (fun bd b=>?_) (fun bd b=>?_)
     ·refine region ?_;refine S Mv (S Ld (S Mv ?_));obtain⟨cd,be,b⟩:=qO rfl b;refine s0 (cI rfl rfl be) rfl ?_;obtain⟨N,bf,b⟩:=qO rfl b;refine sH (de rfl rfl (aD (gT:=gT) (oT:=oT) bf _ aI aI (by assumption))) rfl ?_;refine hq (((H.set o (some (.cells (Z0.c N.2.2)))).set i (some (.tok 5 g.av.l.length))).set m (some (.tok 1 g.aF.l.length))) ?_
      refine S Mv (S EX (S EX ?_));refine Sf ?_;refine S As (nil ?_);exact W _ (N.2.1,N.2.2,N.1) wA b
     refine af (S Fv (S Ld ?_));obtain⟨ce,bg,b⟩:=vO (u_ _) b;refine Sc rfl rfl (vb bg) ?_;refine S As (nil ?_);refine cO b (fun bh b=>?_) (fun bh b=>?_)
     ·refine region ?_;refine S As (nil ?_);exact W _ ((22:Int),C,aa.zero) wA b
     refine ag.exit ?_;exact U _ (C,E,g) wA b
    rintro ⟨cf,O,cg⟩ b;try dsimp only at b
    refine ay fun bi aA=>?_;refine af (S Mv (S BI (nil ?_)));refine cO b (fun bj b=>?_) (fun bj b=>?_)
    ·refine af (S BU (S Mv ?_));refine Sf ?_;refine S As (nil ?_);refine ag.ret ?_;repeat (first|refine bK ?_|refine bL ?_)
     have b:=ku aq b;obtain rfl:=oJ b;refine bz.bJ (H.set o (some (.cells (Z0.c O)))) rfl ⟨rfl,rfl⟩ ?_;intro G bk I;have bm:G≠i:=fun p=>by subst p; simp_all [ah.set]
     have bn:G≠m:=fun p=>by subst p; simp_all [ah.set]
     rw [<- I];simp only [ah.set] at I ⊢
     (repeat' split)<;>simp_all
    refine sk aA ?_;clear aA bi;refine ag.draw rfl ?_;refine Sd FL (Sd LL (Sd Fv (Sd Ld (Sd BV ?_))));obtain⟨F,bo,b⟩:=qO rfl b;refine au.sH (qj (f:=aP) (TK rfl) rfl (TK rfl) (TK rfl) ⟨_,rfl⟩ rfl rfl (by decide) rfl rfl rfl rfl aI rfl bo) rfl ?_;refine au.Dh (((H.set o (some (.cells (Z0.c O)))).set i (some (.tok 5 g.av.l.length))).set m (some (.tok 1 F.l.length))) ?_
    refine Sd FL (Sd LL (Sd LL (Sd BV ?_)));obtain⟨B,bq,b⟩:=qO rfl b;refine au.sH (qj (f:=aa.c) (TK rfl) rfl (TK rfl) (TK rfl) ⟨_,rfl⟩ rfl rfl (by decide) rfl rfl rfl rfl aI rfl bq) rfl ?_;refine au.Dh (((H.set o (some (.cells (Z0.c O)))).set i (some (.tok 5 B.l.length))).set m (some (.tok 1 F.l.length))) ?_;refine Sd FL ?_;refine au.dh (ul (TK rfl) rfl rfl rfl rfl (by repeat (first|exact cD.zero|apply cD.succ)) (by repeat (first|exact cD.zero|apply cD.succ))) ?_
    refine Sd FL ?_;refine au.dh (ul (TK rfl) rfl rfl rfl rfl (by repeat (first|exact cD.zero|apply cD.succ)) (by repeat (first|exact cD.zero|apply cD.succ))) ?_;refine au.nil (by decide +kernel) ?_;exact U _ (O,E,(aa.mk g.an g.aV g.aR B.nl B.l F)) wA b
   rintro ⟨br,bs,bt⟩ b;try dsimp only at b
   refine region ?_;refine SI ?_;refine S Mv (nil ?_);exact a2 _ ((v+1),br,bs,bt) wA b (dl ax)
  rw [ek] at b;have b:=ku aq b;try dsimp only at b
  refine ag.exit ?_;obtain⟨ch,bv,b⟩:=bW b;have b:=ku bv b;exact a1 _ (C,E,g) wA b
 rintro ⟨bw,ci,bx⟩ b;try dsimp only at b
 refine ay fun bB aB=>?_;refine ag.dc 1 _ rfl (fun j w cs hh q=>mU 3 q rfl) ?_;refine ag.dc 1 _ rfl (fun j w cs hh q=>mU 4 q rfl) ?_;refine ag.dc 1 (aa.c bx) rfl (fun j w cs hh q=>by rw [aa.fM]; exact q) ?_;refine region ?_;refine S LL ?_;refine Sf ?_;refine S As (nil ?_);refine aB _ ?_;clear aB bB;refine ag.ret ?_;repeat (first|refine bK ?_|refine bL ?_)
 obtain rfl:=oJ b;refine bz.bJ (H.set o (some (.cells (Z0.c bw)))) rfl ⟨rfl,rfl⟩ ?_;intro G bk I;have bm:G≠i:=fun p=>by subst p; simp_all [ah.set]
 have bn:G≠m:=fun p=>by subst p; simp_all [ah.set]
 rw [<- I];simp only [ah.set] at I ⊢
 (repeat' split)<;>simp_all
theorem Sn (n:Nat) (l:tq (ak:=ak) n) (x:tr (ak:=ak) n) (y:tt (ak:=ak) n) (z:tu (ak:=ak) n):tu (ak:=ak) (n+1):=by
 intro g N O oT b gT r f H B C m;rw [fm] at f
 apply AC.NJ (fn:=Tryz.f263) (c:=_) Tryz.bn (fun _ _=>Tryz.call263 _ _) Tryz.func263 rfl (n:=35) rfl (rs:=[.cell 6 58,.tmp 7]) rfl rfl
 have E:gT≠b:=fun i=>by subst i; obtain⟨_,_,_,F,_⟩:=m; simp_all
 refine fL.eS (h':=(H.set b (some (.cells (Z0.c g))))) (by funext n_; simp only [ah.set]; (repeat' split)<;>simp_all) ?_;refine fL.ay fun G o=>?_;refine region ?_;refine S BX (S BX ?_);refine Sl ?_;refine S As (nil ?_);refine o _ ?_;refine fL.ay fun p j=>?_;refine ag.draw rfl ?_;refine Sd Ld (Sd NP ?_);refine au.s0 (ct (TK rfl) rfl rfl (TK rfl) rfl rfl) rfl ?_;refine au.s0 (dr (TK rfl) rfl rfl aI rfl) rfl ?_
 refine Sd Ld (Sd NP ?_);refine au.s0 (ct (TK rfl) rfl rfl (TK rfl) rfl rfl) rfl ?_;refine au.s0 (dr (TK rfl) rfl rfl aI rfl) rfl ?_;refine au.sB (TK rfl) rfl rfl ?_ (by repeat (first|exact bA.nil|apply bA.cons));refine au.sB (TK rfl) rfl rfl ?_ (by repeat (first|exact bA.nil|apply bA.cons));refine au.dh (dH (TK rfl) rfl rfl rfl rfl rfl) ?_;refine au.dh (ul (TK rfl) rfl rfl rfl rfl (by repeat (first|exact cD.zero|apply cD.succ)) (by repeat (first|exact cD.zero|apply cD.succ))) ?_
 refine au.nil (by decide +kernel) ?_;refine j _ ?_;clear j p;refine fL.freeze 9 _ rfl (by repeat (first|exact bA.nil|apply bA.cons)) (KA 2 (KA 3 (KA 4 (KA 6 (KA 8 aS.nil))))) ?_;refine fL.freeze 8 _ rfl (by repeat (first|exact bA.nil|apply bA.cons)) (KA 2 (KA 3 (KA 4 (KA 6 (KA 9 aS.nil))))) ?_;refine fL.ay fun I q=>?_;refine ag.draw rfl ?_;refine Sd Ld (Sd Ld (Sd BU (Sd NP ?_)))
 refine au.s0 (ct (TK rfl) rfl rfl (TK rfl) rfl rfl) rfl ?_;refine au.fT (um (TK rfl) rfl rfl aI rfl (Nat.le_of_ble_eq_true rfl) rfl rfl) rfl rfl ?_;refine au.Dh (H.set b (some (.cells (Z0.c (Z0.mk g.Fd (aa.mk (0:Int) (0:Int) ([]:Bs) true ([]) (Sl.nil:Sl Bs)) g.gY g.gQ))))) ?_;refine Sd NP ?_;refine au.s0 (ct (TK rfl) rfl rfl (TK rfl) rfl rfl) rfl ?_;refine au.fT (mN (TK rfl) rfl rfl aI rfl (by repeat (first|exact cD.zero|apply cD.succ))) rfl rfl ?_
 refine au.Dh (H.set b (some (.cells (Z0.c (Z0.mk g.Fd (aa.mk (0:Int) (0:Int) ([]:Bs) true ([]) (Sl.nil:Sl Bs)) true g.gQ))))) ?_;refine au.nil (by decide +kernel) ?_;refine q _ ?_;refine fL.done ⟨_,rfl,rfl,fun eP=>?_⟩;refine af (S Ld (S Fv (S Ld (S Fv (S Ld (S Mv ?_))))));obtain⟨s,t,f⟩:=qT rfl f;refine sH (de rfl rfl (l (gT:=gT) (oT:=oT) t _ aI aI (by assumption))) rfl ?_
 refine hq (H.set b (some (.cells (Z0.c s.2.2)))) ?_;refine S EX (S EX ?_);refine Sf ?_;refine S As (nil ?_);obtain⟨u,v,f⟩:=vT (RX _ _ _) f;refine ag.ret ?_;repeat (first|refine bK ?_|refine bL ?_|refine J ?_|refine K ?_|refine L ?_)
 refine⟨.inr rfl, ?_⟩;obtain rfl:=oJ f;refine mV.mono (RY v _ aI) fun _ _ ⟨_,i⟩=>?_;subst i;refine⟨_,(H.set b (some (.cells (Z0.c u)))),rfl, ?_,⟨rfl,rfl⟩⟩;refine fun w M k=>?_;rw [<- k]; clear k;exact congrFun (by first|rfl|exact(ah.set_set _ _ _ _).symm|(rw [ah.set_set]; rfl)|(funext n_; simp only [ah.set]; (repeat' split)<;>first|rfl|(exfalso; simp_all; done)|(simp_all; done))) w
theorem ic:∀(n:Nat),(tq (ak:=ak) n)/\(tr (ak:=ak) n)/\(tt (ak:=ak) n)/\(tu (ak:=ak) n)
 | 0=>⟨fun b=>by first|cases b|(rw [dO] at b; cases b),fun b=>by first|cases b|(rw [lD] at b; cases b),fun b=>by first|cases b|(rw [lE] at b; cases b),fun b=>by first|cases b|(rw [fm] at b; cases b)⟩
 | n+1=>⟨Si n (ic n).1 (ic n).2.1 (ic n).2.2.1 (ic n).2.2.2,Sj n (ic n).1 (ic n).2.1 (ic n).2.2.1 (ic n).2.2.2,Sk n (ic n).1 (ic n).2.1 (ic n).2.2.1 (ic n).2.2.2,Sn n (ic n).1 (ic n).2.1 (ic n).2.2.1 (ic n).2.2.2⟩
def IX (a0:Z0) (a1:az) (a2:aa) (a3:Int):Option (aa×Int×Z0):=dO F0 a0 a1 a2 a3
theorem Sq {f:Z0}{g:az}{i:aa}{j:Int}{oT:Ab.Obj}{b gT:Nat}{r:aa×Int×Z0}(k:IX f g i j=some r) (H:ah) (l:H b=some (.cells (Z0.c f))) (m:H gT=some oT) (o:fP Tryz.prog oT):AC Tryz.prog 213 [.d (.ptr b 0),.agg (az.c g),.agg (aa.c i),.d (.int .i64 j)] H fun v h'=>v=.cS [.agg (aa.c r.1),.d (.int .i64 r.2.1)]/\h'=(H.set b (some (.cells (Z0.c r.2.2)))):=(ic F0).1 k H l m o
def vm (b:Z0) (f:az) (g:aa) (i:Int):Option (aa×Int×Z0):=dO F0 b f g i
theorem Sr (a0:Z0) (a1:az) (a2:aa) (a3:Int):IX a0 a1 a2 a3=vm a0 a1 a2 a3:=rfl
end Go.Proofs
