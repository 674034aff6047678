import Derived.Test.YtgkmefkmmafocaaGreatDoorV1
set_option maxRecDepth 100000
set_option maxHeartbeats 2000000
set_option linter.unusedVariables false
set_option linter.unusedSimpArgs false
namespace Go.Proofs
open Go Go.Ab
open aO aq ah aY eG
variable {az:bC}
def ee (b:aG):Bool:=on (bif (decide ((0:Int)<((b.aK.l.length:Nat):Int))) then((b.aK.l)[0]?.getD (0:Int)) else(0:Int)) fun f=>((decide ((0:Int)<((b.aK.l.length:Nat):Int)))&&(decide (f=(1:Int))))
def wP (b:aG):Option Bool:=some (ee b)
theorem nR (a0:aG):wP a0=some (ee a0):=rfl
theorem nT {g:aG}{r:Bool}(b:wP g=some r) (H:ak) :AC Tryz.prog 125 [.agg (aG.c g)] H fun v h'=>v=.a (.d (.bool r))/\h'=H:=by
 unfold wP ee at b;refine AC.oW 14 [.tmp 2] Tryz.call125 Tryz.func125 ?_;refine af (S BX (S As (nil ?_)));refine af (S Fv (S Ld ?_));refine sLen (f:=(bJ .i64)) (s:=g.aK) (TK rfl) rfl rfl rfl rfl fun j=>?_;refine S BI (S Mv (G0 Fv ?_));refine G1 8 rfl Ld ?_;obtain⟨l,i,b⟩:=kG (fun hc=>Q.getD_some (by simp at hc; omega)) b;refine gC rfl rfl (fun hC=>aL (k:=9) rfl (dI (f:=(bJ .i64)) (n:=0) (TK rfl) rfl (TK rfl) rfl rfl rfl (i hC))) rfl ?_
 refine G1 10 rfl Ld ?_;refine G1 11 rfl BI ?_;refine S PA (S As (nil ?_));exact rt b
def kM (b:aG):Option aG:=(nI b.aK (some (1:Int)) none).bind fun f=>(aQ 8 (⟨false,[]⟩:Sl Int) f).bind fun g=>some (aG.mk b.aa g)
def wQ (b:aG):Option aG:=kM b
theorem Cc (a0:aG):wQ a0=kM a0:=rfl
theorem Cd {g r:aG}(b:wQ g=some r) (H:ak) :AC Tryz.prog 170 [.agg (aG.c g)] H fun v h'=>v=.a (.agg (aG.c r))/\h'=H:=by
 unfold wQ kM at b;refine AC.oW 11 [.cell 2 35] Tryz.call170 Tryz.func170 ?_;refine af (S BX ?_);refine Sl ?_;refine nil ?_;refine ah.b5 (Sd Fv (Sd Ld ?_));refine au.s0 (nF (TK rfl) rfl (TK rfl) rfl rfl rfl rfl rfl rfl) rfl ?_;refine Sd Fv (Sd Ld ?_);obtain⟨k,i,b⟩:=qT rfl b;refine au.s0 (qY (f:=(bJ .i64)) (l:=(some (1:Int))) (r:=none) (TK rfl) rfl (TK rfl) rfl rfl rfl trivial i) rfl ?_
 obtain⟨m,j,b⟩:=qT rfl b;refine au.s0 (qZ (f:=(bJ .i64)) (TK rfl) rfl (TK rfl) (TK rfl) ⟨_,rfl⟩ rfl rfl (by decide) rfl rfl rfl (by intro q h; cases h<;>decide) rfl rfl j) rfl ?_;refine Sd BU ?_;refine au.dA (eA (TK rfl) rfl rfl rfl rfl rfl) ?_;refine au.nil (by decide +kernel) ?_;exact rt b
def iD (b:aG):Option aG:=on (ee b) fun f=>bif f then((kM b).bind fun g=>some g) else((aQ 8 (⟨false,[]⟩:Sl Int) b.aK).bind fun i=>some (aG.mk b.aa i))
def wR (b:aG):Option aG:=iD b
theorem rf (a0:aG):wR a0=iD a0:=rfl
theorem ri {i r:aG}(b:wR i=some r) (H:ak) :AC Tryz.prog 155 [.agg (aG.c i)] H fun v h'=>v=.a (.agg (aG.c r))/\h'=H:=by
 unfold wR iD at b;refine AC.oW 14 [.cell 2 35] Tryz.call155 Tryz.func155 ?_;refine af (S BX ?_);refine Sl ?_;refine nil ?_;refine ax fun j g=>?_;refine af (S Ld ?_);obtain⟨p,k,b⟩:=vT (nR _) b;refine Sc rfl rfl (nT k) ?_;refine nil ?_;refine cE b (fun l b=>?_) (fun l b=>?_)
 ·refine af (S Ld ?_);obtain⟨s,m,b⟩:=qT (Cc _) b;refine Sc rfl rfl (Cd m) ?_;refine Sf ?_;refine nil ?_;exact rt b
 refine sk g ?_;clear g j;refine ah.b5 (Sd Fv (Sd Ld ?_));refine au.s0 (nF (TK rfl) rfl (TK rfl) rfl rfl rfl rfl rfl rfl) rfl ?_;refine Sd Fv (Sd Ld ?_);obtain⟨t,o,b⟩:=qT rfl b;refine au.s0 (qZ (f:=(bJ .i64)) (TK rfl) rfl (TK rfl) (TK rfl) ⟨_,rfl⟩ rfl rfl (by decide) rfl rfl rfl (by intro q h; cases h<;>decide) rfl rfl o) rfl ?_;refine Sd BU ?_;refine au.dA (eA (TK rfl) rfl rfl rfl rfl rfl) ?_
 refine au.nil (by decide +kernel) ?_;exact rt b
def nU (g:aG):Option Bool:=(iD g).bind fun b=>on (bif (decide ((0:Int)<((b.aK.l.length:Nat):Int))) then((b.aK.l)[0]?.getD (0:Int)) else(0:Int)) fun f=>some ((decide ((0:Int)<((b.aK.l.length:Nat):Int)))&&(decide (f=(2:Int))))
def wS (b:aG):Option Bool:=nU b
theorem IS (a0:aG):wS a0=nU a0:=rfl
theorem IT {g:aG}{r:Bool}(b:wS g=some r) (H:ak) :AC Tryz.prog 171 [.agg (aG.c g)] H fun v h'=>v=.a (.d (.bool r))/\h'=H:=by
 unfold wS nU at b;refine AC.oW 17 [.tmp 2] Tryz.call171 Tryz.func171 ?_;refine af (S BX (S As (nil ?_)));refine af (S Ld ?_);obtain⟨i,j,b⟩:=qT (rf _) b;refine Sc rfl rfl (ri j) ?_;refine Sl ?_;refine Sf ?_;refine nil ?_;refine bA 3 _ rfl aY.nil ?_;refine af (S Fv (S Ld ?_));refine sLen (f:=(bJ .i64)) (s:=i.aK) (TK rfl) rfl rfl rfl rfl fun m=>?_;refine S BI (S Mv (G0 Fv ?_))
 refine G1 11 rfl Ld ?_;obtain⟨o,l,b⟩:=tj (fun hc=>Q.getD_some (by simp at hc; omega)) b;refine gC rfl rfl (fun hC=>aL (k:=12) rfl (dI (f:=(bJ .i64)) (n:=0) (TK rfl) rfl (TK rfl) rfl rfl rfl (l hC))) rfl ?_;refine G1 13 rfl Ld ?_;refine G1 14 rfl BI ?_;refine S PA (S As (nil ?_));exact rt b
def gW (b:aG):Option (aG×Bool):=(nU b).bind fun f=>bif (!f) then(some ((aG.mk ([]:Bs) (Sl.nil:Sl Int)),false)) else((iD b).bind fun g=>(kM g).bind fun i=>some (i,true))
def wT (b:aG):Option (aG×Bool):=gW b
theorem wU (a0:aG):wT a0=gW a0:=rfl
theorem wV {g:aG}{r:aG×Bool}(b:wT g=some r) (H:ak) :AC Tryz.prog 156 [.agg (aG.c g)] H fun v h'=>v=.dz [.agg (aG.c r.1),.d (.bool r.2)]/\h'=H:=by
 unfold wT gW at b;refine AC.oW 11 [.cell 2 35,.tmp 3] Tryz.call156 Tryz.func156 ?_;refine af (S BX ?_);refine Sl ?_;refine S As (nil ?_);refine ax fun i f=>?_;refine af (S Ld ?_);obtain⟨o,j,b⟩:=qT (IS _) b;refine Sc rfl rfl (IT j) ?_;refine S NB (nil ?_);refine cE b (fun k b=>?_) (fun k b=>?_)
 ·refine af (S BU ?_);refine Sf ?_;refine S As (nil ?_);exact rt b
 refine sk f ?_;clear f i;refine af (S Ld ?_);obtain⟨p,l,b⟩:=qT (rf _) b;refine Sc rfl rfl (ri l) ?_;obtain⟨q,m,b⟩:=qT (Cc _) b;refine Sc rfl rfl (Cd m) ?_;refine Sf ?_;refine S As (nil ?_);exact rt b
def kO (b:Bs):List Z9->Unit ⊕ Bool
 | []=>Sum.inl ()
 | f::g=>on (f) fun i=>bif ((i.aa==b)) then(Sum.inr true) else(kO b (g) )
def l_ (i:ai) (b:Bs):Bool:=on (kO b i.aJ.l ) fun f=>match f with|Sum.inl _=>(on (()) fun _=>false)|Sum.inr g=>(g)
def wW (f:ai) (b:Bs):Option Bool:=some (l_ f b)
theorem Ce (a0:ai) (b:Bs):wW a0 b=some (l_ a0 b):=rfl
theorem Cf {g:ai}{i:Bs}{r:Bool}(b:wW g i=some r) (H:ak) :AC Tryz.prog 92 [.agg (ai.c g),.d (.str i)] H fun v h'=>v=.a (.d (.bool r))/\h'=H:=by
 unfold wW l_ at b;refine AC.oW 21 [.tmp 4] Tryz.call92 Tryz.func92 ?_;refine af (S BX (S As (nil ?_)));refine aP kN (fun(z:Unit)=>[]) (fun z=>H) (fun z=>some (false)=some r) ?_ ?_
 ·intro F u;refine af (S As (nil ?_));refine block ?_;obtain⟨k,m,b⟩:=dU b;refine bp (TA 1 (TA 2 kN)) (fun(z:Nat)=>[(5,.a (.d (.int .i64 ((z:Nat):Int))))]) (fun z=>H) (fun z=>g.aJ.l.length-z) (fun z=>k (kO i (g.aJ.l.drop z) )=some r) 0 b wA ?_;rintro o b G w;try dsimp only at b
  refine ax fun x p=>?_;refine af (S Mv (S Fv (S Ld ?_)));refine sLen (f:=Z9.c) (s:=g.aJ) (TK rfl) rfl rfl rfl rfl fun I=>?_;refine S BI (nil ?_);refine ah.bK (fun l=>k (kO i l )=some r) b rfl (fun J q j b=>?_) (fun j b=>?_)
  ·rw [kO] at b;try dsimp only at j
   have K:=oD j;refine sk p ?_;clear p x;refine ax fun y t=>?_;refine block ?_;refine af (S Fv (S Ld (S Mv ?_)));obtain⟨L,B,b⟩:=vP q b;refine S (ix Z9.c o B) (S Fv (S Ld (S Mv (S BS (nil ?_)))));refine cP b (fun C b=>?_) (fun C b=>?_)
   ·refine af (S As (nil ?_));refine ah.ret ?_;repeat (first|refine bE ?_|refine bF ?_)
    have b:=ku m b;obtain rfl:=oJ b;refine bn.bG H rfl ⟨rfl,rfl⟩ ?_;exact(fun _ _ h=>h)
   refine sk t ?_;clear t y;refine region ?_;refine S Mv ?_;refine SI ?_;refine S As (nil ?_);exact w _ (o+1) wA b (dl q)
  rw [kO] at b;have b:=ku m b;try dsimp only at b
  refine ah.exit ?_;obtain⟨M,E,b⟩:=dU b;have b:=ku E b;exact u _ () wA b
 rintro _ b;try dsimp only at b
 refine af (S As (nil ?_));exact rt b
def wX  :Option Bool:=some true
def pM (g:aj) (b:Int) :Nat->Int->Option Bool
 | 0,_=>none
 | i+1,f=>bif (decide (f<b)) then((cI g.an.l f).bind fun j=>(cI g.an.l b).bind fun k=>bif ((j.aa==k.aa)) then(some false) else((cA f (1:Int)).bind fun m=>(pM g b i) m)) else(wX   )
def rj (f:aj) (b:Int):Option Bool:=pM f b F0 (0:Int)
theorem IU {j:aj}{g:Int}{r:Bool}(b:rj j g=some r) (H:ak) :AC Tryz.prog 185 [.agg (aj.c j),.d (.int .i64 g)] H fun v h'=>v=.a (.d (.bool r))/\h'=H:=by
 unfold rj at b;refine AC.oW 24 [.tmp 4] Tryz.call185 Tryz.func185 ?_;refine af (S BX (S As (nil ?_)));refine aP kN (fun(z:Unit)=>[]) (fun z=>H) (fun z=>wX =some r) ?_ ?_
 ·intro B m;refine af (S As (nil ?_));refine block ?_;refine bp (TA 1 (TA 2 kN)) (fun(z:Nat×Int)=>[(5,.a (.d (.int .i64 z.2)))]) (fun z=>H) (fun z=>z.1) (fun z=>pM j g z.1 z.2=some r) (F0,(0:Int)) b wA ?_;rintro ⟨i,C⟩ b E o;try dsimp only at b
  cases i with
  | zero=>cases b
  | succ i =>
    rw [pM] at b;refine ax fun p k=>?_;refine af (S Mv (S Mv (S BI (nil ?_))));refine cE b (fun q b=>?_) (fun q b=>?_)
    ·refine sk k ?_;clear k p;refine ax fun s l=>?_;refine block ?_;refine ah.b5 (Sd Fv (Sd Ld (Sd Mv ?_)));obtain⟨F,t,b⟩:=bO b;refine au.s0 (je (f:=ai.c) (TK rfl) rfl (TK rfl) rfl rfl rfl t) rfl ?_;refine Sd Fv (Sd Ld (Sd Fv (Sd Ld (Sd Mv ?_))));obtain⟨G,u,b⟩:=bO b;refine au.s0 (je (f:=ai.c) (TK rfl) rfl (TK rfl) rfl rfl rfl u) rfl ?_;refine Sd Fv (Sd Ld (Sd BS ?_))
     refine au.nil (by decide +kernel) ?_;refine cE b (fun w b=>?_) (fun w b=>?_)
     ·refine af (S As (nil ?_));exact rt b
     refine sk l ?_;clear l s;refine region ?_;refine S Mv ?_;obtain⟨x,y,b⟩:=bO b;refine s0 (eL rfl rfl y) rfl ?_;refine S As (nil ?_);exact o _ (i,x) wA b (nS _)
    refine ah.exit ?_;exact m _ () wA b
 rintro _ b;try dsimp only at b
 unfold wX at b;refine af (S As (nil ?_));exact rt b
def tR (f:aj) (b:Int):Option Bool:=rj f b
theorem IV (a0:aj) (b:Int):rj a0 b=tR a0 b:=rfl
def fL (l:aj) (i:Bs) (b:(ai×Bool)):List ai->Nat->(Sl Bs)->Option ((Sl Bs))
 | [],j,g=>some g
 | m::o,j,g=>bif b.2 then(on (m) fun f=>aU (!(!decide (f.ar=(1:Int)))) (tR l ((j:Nat):Int)) false fun p=>Option.bind (bif ((!decide (f.ar=(1:Int)))||(!p)) then(some g) else(on (bif (!((decide (b.1.ar=(1:Int)))&&((f.aa==i)))&&(decide (b.1.ar=(2:Int)))) then jU f.aW i else false) fun k=>on (bif (!(((decide (b.1.ar=(1:Int)))&&((f.aa==i)))||((decide (b.1.ar=(2:Int)))&&k))&&(decide (b.1.ar=(3:Int)))) then l_ b.1 f.aa else false) fun q=>bif ((((decide (b.1.ar=(1:Int)))&&((f.aa==i)))||((decide (b.1.ar=(2:Int)))&&k))||((decide (b.1.ar=(3:Int)))&&q)) then((aQ 16 g (⟨false,[f.aa]⟩:Sl Bs)).bind fun r=>some r) else(some g))) fun s=>fL l i b (o) (j+1) s) else(some g)
def pN (b:aj) (f:Bs):Option (Sl Bs):=on (cU b f) fun g=>Option.bind (fL b f g b.an.l 0 (Sl.nil:Sl Bs)) fun i=>on (i) fun j=>some j
def wY (f:aj) (b:Bs):Option (Sl Bs):=pN f b
theorem IW (a0:aj) (b:Bs):wY a0 b=pN a0 b:=rfl
theorem IX {g:aj}{j:Bs}{r:Sl Bs}(b:wY g j=some r) (H:ak) :AC Tryz.prog 172 [.agg (aj.c g),.d (.str j)] H fun v h'=>v=.a (.d (Sl.d 1 aI none r))/\h'=H:=by
 unfold wY pN at b;refine AC.oW 81 [.tmp 4] Tryz.call172 Tryz.func172 ?_;refine ah.tok 1 fun i x=>?_;refine af (S BX ?_);refine s0 (dc (k':=1) rfl) rfl ?_;refine nil ?_;refine af (S As (nil ?_));refine ah.eH 5 1 i rfl aB ?_;refine af (S Ld (S Mv ?_));obtain⟨q,F,b⟩:=vT (iy _ _) b;refine Sc rfl rfl (iz F) ?_;refine S Mv (S EX (S EX ?_));refine Sl ?_
 refine Sf ?_;refine S As (nil ?_);refine bA 6 _ rfl (KA 1 (KA 2 (KA 5 (KA 7 aY.nil)))) ?_;refine aP kN (fun(z:(Sl Bs))=>[(5,.a (.d (Sl.d 1 aI (some i) z)))]) (fun z=>(H.set i (some (.tok 1 z.l.length)))) (fun z=>(some z)=some r) ?_ ?_
 ·intro aa G;refine af (S As (nil ?_));refine block ?_;obtain⟨p,I,b⟩:=bY b;refine bp (TA 1 (TA 2 (TA 6 (TA 7 kN)))) (fun(z:(Sl Bs)×Nat)=>[(5,.a (.d (Sl.d 1 aI (some i) z.1))),(8,.a (.d (.int .i64 ((z.2:Nat):Int))))]) (fun z=>(H.set i (some (.tok 1 z.1.l.length)))) (fun z=>g.an.l.length-z.2) (fun z=>Option.bind (fL g j q (g.an.l.drop z.2) z.2 z.1) p=some r) ((Sl.nil:Sl Bs),0) b wA ?_
  rintro ⟨m,o⟩ b ab J;try dsimp only at b
  refine ax fun K y=>?_;refine af (S Mv (S Fv (S Ld ?_)));refine sLen (f:=ai.c) (s:=g.an) (TK rfl) rfl rfl rfl rfl fun ad=>?_;refine S BI (S Mv (G0 Mv (S PA (nil ?_))));refine ah.tq (fun l=>Option.bind (fL g j q l o m) p=some r) (Option.bind (some m) p=some r) b (fun b=>by rw [fL] at b; exact b) (fun _ L b=>by rw [fL] at b; rw [L] at b; exact b) rfl rfl (fun ae B t M b=>?_) (fun t b=>?_)
  ·rw [fL] at b;rw [M,cond_true] at b;try dsimp only at t
   have ag:=oD (and_left t);refine sk y ?_;clear y K;refine aP (TA 1 (TA 2 (TA 6 (TA 7 (TA 8 kN))))) (fun(z:(Sl Bs))=>[(5,.a (.d (Sl.d 1 aI (some i) z)))]) (fun z=>(H.set i (some (.tok 1 z.l.length)))) (fun z=>Option.bind (fL g j q (g.an.l.drop (o+1)) (o+1) z) p=some r) ?_ ?_
   ·intro al u;refine block ?_;refine af (S Fv (S Ld (S Mv ?_)));obtain⟨ao,N,b⟩:=vO B b;refine S (ix ai.c o N) (S Ld ?_);refine Sl ?_;refine Sf ?_;refine nil ?_;refine bA 9 _ rfl (KA 1 (KA 2 (KA 5 (KA 6 (KA 7 (KA 8 aY.nil)))))) ?_;refine ax fun O C=>?_;refine af (S Fv (S Ld (S BI (S Mv (G0 Ld (G0 Mv ?_))))));obtain⟨ap,P,b⟩:=eC (IV _ _) b;refine fu 36 37 rfl rfl rfl rfl rfl rfl (fun hC=>IU (P hC)) ?_
    refine G1 38 rfl NB ?_;refine S PO (nil ?_);obtain⟨ar,w,b⟩:=dZ b;refine cO b (fun Q b=>?_) (fun Q b=>?_)
    ·refine ah.exit ?_;have b:=ku w b;exact u _ m wA b
    refine sk C ?_;clear C O;refine af (S Fv (S Ld (S BI (S Mv (G0 Fv ?_)))));refine G1 45 rfl Ld ?_;refine G0 Mv ?_;refine G2 46 47 rfl rfl BS ?_;refine S PA (S As (nil ?_));refine af (S Mv (S Mv (G0 Fv ?_)));refine G1 52 rfl Ld ?_;refine G1 53 rfl BI ?_;refine G1 54 rfl Mv ?_;refine G0 Fv ?_;refine G1 56 rfl Ld ?_;refine G0 Mv ?_;obtain⟨au,R,b⟩:=eB (fun _=>(wJ _ _)) b;refine fu 57 58 rfl rfl rfl rfl rfl rfl (fun hC=>wK (R hC)) ?_
    refine gC rfl rfl (fun hC=>aL (k:=55) rfl (gR rfl rfl rfl)) rfl ?_;refine S PO (S As (nil ?_));refine af (S Mv (S Mv (G0 Fv ?_)));refine G1 64 rfl Ld ?_;refine G1 65 rfl BI ?_;refine G1 66 rfl Mv ?_;refine G0 Ld (G0 Fv ?_);refine G1 69 rfl Ld ?_;obtain⟨av,U,b⟩:=eB (fun _=>(Ce _ _)) b;refine fu 68 70 rfl rfl rfl rfl rfl rfl (fun hC=>Cf (U hC)) ?_;refine gC rfl rfl (fun hC=>aL (k:=67) rfl (gR rfl rfl rfl)) rfl ?_
    refine S PO (S As (nil ?_));refine af (S Mv (nil ?_));refine cO b (fun W b=>?_) (fun W b=>?_)
    ·refine region ?_;refine S Mv (S Fv (S Ld (S BV ?_)));obtain⟨E,X,b⟩:=qO rfl b;refine SH (am aI (TK rfl) rfl (TK rfl) (TK rfl) X) ?_;refine hq (H.set i (some (.tok 1 E.l.length))) ?_;refine S As (nil ?_);have b:=ku w b;exact u _ E wA b
    refine ah.skip ?_;have b:=ku w b;exact u _ m wA b
   rintro Y b;try dsimp only at b
   refine region ?_;refine S Mv ?_;refine SI ?_;refine S As (nil ?_);exact J _ (Y,(o+1)) wA b (dl B)
  have b:=ku I b;refine ah.exit ?_;obtain⟨aw,Z,b⟩:=bT b;have b:=ku Z b;exact G _ m wA b
 rintro ay b;try dsimp only at b
 refine af (S Mv (S As (nil ?_)));refine ah.dm 4 rfl ?_;refine ah.ret ?_;repeat (first|refine bE ?_|refine bF ?_)
 obtain rfl:=oJ b;refine bn.bG H rfl ⟨rfl,rfl⟩ ?_
 first|exact ak.bS x|(simp only [ak.set_set]; exact ak.bS x)
def mb (i:aj) (b:Bs) (j:Bs):Option Bool:=(pN i j).bind fun f=>on (jU f b) fun g=>some g
def wZ (f:aj) (b:Bs) (g:Bs):Option Bool:=mb f b g
theorem IY (a0:aj) (b:Bs) (a2:Bs):wZ a0 b a2=mb a0 b a2:=rfl
theorem IZ {g:aj}{f i:Bs}{r:Bool}(b:wZ g f i=some r) (H:ak) :AC Tryz.prog 157 [.agg (aj.c g),.d (.str f),.d (.str i)] H fun v h'=>v=.a (.d (.bool r))/\h'=H:=by
 unfold wZ mb at b;refine AC.oW 12 [.tmp 6] Tryz.call157 Tryz.func157 ?_;refine af (S BX (S As (nil ?_)));refine af (S Ld (S Mv ?_));obtain⟨l,j,b⟩:=qT (IW _ _) b;refine Sc rfl rfl (IX j) ?_;refine S Mv ?_;obtain⟨m,k,b⟩:=vT (wJ _ _) b;refine Sc rfl rfl (wK k) ?_;refine S As (nil ?_);exact rt b
def iE:Nat->aj->aG->aG->Option Bool
 | 0,_,_,_=>none
 | n+1,k,b,f=>on (ee f) fun l=>bif l then(on (ee b) fun g=>aU (g) (iD b) aG.zero fun m=>aU (g) (iD f) aG.zero fun o=>aU (g) ((iE n) k m o) false fun p=>some (g&&p)) else(on (ee b) fun q=>bif q then((iD b).bind fun r=>((iE n) k r f).bind fun s=>some s) else((gW b).bind fun i=>(gW f).bind fun j=>bif (i.2&&j.2) then(((iE n) k i.1 j.1).bind fun t=>some t) else(aU ((((!i.2)&&(!j.2))&&!((b.aa==f.aa)))) (mb k b.aa f.aa) false fun u=>some (((!i.2)&&(!j.2))&&(((b.aa==f.aa))||u)))))
def w5 (n:Nat):Prop:=∀{a0:aj}{b:aG}{a2:aG}   {r:Bool},iE n a0 b a2=some r->∀(H:ak),AC Tryz.prog 124 [.agg (aj.c a0),.agg (aG.c b),.agg (aG.c a2)] H fun v h'=>v=.a (.d (.bool r))/\h'=H
theorem I1 (n:Nat) (f:w5 (az:=az) n):w5 (az:=az) (n+1):=by
 intro Y I Z   r b H;rw [iE] at b;refine AC.oW 69 [.tmp 6] Tryz.call124 Tryz.func124 ?_;refine af (S BX (S BX (S BX (S As (nil ?_)))));refine ax fun l g=>?_;refine af (S Ld ?_);obtain⟨J,m,b⟩:=vT (nR _) b;refine Sc rfl rfl (nT m) ?_;refine nil ?_;refine cE b (fun o b=>?_) (fun o b=>?_)
 ·refine ah.b5 (Sd Ld ?_);obtain⟨K,p,b⟩:=vT (nR _) b;refine ct rfl rfl (nT p) ?_;refine Sd Mv (cD Ld (cD Ld ?_));obtain⟨L,q,b⟩:=dR (rf _) b;refine l7 17 rfl rfl rfl rfl rfl (fun hC=>ri (q hC)) ?_;refine cD Ld ?_;obtain⟨M,s,b⟩:=dR (rf _) b;refine l7 19 rfl rfl rfl rfl rfl (fun hC=>ri (s hC)) ?_;obtain⟨N,t,b⟩:=dR rfl b;refine au.gC rfl rfl (fun hC=>aL (k:=16) rfl (aL (k:=18) rfl (aL (k:=20) rfl (fE rfl rfl (fun H=>f (t hC) H))))) rfl ?_
  refine Sd PA (Sd As ?_);refine au.nil (by decide +kernel) ?_;exact rt b
 refine sk g ?_;clear g l;refine ax fun u i=>?_;refine af (S Ld ?_);obtain⟨O,v,b⟩:=vT (nR _) b;refine Sc rfl rfl (nT v) ?_;refine nil ?_;refine cE b (fun w b=>?_) (fun w b=>?_)
 ·refine ah.b5 (Sd Ld (Sd Ld ?_));obtain⟨P,x,b⟩:=qT (rf _) b;refine ct rfl rfl (ri x) ?_;refine Sd Ld ?_;obtain⟨Q,y,b⟩:=qT rfl b;refine ct rfl rfl (f y) ?_;refine Sd As ?_;refine au.nil (by decide +kernel) ?_;exact rt b
 refine sk i ?_;clear i u;refine af (S Ld ?_);obtain⟨R,z,b⟩:=qT (wU _) b;refine Sc rfl rfl (wV z) ?_;refine S Mv (S EX (S EX ?_));refine Sl ?_;refine Sf ?_;refine S As (nil ?_);refine bA 7 _ rfl (KA 3 (KA 4 (KA 5 (KA 8 aY.nil)))) ?_;refine af (S Ld ?_);obtain⟨U,B,b⟩:=qT (wU _) b;refine Sc rfl rfl (wV B) ?_;refine S Mv (S EX (S EX ?_));refine Sl ?_
 refine Sf ?_;refine S As (nil ?_);refine bA 9 _ rfl (KA 3 (KA 4 (KA 5 (KA 7 (KA 8 (KA 10 aY.nil)))))) ?_;refine ax fun C j=>?_;refine af (S Mv (S Mv (G0 Mv (S PA (nil ?_)))));refine cE b (fun E b=>?_) (fun E b=>?_)
 ·refine af (S Ld (S Ld (S Ld ?_)));obtain⟨W,F,b⟩:=qT rfl b;refine Sc rfl rfl (f F) ?_;refine S As (nil ?_);exact rt b
 refine sk j ?_;clear j C;refine af (S Mv (S NB (S Mv (G0 Mv ?_))));refine G1 51 rfl NB ?_;refine S PA (S Mv (G0 Fv ?_));refine G1 55 rfl Ld ?_;refine G0 Fv ?_;refine G1 57 rfl Ld ?_;refine G2 56 58 rfl rfl BS ?_;refine G1 59 rfl Mv ?_;refine G0 Ld (G0 Fv ?_);refine G1 62 rfl Ld ?_;refine G0 Fv ?_;refine G1 64 rfl Ld ?_;obtain⟨X,G,b⟩:=dR (IY _ _ _) b;refine gC rfl rfl (fun hC=>aL (k:=61) rfl (aL (k:=63) rfl (aL (k:=65) rfl (fE rfl rfl (fun H=>IZ (G hC) H))))) rfl ?_
 refine gC rfl rfl (fun hC=>aL (k:=60) rfl (o9 rfl rfl rfl)) rfl ?_;refine S PA (S As (nil ?_));exact rt b
theorem Cg:∀(n:Nat),(w5 (az:=az) n)
 | 0=>fun b=>by first|cases b|(rw [iE] at b; cases b)
 | n+1=>I1 n (Cg n)
def Ch (f:aj) (b:aG) (g:aG):Option Bool:=iE F0 f b g
theorem I2 {f:aj}{b g:aG}{r:Bool}(i:Ch f b g=some r) (H:ak) :AC Tryz.prog 124 [.agg (aj.c f),.agg (aG.c b),.agg (aG.c g)] H fun v h'=>v=.a (.d (.bool r))/\h'=H:=(Cg F0) i H 
def pO (f:aj) (b:aG) (g:aG):Option Bool:=iE F0 f b g
theorem I3 (a0:aj) (b:aG) (a2:aG):Ch a0 b a2=pO a0 b a2:=rfl
def iF (i:Bs) (j:(Z7×Bool)):List Z8->(Sl Z6)->Option ((Sl Z6))
 | [],b=>some b
 | g::k,b=>on (g) fun l=>on (fQ j.1.aF l.aa) fun f=>on (bif !(!f.2) then g else Z8.zero) fun m=>aU (!(!f.2)) (jV f.1.aA m.aA) false fun o=>Option.bind (bif ((!f.2)||(!o)) then((cr i ([40]:Bs)).bind fun p=>on (g) fun q=>(cr p q.aa).bind fun r=>(cr r ([41]:Bs)).bind fun s=>(aQ 24 b (⟨false,[(Z6.mk (22:Int) s)]⟩:Sl Z6)).bind fun t=>some t) else(some b)) fun u=>iF i j (k) u
def iG (k:Z7) (i:Bs):List Z8->(Sl Z6)->Option ((Sl Z6))
 | [],b=>some b
 | f::l,b=>on (f) fun m=>on (fQ k.aF m.aa) fun g=>on (bif (!g.2) then f else Z8.zero) fun o=>on (bif (!g.2) then ee o.aA else false) fun j=>on (bif ((!g.2)&&j) then f else Z8.zero) fun p=>Option.bind (bif (((!g.2)&&j)&&(!p.cT)) then((cr i ([40]:Bs)).bind fun q=>on (f) fun r=>(cr q r.aa).bind fun s=>(cr s ([41]:Bs)).bind fun t=>(aQ 24 b (⟨false,[(Z6.mk (22:Int) t)]⟩:Sl Z6)).bind fun u=>some u) else(some b)) fun v=>iG k i (l) v
def kP (t:aj) (i:ai) (b:Z7):Option (Sl Z6):=(cr i.aa ([46]:Bs)).bind fun j=>(cr j b.aa).bind fun f=>on (kJ i b.aa) fun g=>bif (!g.2) then(some (⟨false,[(Z6.mk (20:Int) f)]⟩:Sl Z6)) else((pO t g.1.aA b.aA).bind fun k=>Option.bind (bif (!k) then((aQ 24 (Sl.nil:Sl Z6) (⟨false,[(Z6.mk (10:Int) f)]⟩:Sl Z6)).bind fun m=>some m) else(some (Sl.nil:Sl Z6))) fun o=>Option.bind (iF f g b.aF.l o) fun p=>on (p) fun q=>Option.bind (iG b f g.1.aF.l q) fun r=>on (r) fun s=>some s)
def w6 (f:aj) (b:ai) (g:Z7):Option (Sl Z6):=kP f b g
theorem I4 (a0:aj) (b:ai) (a2:Z7):w6 a0 b a2=kP a0 b a2:=rfl
theorem I5 {Y:aj}{I:ai}{i:Z7}{r:Sl Z6}(b:w6 Y I i=some r) (H:ak) :AC Tryz.prog 91 [.agg (aj.c Y),.agg (ai.c I),.agg (Z7.c i)] H fun v h'=>v=.a (.d (Sl.d 2 Z6.c none r))/\h'=H:=by
 unfold w6 kP at b;refine AC.oW 148 [.tmp 6] Tryz.call91 Tryz.func91 ?_;refine ah.tok 2 fun g w=>?_;refine af (S BX (S BX (S BX ?_)));refine s0 (dc (k':=2) rfl) rfl ?_;refine nil ?_;refine af (S Fv (S Ld ?_));obtain⟨a6,Z,b⟩:=qT rfl b;refine s0 (dP rfl rfl Z) rfl ?_;refine S Fv (S Ld ?_);obtain⟨m,aa,b⟩:=qT rfl b;refine s0 (dP rfl rfl aa) rfl ?_;refine S As (nil ?_)
 refine af (S Ld (S Fv (S Ld ?_)));obtain⟨j,ab,b⟩:=vT (B9 _ _) b;refine Sc rfl rfl (B_ ab) ?_;refine S Mv (S EX (S EX ?_));refine Sl ?_;refine Sf ?_;refine S As (nil ?_);refine bA 8 _ rfl (KA 3 (KA 5 (KA 7 (KA 9 aY.nil)))) ?_;refine ax fun ad J=>?_;refine af (S Mv (S NB (nil ?_)));refine cE b (fun ae b=>?_) (fun ae b=>?_)
 ·refine af (S Mv (S BU (S BV (S As (nil ?_)))));refine ah.ret ?_;repeat (first|refine bE ?_|refine bF ?_)
  obtain rfl:=oJ b;refine bn.bG H rfl ⟨rfl,rfl⟩ ?_
  first|exact ak.bS w|(simp only [ak.set_set]; exact ak.bS w)
 refine sk J ?_;clear J ad;refine af (S As (nil ?_));refine ah.eH 10 2 g rfl aB ?_;refine aP (TA 5 (TA 7 (TA 8 kN))) (fun(z:(Sl Z6))=>[(10,.a (.d (Sl.d 2 Z6.c (some g) z)))]) (fun z=>(H.set g (some (.tok 2 z.l.length)))) (fun z=>(Option.bind (iF m j i.aF.l z) fun q=>on (q) fun B=>Option.bind (iG i m j.1.aF.l B) fun o=>on (o) fun x=>some x)=some r) ?_ ?_
 ·intro a7 K;refine af (S Ld (S Fv (S Ld (S Fv (S Ld ?_)))));obtain⟨a8,ag,b⟩:=qT (I3 _ _ _) b;refine Sc rfl rfl (I2 ag) ?_;refine S NB (nil ?_);obtain⟨a9,L,b⟩:=bY b;refine cO b (fun al b=>?_) (fun al b=>?_)
  ·refine region ?_;refine S Mv (S Mv (S BU (S BV ?_)));obtain⟨M,an,b⟩:=qO rfl b;refine SH (am Z6.c (TK rfl) rfl (TK rfl) (TK rfl) an) ?_;refine hq (H.set g (some (.tok 2 M.l.length))) ?_;refine S As (nil ?_);have b:=ku L b;exact K _ M wA b
  refine ah.skip ?_;have b:=ku L b;exact K _ (Sl.nil:Sl Z6) wA b
 rintro ao b;try dsimp only at b
 refine aP (TA 5 (TA 7 (TA 8 kN))) (fun(z:(Sl Z6))=>[(10,.a (.d (Sl.d 2 Z6.c (some g) z)))]) (fun z=>(H.set g (some (.tok 2 z.l.length)))) (fun z=>(Option.bind (iG i m j.1.aF.l z) fun o=>on (o) fun x=>some x)=some r) ?_ ?_
 ·intro a_ ap;refine af (S As (nil ?_));refine block ?_;obtain⟨C,ar,b⟩:=bY b;refine bp (TA 5 (TA 7 (TA 8 kN))) (fun(z:(Sl Z6)×Nat)=>[(10,.a (.d (Sl.d 2 Z6.c (some g) z.1))),(11,.a (.d (.int .i64 ((z.2:Nat):Int))))]) (fun z=>(H.set g (some (.tok 2 z.1.l.length)))) (fun z=>i.aF.l.length-z.2) (fun z=>Option.bind (iF m j (i.aF.l.drop z.2) z.1) C=some r) (ao,0) b wA ?_
  rintro ⟨q,t⟩ b a' av;try dsimp only at b
  refine ax fun aw N=>?_;refine af (S Mv (S Fv (S Ld ?_)));refine sLen (f:=Z8.c) (s:=i.aF) (TK rfl) rfl rfl rfl rfl fun ba=>?_;refine S BI (nil ?_);refine ah.bK (fun l=>Option.bind (iF m j l q) C=some r) b rfl (fun bb y E b=>?_) (fun E b=>?_)
  ·rw [iF] at b;try dsimp only at E
   have bc:=oD E;refine sk N ?_;clear N aw;refine aP (TA 5 (TA 7 (TA 8 (TA 11 kN)))) (fun(z:(Sl Z6))=>[(10,.a (.d (Sl.d 2 Z6.c (some g) z)))]) (fun z=>(H.set g (some (.tok 2 z.l.length)))) (fun z=>Option.bind (iF m j (i.aF.l.drop (t+1)) z) C=some r) ?_ ?_
   ·intro bd O;refine block ?_;refine ah.b5 (Sd Fv (Sd Ld (Sd Fv (Sd Ld (Sd Mv ?_)))));obtain⟨be,ay,b⟩:=vO y b;refine Sd (ix Z8.c t ay) (Sd Fv (Sd Ld ?_));obtain⟨bf,az,b⟩:=vO (tP _ _) b;refine ct rfl rfl (tQ az) ?_;refine Sd Mv (Sd EX (Sd EX ?_));refine au.sB (TK rfl) rfl rfl ?_ (by repeat (first|exact bN.nil|apply bN.cons));refine au.dA (eA (TK rfl) rfl rfl rfl rfl rfl) ?_
    refine Sd As ?_;refine au.nil (by decide +kernel) ?_;refine bA 12 _ rfl (KA 5 (KA 7 (KA 8 (KA 10 (KA 11 (KA 13 aY.nil)))))) ?_;refine ah.b5 (Sd Mv (Sd NB (Sd Mv (cD Fv ?_))));refine cM 69 rfl Ld ?_;refine cD Fv ?_;refine cM 71 rfl Ld ?_;refine cD Mv ?_;obtain⟨bg,aA,b⟩:=eB (fun _=>y) b;refine au.gC rfl rfl (fun hC=>aL (k:=72) rfl (aL (k:=73) rfl (dI (f:=Z8.c) (n:=t) (TK rfl) rfl (TK rfl) rfl rfl rfl (aA hC)))) rfl ?_
    refine cM 74 rfl Fv ?_;refine cM 75 rfl Ld ?_;obtain⟨bh,aC,b⟩:=eC (wN _ _) b;refine pe 70 76 rfl rfl rfl rfl rfl rfl (fun hC=>wO (aC hC)) ?_;refine cM 77 rfl NB ?_;refine Sd PO ?_;refine au.nil (by decide +kernel) ?_;obtain⟨bi,P,b⟩:=dZ b;refine cO b (fun aD b=>?_) (fun aD b=>?_)
    ·refine region ?_;refine S Mv (S Mv ?_);obtain⟨bj,aE,b⟩:=qO rfl b;refine s0 (dP rfl rfl aE) rfl ?_;refine S Fv (S Ld (S Mv ?_));obtain⟨bk,aG,b⟩:=vO y b;refine S (ix Z8.c t aG) (S Fv (S Ld ?_));obtain⟨bl,aH,b⟩:=qO rfl b;refine s0 (dP rfl rfl aH) rfl ?_;obtain⟨bm,aI,b⟩:=qO rfl b;refine s0 (dP rfl rfl aI) rfl ?_;refine S BU (S BV ?_);obtain⟨Q,aJ,b⟩:=qO rfl b
     refine SH (am Z6.c (TK rfl) rfl (TK rfl) (TK rfl) aJ) ?_;refine hq (H.set g (some (.tok 2 Q.l.length))) ?_;refine S As (nil ?_);have b:=ku P b;exact O _ Q wA b
    refine ah.skip ?_;have b:=ku P b;exact O _ q wA b
   rintro aK b;try dsimp only at b
   refine region ?_;refine S Mv ?_;refine SI ?_;refine S As (nil ?_);exact av _ (aK,(t+1)) wA b (dl y)
  rw [iF] at b;have b:=ku ar b;refine ah.exit ?_;obtain⟨bo,aM,b⟩:=bT b;have b:=ku aM b;exact ap _ q wA b
 rintro B b;try dsimp only at b
 refine aP kN (fun(z:(Sl Z6))=>[(10,.a (.d (Sl.d 2 Z6.c (some g) z)))]) (fun z=>(H.set g (some (.tok 2 z.l.length)))) (fun z=>(some z)=some r) ?_ ?_
 ·intro bq aN;refine af (S As (nil ?_));refine block ?_;obtain⟨F,aO,b⟩:=bY b;refine bp (TA 5 (TA 7 (TA 8 kN))) (fun(z:(Sl Z6)×Nat)=>[(10,.a (.d (Sl.d 2 Z6.c (some g) z.1))),(14,.a (.d (.int .i64 ((z.2:Nat):Int))))]) (fun z=>(H.set g (some (.tok 2 z.1.l.length)))) (fun z=>j.1.aF.l.length-z.2) (fun z=>Option.bind (iG i m (j.1.aF.l.drop z.2) z.1) F=some r) (B,0) b wA ?_
  rintro ⟨o,p⟩ b br aQ;try dsimp only at b
  refine ax fun aR R=>?_;refine af (S Mv (S Fv (S Ld ?_)));refine sLen (f:=Z8.c) (s:=j.1.aF) (TK rfl) rfl rfl rfl rfl fun bs=>?_;refine S BI (nil ?_);refine ah.bK (fun l=>Option.bind (iG i m l o) F=some r) b rfl (fun bt u G b=>?_) (fun G b=>?_)
  ·rw [iG] at b;try dsimp only at G
   have bu:=oD G;refine sk R ?_;clear R aR;refine aP (TA 5 (TA 7 (TA 8 (TA 14 kN)))) (fun(z:(Sl Z6))=>[(10,.a (.d (Sl.d 2 Z6.c (some g) z)))]) (fun z=>(H.set g (some (.tok 2 z.l.length)))) (fun z=>Option.bind (iG i m (j.1.aF.l.drop (p+1)) z) F=some r) ?_ ?_
   ·intro bv U;refine block ?_;refine ah.b5 (Sd Fv (Sd Ld (Sd Fv (Sd Ld (Sd Mv ?_)))));obtain⟨bw,aS,b⟩:=vO u b;refine Sd (ix Z8.c p aS) (Sd Fv (Sd Ld ?_));obtain⟨bx,aT,b⟩:=vO (tP _ _) b;refine ct rfl rfl (tQ aT) ?_;refine Sd Mv (Sd EX (Sd EX ?_));refine au.sB (TK rfl) rfl rfl ?_ (by repeat (first|exact bN.nil|apply bN.cons));refine au.dA (eA (TK rfl) rfl rfl rfl rfl rfl) ?_
    refine Sd As ?_;refine au.nil (by decide +kernel) ?_;refine bA 15 _ rfl (KA 5 (KA 7 (KA 8 (KA 10 (KA 14 (KA 16 aY.nil)))))) ?_;refine af (S Mv (S NB (S Mv (G0 Fv ?_))));refine G1 116 rfl Ld ?_;refine G0 Mv ?_;obtain⟨bz,aU,b⟩:=eB (fun _=>u) b;refine gC rfl rfl (fun hC=>aL (k:=117) rfl (aL (k:=118) rfl (dI (f:=Z8.c) (n:=p) (TK rfl) rfl (TK rfl) rfl rfl rfl (aU hC)))) rfl ?_
    refine G1 119 rfl Fv ?_;refine G1 120 rfl Ld ?_;obtain⟨bB,aV,b⟩:=eB (fun _=>(nR _)) b;refine c6 121 rfl rfl rfl rfl rfl (fun hC=>nT (aV hC)) ?_;refine S PA (S Mv (G0 Fv ?_));refine G1 125 rfl Ld ?_;refine G0 Mv ?_;obtain⟨bC,aW,b⟩:=eB (fun _=>u) b;refine gC rfl rfl (fun hC=>aL (k:=126) rfl (aL (k:=127) rfl (dI (f:=Z8.c) (n:=p) (TK rfl) rfl (TK rfl) rfl rfl rfl (aW hC)))) rfl ?_
    refine G1 128 rfl Fv ?_;refine G1 129 rfl Ld ?_;refine G1 130 rfl NB ?_;refine S PA (nil ?_);obtain⟨bD,W,b⟩:=dZ b;refine cO b (fun aX b=>?_) (fun aX b=>?_)
    ·refine region ?_;refine S Mv (S Mv ?_);obtain⟨bH,aZ,b⟩:=qO rfl b;refine s0 (dP rfl rfl aZ) rfl ?_;refine S Fv (S Ld (S Mv ?_));obtain⟨bI,a0,b⟩:=vO u b;refine S (ix Z8.c p a0) (S Fv (S Ld ?_));obtain⟨bJ,a1,b⟩:=qO rfl b;refine s0 (dP rfl rfl a1) rfl ?_;obtain⟨bM,a2,b⟩:=qO rfl b;refine s0 (dP rfl rfl a2) rfl ?_;refine S BU (S BV ?_);obtain⟨X,a3,b⟩:=qO rfl b
     refine SH (am Z6.c (TK rfl) rfl (TK rfl) (TK rfl) a3) ?_;refine hq (H.set g (some (.tok 2 X.l.length))) ?_;refine S As (nil ?_);have b:=ku W b;exact U _ X wA b
    refine ah.skip ?_;have b:=ku W b;exact U _ o wA b
   rintro a4 b;try dsimp only at b
   refine region ?_;refine S Mv ?_;refine SI ?_;refine S As (nil ?_);exact aQ _ (a4,(p+1)) wA b (dl u)
  rw [iG] at b;have b:=ku aO b;refine ah.exit ?_;obtain⟨bO,a5,b⟩:=bT b;have b:=ku a5 b;exact aN _ o wA b
 rintro x b;try dsimp only at b
 refine af (S Mv (S As (nil ?_)));refine ah.dm 6 rfl ?_;refine ah.ret ?_;repeat (first|refine bE ?_|refine bF ?_)
 obtain rfl:=oJ b;refine bn.bG H rfl ⟨rfl,rfl⟩ ?_
 first|exact ak.bS w|(simp only [ak.set_set]; exact ak.bS w)
def iH (g:aj) (f:ai):List Z7->(Sl Z6)->Option ((Sl Z6))
 | [],b=>some b
 | i::j,b=>on (i) fun k=>(kP g f k).bind fun l=>(aQ 24 b l).bind fun m=>iH g f (j) m
def jr (i:aj) (b:ai):List Bs->Nat->(Sl Z6)->Option ((Sl Z6))
 | [],j,g=>some g
 | k::o,j,g=>on (k) fun p=>on (nP i p (2:Int)) fun f=>on (bif (decide (f=(0:Int))) then(⟨b.aW.nl,b.aW.l.take j⟩:Sl Bs) else(Sl.nil:Sl Bs)) fun q=>on (bif (decide (f=(0:Int))) then k else([]:Bs)) fun r=>on (bif (decide (f=(0:Int))) then jU q r else false) fun s=>on (bif ((decide (f=(0:Int)))&&s) then((7:Int)) else(f)) fun m=>Option.bind (bif (!decide (m=(0:Int))) then((aQ 24 g (⟨false,[(Z6.mk m b.aa)]⟩:Sl Z6)).bind fun t=>some t) else(on (k) fun u=>on (cU i u) fun v=>Option.bind (iH i b v.1.ay.l g) fun w=>some w)) fun x=>jr i b (o) (j+1) x
def rm (i:aj) (b:ai):Option (Sl Z6):=Option.bind (jr i b b.aW.l 0 (Sl.nil:Sl Z6)) fun f=>on (f) fun g=>some g
def w8 (f:aj) (b:ai):Option (Sl Z6):=rm f b
theorem I6 (a0:aj) (b:ai):w8 a0 b=rm a0 b:=rfl
theorem I7 {m:aj}{g:ai}{r:Sl Z6}(b:w8 m g=some r) (H:ak) :AC Tryz.prog 53 [.agg (aj.c m),.agg (ai.c g)] H fun v h'=>v=.a (.d (Sl.d 2 Z6.c none r))/\h'=H:=by
 unfold w8 rm at b;refine AC.oW 76 [.tmp 4] Tryz.call53 Tryz.func53 ?_;refine ah.tok 2 fun i C=>?_;refine af (S BX (S BX ?_));refine s0 (dc (k':=2) rfl) rfl ?_;refine nil ?_;refine af (S As (nil ?_));refine ah.eH 5 2 i rfl aB ?_;refine aP kN (fun(z:(Sl Z6))=>[(5,.a (.d (Sl.d 2 Z6.c (some i) z)))]) (fun z=>(H.set i (some (.tok 2 z.l.length)))) (fun z=>(some z)=some r) ?_ ?_
 ·intro aM W;refine af (S As (nil ?_));refine block ?_;obtain⟨q,X,b⟩:=bY b;refine bp (TA 2 (TA 3 kN)) (fun(z:(Sl Z6)×Nat)=>[(5,.a (.d (Sl.d 2 Z6.c (some i) z.1))),(6,.a (.d (.int .i64 ((z.2:Nat):Int))))]) (fun z=>(H.set i (some (.tok 2 z.1.l.length)))) (fun z=>g.aW.l.length-z.2) (fun z=>Option.bind (jr m g (g.aW.l.drop z.2) z.2 z.1) q=some r) ((Sl.nil:Sl Z6),0) b wA ?_
  rintro ⟨o,j⟩ b aN Y;try dsimp only at b
  refine ax fun Z E=>?_;refine af (S Mv (S Fv (S Ld ?_)));refine sLen (f:=aI) (s:=g.aW) (TK rfl) rfl rfl rfl rfl fun aO=>?_;refine S BI (nil ?_);refine ah.bK (fun l=>Option.bind (jr m g l j o) q=some r) b rfl (fun ab t x b=>?_) (fun x b=>?_)
  ·rw [jr] at b;try dsimp only at x
   have aR:=oD x;refine sk E ?_;clear E Z;refine aP (TA 2 (TA 3 (TA 6 kN))) (fun(z:(Sl Z6))=>[(5,.a (.d (Sl.d 2 Z6.c (some i) z)))]) (fun z=>(H.set i (some (.tok 2 z.l.length)))) (fun z=>Option.bind (jr m g (g.aW.l.drop (j+1)) (j+1) z) q=some r) ?_ ?_
   ·intro aS F;refine block ?_;refine ah.b5 (Sd Ld (Sd Fv (Sd Ld (Sd Mv ?_))));obtain⟨aT,ad,b⟩:=vO t b;refine Sd (ix aI j ad) (Sd Ld ?_);obtain⟨ae,ag,b⟩:=vO (Ca _ _ _) b;refine ct rfl rfl (Cb ag) ?_;refine Sd As ?_;refine au.nil (by decide +kernel) ?_;refine aP (TA 2 (TA 3 (TA 5 (TA 6 kN)))) (fun(z:Int)=>[(7,.a (.d (.int .i64 z)))]) (fun z=>(H.set i (some (.tok 2 o.l.length)))) (fun z=>Option.bind (Option.bind (bif (!decide (z=(0:Int))) then((aQ 24 o (⟨false,[(Z6.mk z g.aa)]⟩:Sl Z6)).bind fun u=>some u) else(on (ab) fun G=>on (cU m G) fun p=>Option.bind (iH m g p.1.ay.l o) fun w=>some w)) fun y=>jr m g (g.aW.l.drop (j+1)) (j+1) y) q=some r) ?_ ?_
    ·intro aU I;refine ah.b5 (Sd Mv (Sd BI (Sd Mv (cD Fv ?_))));refine cM 28 rfl Ld ?_;refine cD Mv ?_;obtain⟨aV,al,b⟩:=eB (fun _=>(Q.th (by omega))) b;refine au.gC rfl rfl (fun hC=>aL (k:=29) rfl (aL (k:=30) rfl (qY (f:=aI) (l:=none) (r:=(some ((j:Nat):Int))) (TK rfl) rfl (TK rfl) rfl rfl trivial rfl (al hC)))) rfl ?_;refine cD Fv ?_;refine cM 32 rfl Ld ?_
     refine cD Mv ?_;obtain⟨aX,an,b⟩:=eB (fun _=>t) b;refine au.gC rfl rfl (fun hC=>aL (k:=33) rfl (aL (k:=34) rfl (dI (f:=aI) (n:=j) (TK rfl) rfl (TK rfl) rfl rfl rfl (an hC)))) rfl ?_;refine cM 35 rfl Ld ?_;obtain⟨aZ,ao,b⟩:=eB (fun _=>(wJ _ _)) b;refine pe 31 36 rfl rfl rfl rfl rfl rfl (fun hC=>wK (ao hC)) ?_;refine Sd PA ?_;refine au.nil (by decide +kernel) ?_
     obtain⟨a0,J,b⟩:=gT b;refine cP b (fun ap b=>?_) (fun ap b=>?_)
     ·refine region ?_;refine S As (nil ?_);have b:=ku J b;exact I _ (7:Int) wA b
     refine ah.skip ?_;have b:=ku J b;exact I _ ae wA b
    rintro a1 b;try dsimp only at b
    refine ax fun ar K=>?_;refine af (S Mv (S BI (nil ?_)));obtain⟨a2,L,b⟩:=dZ b;refine cO b (fun av b=>?_) (fun av b=>?_)
    ·refine af (S Mv (S Mv (S Fv (S Ld (S BU (S BV ?_))))));obtain⟨u,aw,b⟩:=qO rfl b;refine SH (am Z6.c (TK rfl) rfl (TK rfl) (TK rfl) aw) ?_;refine hq (H.set i (some (.tok 2 u.l.length))) ?_;refine S As (nil ?_);refine ah.exit ?_;have b:=ku L b;exact F _ u wA b
    refine sk K ?_;clear K ar;refine ah.b5 (Sd Ld (Sd Fv (Sd Ld (Sd Mv ?_))));obtain⟨G,az,b⟩:=vO t b;refine Sd (ix aI j az) (Sd Ld ?_);obtain⟨p,aA,b⟩:=vO (iy _ _) b;refine ct rfl rfl (iz aA) ?_;refine Sd Mv (Sd EX (Sd EX ?_));refine au.sB (TK rfl) rfl rfl ?_ (by repeat (first|exact bN.nil|apply bN.cons));refine au.dA (eA (TK rfl) rfl rfl rfl rfl rfl) ?_
    refine Sd As ?_;refine au.nil (by decide +kernel) ?_;refine bA 8 _ rfl (KA 2 (KA 3 (KA 5 (KA 6 aY.nil)))) ?_;refine af (S As (nil ?_));refine block ?_;obtain⟨M,aC,b⟩:=dZ b;refine bp (TA 2 (TA 3 (TA 6 (TA 8 kN)))) (fun(z:(Sl Z6)×Nat)=>[(5,.a (.d (Sl.d 2 Z6.c (some i) z.1))),(10,.a (.d (.int .i64 ((z.2:Nat):Int))))]) (fun z=>(H.set i (some (.tok 2 z.1.l.length)))) (fun z=>p.1.ay.l.length-z.2) (fun z=>Option.bind (iH m g (p.1.ay.l.drop z.2) z.1) M=some r) (o,0) b wA ?_
    rintro ⟨w,N⟩ b a3 aD;try dsimp only at b
    refine ax fun aE O=>?_;refine af (S Mv (S Fv (S Ld ?_)));refine sLen (f:=Z7.c) (s:=p.1.ay) (TK rfl) rfl rfl rfl rfl fun a4=>?_;refine S BI (nil ?_);refine ah.bK (fun l=>Option.bind (iH m g l w) M=some r) b rfl (fun a5 P B b=>?_) (fun B b=>?_)
    ·rw [iH] at b;try dsimp only at B
     have a6:=oD B;refine sk O ?_;clear O aE;refine ax fun aF R=>?_;refine block ?_;refine ah.draw rfl ?_;refine Sd Mv (Sd Ld (Sd Ld (Sd Fv (Sd Ld (Sd Mv ?_)))));obtain⟨a7,aG,b⟩:=vO P b;refine Sd (ix Z7.c N aG) (Sd Ld ?_);obtain⟨a8,aH,b⟩:=qO (I4 _ _ _) b;refine ct rfl rfl (I5 aH) ?_;obtain⟨U,aJ,b⟩:=qO rfl b;refine au.sH (jf (f:=Z6.c) (TK rfl) rfl (TK rfl) (TK rfl) ⟨_,rfl⟩ rfl rfl (by decide) rfl rfl rfl rfl aB rfl aJ) rfl ?_
     refine au.Dh (H.set i (some (.tok 2 U.l.length))) ?_;refine Sd As ?_;refine au.nil (by decide +kernel) ?_;refine R _ ?_;clear R aF;refine region ?_;refine S Mv ?_;refine SI ?_;refine S As (nil ?_);exact aD _ (U,(N+1)) wA b (dl P)
    rw [iH] at b;have b:=ku aC b;refine ah.exit ?_;have b:=ku L b;exact F _ w wA b
   rintro y b;try dsimp only at b
   refine region ?_;refine S Mv ?_;refine SI ?_;refine S As (nil ?_);exact Y _ (y,(j+1)) wA b (dl t)
  rw [jr] at b;have b:=ku X b;refine ah.exit ?_;obtain⟨a9,aK,b⟩:=bT b;have b:=ku aK b;exact W _ o wA b
 rintro a_ b;try dsimp only at b
 refine af (S Mv (S As (nil ?_)));refine ah.dm 4 rfl ?_;refine ah.ret ?_;repeat (first|refine bE ?_|refine bF ?_)
 obtain rfl:=oJ b;refine bn.bG H rfl ⟨rfl,rfl⟩ ?_
 first|exact ak.bS C|(simp only [ak.set_set]; exact ak.bS C)
def js (m:aj) (b:ai):List Z9->Nat->(Sl Z6)->Option ((Sl Z6))
 | [],i,f=>some f
 | o::p,i,f=>on (o) fun j=>on (nP m j.aa (1:Int)) fun g=>on (bif (decide (g=(0:Int))) then(⟨b.aJ.nl,b.aJ.l.take i⟩:Sl Z9) else(Sl.nil:Sl Z9)) fun q=>on (bif (decide (g=(0:Int))) then l_ (ai.mk (0:Int) ([]:Bs) (Sl.nil:Sl Bs) (Sl.nil:Sl av) (Sl.nil:Sl Z7) q (Sl.nil:Sl Z8)) j.aa else false) fun r=>on (bif ((decide (g=(0:Int)))&&r) then((7:Int)) else(g)) fun k=>Option.bind (bif (!decide (k=(0:Int))) then((cr b.aa ([46]:Bs)).bind fun s=>(cr s j.aa).bind fun t=>(aQ 24 f (⟨false,[(Z6.mk k t)]⟩:Sl Z6)).bind fun u=>some u) else(some f)) fun v=>js m b (p) (i+1) v
def rp (i:aj) (b:ai):Option (Sl Z6):=Option.bind (js i b b.aJ.l 0 (Sl.nil:Sl Z6)) fun f=>on (f) fun g=>some g
def w9 (f:aj) (b:ai):Option (Sl Z6):=rp f b
theorem I8 (a0:aj) (b:ai):w9 a0 b=rp a0 b:=rfl
theorem I9 {o:aj}{g:ai}{r:Sl Z6}(b:w9 o g=some r) (H:ak) :AC Tryz.prog 54 [.agg (aj.c o),.agg (ai.c g)] H fun v h'=>v=.a (.d (Sl.d 2 Z6.c none r))/\h'=H:=by
 unfold w9 rp at b;refine AC.oW 49 [.tmp 4] Tryz.call54 Tryz.func54 ?_;refine ah.tok 2 fun i w=>?_;refine af (S BX (S BX ?_));refine s0 (dc (k':=2) rfl) rfl ?_;refine nil ?_;refine af (S As (nil ?_));refine ah.eH 5 2 i rfl aB ?_;refine aP kN (fun(z:(Sl Z6))=>[(5,.a (.d (Sl.d 2 Z6.c (some i) z)))]) (fun z=>(H.set i (some (.tok 2 z.l.length)))) (fun z=>(some z)=some r) ?_ ?_
 ·intro ag J;refine af (S As (nil ?_));refine block ?_;obtain⟨p,K,b⟩:=bY b;refine bp (TA 2 (TA 3 kN)) (fun(z:(Sl Z6)×Nat)=>[(5,.a (.d (Sl.d 2 Z6.c (some i) z.1))),(6,.a (.d (.int .i64 ((z.2:Nat):Int))))]) (fun z=>(H.set i (some (.tok 2 z.1.l.length)))) (fun z=>g.aJ.l.length-z.2) (fun z=>Option.bind (js o g (g.aJ.l.drop z.2) z.2 z.1) p=some r) ((Sl.nil:Sl Z6),0) b wA ?_
  rintro ⟨m,j⟩ b al L;try dsimp only at b
  refine ax fun M x=>?_;refine af (S Mv (S Fv (S Ld ?_)));refine sLen (f:=Z9.c) (s:=g.aJ) (TK rfl) rfl rfl rfl rfl fun an=>?_;refine S BI (nil ?_);refine ah.bK (fun l=>Option.bind (js o g l j m) p=some r) b rfl (fun ao y t b=>?_) (fun t b=>?_)
  ·rw [js] at b;try dsimp only at t
   have ap:=oD t;refine sk x ?_;clear x M;refine aP (TA 2 (TA 3 (TA 6 kN))) (fun(z:(Sl Z6))=>[(5,.a (.d (Sl.d 2 Z6.c (some i) z)))]) (fun z=>(H.set i (some (.tok 2 z.l.length)))) (fun z=>Option.bind (js o g (g.aJ.l.drop (j+1)) (j+1) z) p=some r) ?_ ?_
   ·intro ar B;refine block ?_;refine af (S Fv (S Ld (S Mv ?_)));obtain⟨N,O,b⟩:=vO y b;refine S (ix Z9.c j O) (S Fv (S Ld (S As (nil ?_))));refine af (S Ld (S Mv ?_));obtain⟨P,R,b⟩:=vO (Ca _ _ _) b;refine Sc rfl rfl (Cb R) ?_;refine S As (nil ?_);refine aP (TA 2 (TA 3 (TA 5 (TA 6 (TA 7 kN))))) (fun(z:Int)=>[(8,.a (.d (.int .i64 z)))]) (fun z=>(H.set i (some (.tok 2 m.l.length)))) (fun z=>Option.bind (Option.bind (bif (!decide (z=(0:Int))) then((cr g.aa ([46]:Bs)).bind fun C=>(cr C N.aa).bind fun E=>(aQ 24 m (⟨false,[(Z6.mk z E)]⟩:Sl Z6)).bind fun q=>some q) else(some m)) fun u=>js o g (g.aJ.l.drop (j+1)) (j+1) u) p=some r) ?_ ?_
    ·intro au F;refine af (S Mv (S BI (S Mv (G0 Fv ?_))));refine G1 28 rfl Ld ?_;refine G0 Mv ?_;obtain⟨av,U,b⟩:=eB (fun _=>(Q.th (by omega))) b;refine gC rfl rfl (fun hC=>aL (k:=29) rfl (aL (k:=30) rfl (qY (f:=Z9.c) (l:=none) (r:=(some ((j:Nat):Int))) (TK rfl) rfl (TK rfl) rfl rfl trivial rfl (U hC)))) rfl ?_;refine G1 31 rfl BU ?_;refine G0 Mv ?_;obtain⟨aw,W,b⟩:=eB (fun _=>(Ce _ _)) b
     refine fu 32 33 rfl rfl rfl rfl rfl rfl (fun hC=>Cf (W hC)) ?_;refine S PA (nil ?_);obtain⟨ay,G,b⟩:=gT b;refine cP b (fun X b=>?_) (fun X b=>?_)
     ·refine region ?_;refine S As (nil ?_);have b:=ku G b;exact F _ (7:Int) wA b
     refine ah.skip ?_;have b:=ku G b;exact F _ P wA b
    rintro az b;try dsimp only at b
    refine af (S Mv (S BI (nil ?_)));obtain⟨aA,I,b⟩:=dZ b;refine cO b (fun Y b=>?_) (fun Y b=>?_)
    ·refine region ?_;refine S Mv (S Mv (S Fv (S Ld ?_)));obtain⟨C,Z,b⟩:=qO rfl b;refine s0 (dP rfl rfl Z) rfl ?_;refine S Mv ?_;obtain⟨E,ab,b⟩:=qO rfl b;refine s0 (dP rfl rfl ab) rfl ?_;refine S BU (S BV ?_);obtain⟨q,ad,b⟩:=qO rfl b;refine SH (am Z6.c (TK rfl) rfl (TK rfl) (TK rfl) ad) ?_;refine hq (H.set i (some (.tok 2 q.l.length))) ?_;refine S As (nil ?_);have b:=ku I b
     exact B _ q wA b
    refine ah.skip ?_;have b:=ku I b;exact B _ m wA b
   rintro u b;try dsimp only at b
   refine region ?_;refine S Mv ?_;refine SI ?_;refine S As (nil ?_);exact L _ (u,(j+1)) wA b (dl y)
  rw [js] at b;have b:=ku K b;refine ah.exit ?_;obtain⟨aC,ae,b⟩:=bT b;have b:=ku ae b;exact J _ m wA b
 rintro aD b;try dsimp only at b
 refine af (S Mv (S As (nil ?_)));refine ah.dm 4 rfl ?_;refine ah.ret ?_;repeat (first|refine bE ?_|refine bF ?_)
 obtain rfl:=oJ b;refine bn.bG H rfl ⟨rfl,rfl⟩ ?_
 first|exact ak.bS w|(simp only [ak.set_set]; exact ak.bS w)
def jW (g:aj):List ai->(Sl Z6)->Option ((Sl Z6))
 | [],b=>some b
 | f::j,b=>on (f) fun i=>Option.bind (bif (decide (i.ar=(1:Int))) then(on (f) fun k=>(rm g k).bind fun l=>(aQ 24 b l).bind fun m=>some m) else(bif (decide (i.ar=(3:Int))) then(on (f) fun o=>(rp g o).bind fun p=>(aQ 24 b p).bind fun q=>some q) else(some b))) fun r=>jW g (j) r
def pP (b:aj):Option (Sl Z6):=Option.bind (jW b b.an.l (Sl.nil:Sl Z6)) fun f=>on (f) fun g=>some g
def w_ (b:aj):Option (Sl Z6):=pP b
theorem I_ (a0:aj):w_ a0=pP a0:=rfl
theorem Ja {i:aj}{r:Sl Z6}(b:w_ i=some r) (H:ak) :AC Tryz.prog 28 [.agg (aj.c i)] H fun v h'=>v=.a (.d (Sl.d 2 Z6.c none r))/\h'=H:=by
 unfold w_ pP at b;refine AC.oW 41 [.tmp 2] Tryz.call28 Tryz.func28 ?_;refine ah.tok 2 fun g u=>?_;refine af (S BX ?_);refine s0 (dc (k':=2) rfl) rfl ?_;refine nil ?_;refine af (S As (nil ?_));refine ah.eH 3 2 g rfl aB ?_;refine aP kN (fun(z:(Sl Z6))=>[(3,.a (.d (Sl.d 2 Z6.c (some g) z)))]) (fun z=>(H.set g (some (.tok 2 z.l.length)))) (fun z=>(some z)=some r) ?_ ?_
 ·intro U B;refine af (S As (nil ?_));refine block ?_;obtain⟨m,C,b⟩:=bY b;refine bp (TA 1 kN) (fun(z:(Sl Z6)×Nat)=>[(3,.a (.d (Sl.d 2 Z6.c (some g) z.1))),(4,.a (.d (.int .i64 ((z.2:Nat):Int))))]) (fun z=>(H.set g (some (.tok 2 z.1.l.length)))) (fun z=>i.an.l.length-z.2) (fun z=>Option.bind (jW i (i.an.l.drop z.2) z.1) m=some r) ((Sl.nil:Sl Z6),0) b wA ?_
  rintro ⟨o,j⟩ b W E;try dsimp only at b
  refine ax fun F w=>?_;refine af (S Mv (S Fv (S Ld ?_)));refine sLen (f:=ai.c) (s:=i.an) (TK rfl) rfl rfl rfl rfl fun X=>?_;refine S BI (nil ?_);refine ah.bK (fun l=>Option.bind (jW i l o) m=some r) b rfl (fun Y k p b=>?_) (fun p b=>?_)
  ·rw [jW] at b;try dsimp only at p
   have Z:=oD p;refine sk w ?_;clear w F;refine aP (TA 1 (TA 4 kN)) (fun(z:(Sl Z6))=>[(3,.a (.d (Sl.d 2 Z6.c (some g) z)))]) (fun z=>(H.set g (some (.tok 2 z.l.length)))) (fun z=>Option.bind (jW i (i.an.l.drop (j+1)) z) m=some r) ?_ ?_
   ·intro aa q;refine block ?_;refine af (S Fv (S Ld (S Mv ?_)));obtain⟨ab,G,b⟩:=vO k b;refine S (ix ai.c j G) (S Fv (S Ld (nil ?_)));refine block ?_;refine af (S BI (S As (nil ?_)));obtain⟨ad,t,b⟩:=dZ b;refine cO b (fun I b=>?_) (fun I b=>?_)
    ·refine ah.draw rfl ?_;refine Sd Mv (Sd Ld (Sd Fv (Sd Ld (Sd Mv ?_))));obtain⟨ae,J,b⟩:=vO k b;refine Sd (ix ai.c j J) (Sd Ld ?_);obtain⟨ag,K,b⟩:=qO (I6 _ _) b;refine ct rfl rfl (I7 K) ?_;obtain⟨x,L,b⟩:=qO rfl b;refine au.sH (jf (f:=Z6.c) (TK rfl) rfl (TK rfl) (TK rfl) ⟨_,rfl⟩ rfl rfl (by decide) rfl rfl rfl rfl aB rfl L) rfl ?_;refine au.Dh (H.set g (some (.tok 2 x.l.length))) ?_
     refine Sd As ?_;refine au.nil (by decide +kernel) ?_;have b:=ku t b;exact q _ x wA b
    refine af (S BI (S As (nil ?_)));refine cO b (fun M b=>?_) (fun M b=>?_)
    ·refine ah.draw rfl ?_;refine Sd Mv (Sd Ld (Sd Fv (Sd Ld (Sd Mv ?_))));obtain⟨al,N,b⟩:=vO k b;refine Sd (ix ai.c j N) (Sd Ld ?_);obtain⟨am,O,b⟩:=qO (I8 _ _) b;refine ct rfl rfl (I9 O) ?_;obtain⟨y,P,b⟩:=qO rfl b;refine au.sH (jf (f:=Z6.c) (TK rfl) rfl (TK rfl) (TK rfl) ⟨_,rfl⟩ rfl rfl (by decide) rfl rfl rfl rfl aB rfl P) rfl ?_;refine au.Dh (H.set g (some (.tok 2 y.l.length))) ?_
     refine Sd As ?_;refine au.nil (by decide +kernel) ?_;have b:=ku t b;exact q _ y wA b
    refine ah.skip ?_;have b:=ku t b;exact q _ o wA b
   rintro Q b;try dsimp only at b
   refine region ?_;refine S Mv ?_;refine SI ?_;refine S As (nil ?_);exact E _ (Q,(j+1)) wA b (dl k)
  rw [jW] at b;have b:=ku C b;refine ah.exit ?_;obtain⟨ao,R,b⟩:=bT b;have b:=ku R b;exact B _ o wA b
 rintro ap b;try dsimp only at b
 refine af (S Mv (S As (nil ?_)));refine ah.dm 2 rfl ?_;refine ah.ret ?_;repeat (first|refine bE ?_|refine bF ?_)
 obtain rfl:=oJ b;refine bn.bG H rfl ⟨rfl,rfl⟩ ?_
 first|exact ak.bS u|(simp only [ak.set_set]; exact ak.bS u)
def jt (f:ag->Option ag):List ag->(Sl ag)->Option ((Sl ag))
 | [],b=>some b
 | g::i,b=>on (g) fun j=>(f j).bind fun k=>(aQ 80 b (⟨false,[k]⟩:Sl ag)).bind fun l=>jt f (i) l
mutual
def fR:Nat->ag->Option ag
 | 0,_=>none
 | n+1,b=>((nV n) b.aN).bind fun f=>(aQ 16 (⟨false,[]⟩:Sl Bs) b.a_).bind fun g=>some (ag.mk b.ar b.bx b.bw f.nl f.l g)
def nV:Nat->(Sl ag)->Option (Sl ag)
 | 0,_=>none
 | n+1,g=>Option.bind (jt (fR n) g.l (Sl.nil:Sl ag)) fun b=>on (b) fun f=>some f
end
def tS (n:Nat):Prop:=∀{a0:ag}   {r:ag},fR n a0=some r->∀(H:ak),AC Tryz.prog 173 [.agg (ag.c a0)] H fun v h'=>v=.a (.agg (ag.c r))/\h'=H
def tT (n:Nat):Prop:=∀{a0:(Sl ag)}{w0:Option Nat}  {r:(Sl ag)},nV n a0=some r->∀(H:ak),AC Tryz.prog 186 [.d (Sl.d 5 ag.c w0 a0)] H fun v h'=>v=.a (.d (Sl.d 5 ag.c none r))/\h'=H
theorem Jb (n:Nat) (s:tS (az:=az) n) (k:tT (az:=az) n):tS (az:=az) (n+1):=by
 intro g   r b H;rw [fR] at b;refine AC.oW 17 [.cell 2 61] Tryz.call173 Tryz.func173 ?_;refine af (S BX ?_);refine Sl ?_;refine nil ?_;refine ah.b5 (Sd Fv (Sd Ld (Sd Fv (Sd Ld (Sd Fv (Sd Ld (Sd Fv ?_)))))));refine au.s0 (dH (TK rfl) rfl rfl (congrArg (fun x=>some (A.d x)) (ag.dB _))) rfl ?_;obtain⟨i,m,b⟩:=qT rfl b;refine ct rfl rfl (k m) ?_;refine au.s0 (nF (TK rfl) rfl (TK rfl) rfl rfl rfl rfl rfl rfl) rfl ?_
 refine Sd Fv (Sd Ld ?_);obtain⟨o,p,b⟩:=qT rfl b;refine au.s0 (qZ (f:=aI) (TK rfl) rfl (TK rfl) (TK rfl) ⟨_,rfl⟩ rfl rfl (by decide) rfl rfl rfl (by intro q h; cases h<;>decide) rfl rfl p) rfl ?_;refine Sd BU ?_;refine au.dA (eA (TK rfl) rfl rfl rfl rfl rfl) ?_;refine au.nil (by decide +kernel) ?_;refine ah.cV 0 (ag.c (ag.mk g.ar g.bx g.bw i.nl i.l o)) rfl (fun j w cs hh hx=>by rw [ag.l8]; exact hx) ?_
 exact rt b
theorem Jc (n:Nat) (w:tS (az:=az) n) (K:tT (az:=az) n):tT (az:=az) (n+1):=by
 intro j w0  r b H;rw [nV] at b;refine AC.oW 20 [.tmp 2] Tryz.call186 Tryz.func186 ?_;refine ah.tok 5 fun g k=>?_;refine af ?_;refine s0 (dc (k':=5) rfl) rfl ?_;refine nil ?_;refine af (S As (nil ?_));refine ah.eH 3 5 g rfl aB ?_;refine aP kN (fun(z:(Sl ag))=>[(3,.a (.d (Sl.d 5 ag.c (some g) z)))]) (fun z=>(H.set g (some (.tok 5 z.l.length)))) (fun z=>(some z)=some r) ?_ ?_
 ·intro L x;refine af (S As (nil ?_));refine block ?_;obtain⟨m,y,b⟩:=bY b;refine bp (TA 0 kN) (fun(z:(Sl ag)×Nat)=>[(3,.a (.d (Sl.d 5 ag.c (some g) z.1))),(4,.a (.d (.int .i64 ((z.2:Nat):Int))))]) (fun z=>(H.set g (some (.tok 5 z.1.l.length)))) (fun z=>j.l.length-z.2) (fun z=>Option.bind (jt (fR n) (j.l.drop z.2) z.1) m=some r) ((Sl.nil:Sl ag),0) b wA ?_
  rintro ⟨o,p⟩ b M B;try dsimp only at b
  refine ax fun C q=>?_;refine af (S Mv (S Mv ?_));refine sLen (f:=ag.c) (s:=j) (TK rfl) rfl rfl rfl rfl fun N=>?_;refine S BI (nil ?_);refine ah.bK (fun l=>Option.bind (jt (fR n) l o) m=some r) b rfl (fun O t i b=>?_) (fun i b=>?_)
  ·rw [jt] at b;try dsimp only at i
   have P:=oD i;refine sk q ?_;clear q C;refine ax fun E u=>?_;refine block ?_;refine region ?_;refine S Mv (S Mv (S Mv ?_));obtain⟨Q,F,b⟩:=vO t b;refine S (ix ag.c p F) (S Ld ?_);obtain⟨R,G,b⟩:=qO rfl b;refine Sc rfl rfl (w G) ?_;refine S BV ?_;obtain⟨v,I,b⟩:=qO rfl b;refine SH (am ag.c (TK rfl) rfl (TK rfl) (TK rfl) I) ?_
   refine hq (H.set g (some (.tok 5 v.l.length))) ?_;refine S As (nil ?_);refine u _ ?_;clear u E;refine region ?_;refine S Mv ?_;refine SI ?_;refine S As (nil ?_);exact B _ (v,(p+1)) wA b (dl t)
  rw [jt] at b;have b:=ku y b;refine ah.exit ?_;obtain⟨U,J,b⟩:=bT b;have b:=ku J b;exact x _ o wA b
 rintro W b;try dsimp only at b
 refine af (S Mv (S As (nil ?_)));refine ah.dm 2 rfl ?_;refine ah.ret ?_;repeat (first|refine bE ?_|refine bF ?_)
 obtain rfl:=oJ b;refine bn.bG H rfl ⟨rfl,rfl⟩ ?_
 first|exact ak.bS k|(simp only [ak.set_set]; exact ak.bS k)
theorem rq:∀(n:Nat),(tS (az:=az) n)/\(tT (az:=az) n)
 | 0=>⟨fun b=>by first|cases b|(rw [fR] at b; cases b),fun b=>by first|cases b|(rw [nV] at b; cases b)⟩
 | n+1=>⟨Jb n (rq n).1 (rq n).2,Jc n (rq n).1 (rq n).2⟩
def Ci (a0:ag):Option ag:=fR F0 a0
theorem Jd {b r:ag}(f:Ci b=some r) (H:ak) :AC Tryz.prog 173 [.agg (ag.c b)] H fun v h'=>v=.a (.agg (ag.c r))/\h'=H:=(rq F0).1 f H 
def xa (b:ag):Option ag:=fR F0 b
theorem Je (a0:ag):Ci a0=xa a0:=rfl
def iI (f:ag) (g:Bs):List Bs->Nat->Option (Unit ⊕ ((ag×Bool)))
 | [],b=>some (Sum.inl ())
 | i::j,b=>on (i) fun k=>bif ((k==g)) then(bif (decide (((f.aN.l.length:Nat):Int)<=((b:Nat):Int))) then(some (Sum.inr ((ag.mk (0:Int) (0:Int) ([]:Bs) true ([]) (Sl.nil:Sl Bs)),false))) else((f.aN.l[b]?).bind fun m=>(xa m).bind fun o=>some (Sum.inr (o,true)))) else(iI f g (j) (b+1) )
def iJ (b:ag) (f:Bs):Option (ag×Bool):=bif (!decide (b.ar=(6:Int))) then(some ((ag.mk (0:Int) (0:Int) ([]:Bs) true ([]) (Sl.nil:Sl Bs)),false)) else(Option.bind (iI b f b.a_.l 0 ) fun g=>match g with|Sum.inl _=>(on (()) fun _=>some ((ag.mk (0:Int) (0:Int) ([]:Bs) true ([]) (Sl.nil:Sl Bs)),false))|Sum.inr i=>(some i))
def xb (f:ag) (b:Bs):Option (ag×Bool):=iJ f b
theorem xd (a0:ag) (b:Bs):xb a0 b=iJ a0 b:=rfl
theorem xe {g:ag}{i:Bs}{r:ag×Bool}(b:xb g i=some r) (H:ak) :AC Tryz.prog 158 [.agg (ag.c g),.d (.str i)] H fun v h'=>v=.dz [.agg (ag.c r.1),.d (.bool r.2)]/\h'=H:=by
 unfold xb iJ at b;refine AC.oW 38 [.cell 4 61,.tmp 5] Tryz.call158 Tryz.func158 ?_;refine af (S BX ?_);refine Sl ?_;refine S As (nil ?_);refine ax fun B o=>?_;refine af (S Fv (S Ld (S BI (nil ?_))));refine cE b (fun C b=>?_) (fun C b=>?_)
 ·refine af (S BU ?_);refine Sf ?_;refine S As (nil ?_);exact rt b
 refine sk o ?_;clear o B;refine ez (TA 4 kN) (fun(z:ag)=>[]) (fun z=>[ag.c z]) (fun z=>H) (fun z=>(some ((ag.mk (0:Int) (0:Int) ([]:Bs) true ([]) (Sl.nil:Sl Bs)),false))=some r) ?_ ?_
 ·intro Q E;refine af (S As (nil ?_));refine block ?_;obtain⟨p,k,b⟩:=bY b;refine fK (TA 1 (TA 2 (TA 4 kN))) (fun(z:Nat×ag)=>[(6,.a (.d (.int .i64 ((z.1:Nat):Int))))]) (fun z=>[ag.c z.2]) (fun z=>H) (fun z=>g.a_.l.length-z.1) (fun z=>Option.bind (iI g i (g.a_.l.drop z.1) z.1 ) p=some r) (0,ag.zero) b wA ?_;rintro ⟨j,q⟩ b R F;try dsimp only at b
  refine ax fun G t=>?_;refine af (S Mv (S Fv (S Ld ?_)));refine sLen (f:=aI) (s:=g.a_) (TK rfl) rfl rfl rfl rfl fun U=>?_;refine S BI (nil ?_);refine ah.bK (fun l=>Option.bind (iI g i l j ) p=some r) b rfl (fun W u m b=>?_) (fun m b=>?_)
  ·rw [iI] at b;try dsimp only at m
   have X:=oD m;refine sk t ?_;clear t G;refine ax fun I w=>?_;refine block ?_;refine af (S Fv (S Ld (S Mv ?_)));obtain⟨Y,J,b⟩:=vO u b;refine S (ix aI j J) (S Ld (S Mv (S BS (nil ?_))));refine cO b (fun K b=>?_) (fun K b=>?_)
   ·refine ax fun L y=>?_;refine af (S Mv (S Fv ?_));refine s0 (dH (TK rfl) rfl rfl (congrArg (fun x=>some (A.d x)) (ag.dB _))) rfl ?_;refine sLen (f:=ag.c) (s:=g.aN) (TK rfl) rfl rfl rfl rfl fun Z=>?_;refine S BI (nil ?_);refine cO b (fun M b=>?_) (fun M b=>?_)
    ·refine af (S BU ?_);refine Sf ?_;refine S As (nil ?_);refine ah.ret ?_;repeat (first|refine bE ?_|refine bF ?_)
     have b:=ku k b;obtain rfl:=oJ b;refine bn.bG H rfl ⟨rfl,rfl⟩ ?_;exact(fun _ _ h=>h)
    refine sk y ?_;clear y L;refine af (S Fv ?_);refine s0 (dH (TK rfl) rfl rfl (congrArg (fun x=>some (A.d x)) (ag.dB _))) rfl ?_;refine S Mv ?_;obtain⟨aa,N,b⟩:=qO rfl b;refine S (ix ag.c j N) (S Ld ?_);obtain⟨ab,O,b⟩:=qO (Je _) b;refine Sc rfl rfl (Jd O) ?_;refine Sf ?_;refine S As (nil ?_);refine ah.ret ?_;repeat (first|refine bE ?_|refine bF ?_)
    have b:=ku k b;obtain rfl:=oJ b;refine bn.bG H rfl ⟨rfl,rfl⟩ ?_;exact(fun _ _ h=>h)
   refine sk w ?_;clear w I;refine region ?_;refine S Mv ?_;refine SI ?_;refine S As (nil ?_);exact F _ ((j+1),q) wA b (dl u)
  rw [iI] at b;have b:=ku k b;try dsimp only at b
  refine ah.exit ?_;obtain⟨ad,P,b⟩:=bT b;have b:=ku P b;exact E _ q wA b
 rintro ae b;try dsimp only at b
 refine af (S BU ?_);refine Sf ?_;refine S As (nil ?_);exact rt b
def jv (f:Z4) (b:ag):Option Bool:=bif ((!f.c7)||(!decide (b.ar=(7:Int)))) then(some false) else((iJ f.dW b.bw).bind fun g=>some (!g.2))
def xf (f:Z4) (b:ag):Option Bool:=jv f b
theorem Cj (a0:Z4) (b:ag):xf a0 b=jv a0 b:=rfl
theorem Ck {j:Z4}{f:ag}{g:Nat}{r:Bool}(b:xf j f=some r) (H:ak) (o:H g=some (.cells (Z4.c j))):AC Tryz.prog 126 [.d (.ptr g 0),.agg (ag.c f)] H fun v h'=>v=.a (.d (.bool r))/\h'=H:=by
 unfold xf jv at b;refine AC.oW 29 [.tmp 4] Tryz.call126 Tryz.func126 ?_;refine af (S BX (S As (nil ?_)));refine ax fun k i=>?_;refine af (S Mv (S NP ?_));refine s0 (bP (TK rfl) rfl rfl (TK rfl) rfl rfl) rfl ?_;refine s0 (b7 (TK rfl) rfl rfl aB rfl) rfl ?_;refine S NB (S Mv (G0 Fv ?_));refine G1 13 rfl Ld ?_;refine G1 14 rfl BI ?_;refine S PO (nil ?_);refine cE b (fun l b=>?_) (fun l b=>?_)
 ·refine af (S As (nil ?_));exact rt b
 refine sk i ?_;clear i k;refine ah.b5 (Sd Mv (Sd NP ?_));refine au.s0 (bP (TK rfl) rfl rfl (TK rfl) rfl rfl) rfl ?_;refine au.s0 (b7 (TK rfl) rfl rfl aB rfl) rfl ?_;refine Sd Fv (Sd Ld ?_);obtain⟨p,m,b⟩:=qT (xd _ _) b;refine ct rfl rfl (xe m) ?_;refine Sd Mv (Sd EX (Sd EX ?_));refine au.sB (TK rfl) rfl rfl ?_ (by repeat (first|exact bN.nil|apply bN.cons))
 refine au.dA (eA (TK rfl) rfl rfl rfl rfl rfl) ?_;refine Sd As ?_;refine au.nil (by decide +kernel) ?_;refine bA 5 _ rfl (KA 6 aY.nil) ?_;refine af (S Mv (S NB (S As (nil ?_))));exact rt b
def dK (b:Z4) (f:Int):Z4:=bif (decide (b.b6=(0:Int))) then((Z4.mk b.Fd b.dW b.c7 b.de f)) else(b)
def xg (f:Z4) (b:Int):Option Z4:=some (dK f b)
theorem kQ (a0:Z4) (b:Int):xg a0 b=some (dK a0 b):=rfl
theorem kR {b:Z4}{i:Int}{f:Nat}{r:Z4}(g:xg b i=some r) (H:ak) (k:H f=some (.cells (Z4.c b))):AC Tryz.prog 174 [.d (.ptr f 0),.d (.int .i64 i)] H fun v h'=>v=.dz []/\h'=(H.set f (some (.cells (Z4.c r)))):=by
 unfold xg dK at g;refine AC.oW 13 [] Tryz.call174 Tryz.func174 ?_;refine ah.dQ (h':=(H.set f (some (.cells (Z4.c b))))) (by funext n_; simp only [ak.set]; (repeat' split)<;>simp_all) ?_;refine af (S Mv (S NP ?_));refine s0 (bP (TK rfl) rfl rfl (TK rfl) rfl rfl) rfl ?_;refine s0 (b7 (TK rfl) rfl rfl aB rfl) rfl ?_;refine S BI (nil ?_);refine cP g (fun j g=>?_) (fun j g=>?_)
 ·refine region ?_;refine S Mv (S Mv (S NP ?_));refine s0 (bP (TK rfl) rfl rfl (TK rfl) rfl rfl) rfl ?_;refine eR (gj (TK rfl) rfl rfl aB rfl (by repeat (first|exact bL.zero|apply bL.succ))) rfl rfl ?_;refine hq (H.set f (some (.cells (Z4.c (Z4.mk b.Fd b.dW b.c7 b.de i))))) ?_;refine nil ?_;repeat (first|refine gP ?_|refine gN ?_|refine gM ?_)
  obtain rfl:=oJ g;refine bn.gQ (H.set f (some (.cells (Z4.c (Z4.mk b.Fd b.dW b.c7 b.de i))))) (xs:=[]) rfl ⟨rfl,rfl⟩ ?_;exact(fun _ _ h=>h)
 refine ah.skip ?_;repeat (first|refine gP ?_|refine gN ?_|refine gM ?_)
 obtain rfl:=oJ g;refine bn.gQ (H.set f (some (.cells (Z4.c b)))) (xs:=[]) rfl ⟨rfl,rfl⟩ ?_;exact(fun _ _ h=>h)
def gX (g:Z4) (i:Int):Option Z4:=on (bif (decide ((24:Int)<i)) then(on (dK g (5:Int)) fun j=>j) else(g)) fun b=>(cA b.de (1:Int)).bind fun f=>bif (decide ((4096:Int)<f)) then(on (dK (Z4.mk b.Fd b.dW b.c7 f b.b6) (4:Int)) fun k=>some k) else(some (Z4.mk b.Fd b.dW b.c7 f b.b6))
def xh (f:Z4) (b:Int):Option Z4:=gX f b
theorem Cl (a0:Z4) (b:Int):xh a0 b=gX a0 b:=rfl
theorem Cm {i:Z4}{j:Int}{f:Nat}{r:Z4}(b:xh i j=some r) (H:ak) (y:H f=some (.cells (Z4.c i))):AC Tryz.prog 176 [.d (.ptr f 0),.d (.int .i64 j)] H fun v h'=>v=.dz []/\h'=(H.set f (some (.cells (Z4.c r)))):=by
 unfold xh gX at b;refine AC.oW 22 [] Tryz.call176 Tryz.func176 ?_;refine ah.dQ (h':=(H.set f (some (.cells (Z4.c i))))) (by funext n_; simp only [ak.set]; (repeat' split)<;>simp_all) ?_;obtain⟨p,q,b⟩:=bT b;refine aP (TA 0 kN) (fun(z:Z4)=>[]) (fun z=>(H.set f (some (.cells (Z4.c z))))) (fun z=>p z=some r) ?_ ?_
 ·intro B k;refine af (S Mv (S BI (nil ?_)));refine cP b (fun s b=>?_) (fun s b=>?_)
  ·refine region ?_;refine S Mv ?_;obtain⟨l,t,b⟩:=vP (kQ _ _) b;refine sH (bU rfl rfl (kR t _ aB)) rfl ?_;refine hq (H.set f (some (.cells (Z4.c l)))) ?_;refine nil ?_;exact k _ l wA b
  refine ah.skip ?_;exact k _ i wA b
 rintro g b;try dsimp only at b
 have b:=ku q b;refine af (S Mv (S NP ?_));refine s0 (bP (TK rfl) rfl rfl (TK rfl) rfl rfl) rfl ?_;refine s0 (b7 (TK rfl) rfl rfl aB rfl) rfl ?_;obtain⟨m,u,b⟩:=qT rfl b;refine s0 (eL rfl rfl u) rfl ?_;refine S NP ?_;refine s0 (bP (TK rfl) rfl rfl (TK rfl) rfl rfl) rfl ?_;refine eR (gj (TK rfl) rfl rfl aB rfl (by repeat (first|exact bL.zero|apply bL.succ))) rfl rfl ?_
 refine hq (H.set f (some (.cells (Z4.c (Z4.mk g.Fd g.dW g.c7 m g.b6))))) ?_;refine nil ?_;refine af (S Mv (S NP ?_));refine s0 (bP (TK rfl) rfl rfl (TK rfl) rfl rfl) rfl ?_;refine s0 (b7 (TK rfl) rfl rfl aB rfl) rfl ?_;refine S BI (nil ?_);refine cE b (fun w b=>?_) (fun w b=>?_)
 ·refine region ?_;refine S Mv ?_;obtain⟨o,x,b⟩:=vT (kQ _ _) b;refine sH (bU rfl rfl (kR x _ aB)) rfl ?_;refine hq (H.set f (some (.cells (Z4.c o)))) ?_;refine nil ?_;repeat (first|refine gP ?_|refine gN ?_|refine gM ?_)
  obtain rfl:=oJ b;refine bn.gQ (H.set f (some (.cells (Z4.c o)))) (xs:=[]) rfl ⟨rfl,rfl⟩ ?_;exact(fun _ _ h=>h)
 refine ah.skip ?_;repeat (first|refine gP ?_|refine gN ?_|refine gM ?_)
 obtain rfl:=oJ b;refine bn.gQ (H.set f (some (.cells (Z4.c (Z4.mk g.Fd g.dW g.c7 m g.b6))))) (xs:=[]) rfl ⟨rfl,rfl⟩ ?_;exact(fun _ _ h=>h)
def nW (k:Int) (g:Z4->ag->Int->Option (ag×Z4)):List ag->Z4->ag->Option ((Z4×ag))
 | [],f,b=>some (f,b)
 | m::o,f,b=>bif (decide (f.b6=(0:Int))) then(on (m) fun p=>(cA k (1:Int)).bind fun q=>(g f p q).bind fun i=>(aQ 80 b.aN (⟨false,[i.1]⟩:Sl ag)).bind fun j=>nW k g (o) i.2 (ag.mk b.ar b.bx b.bw j.nl j.l b.a_)) else(some (f,b))
def mc:Nat->Z4->ag->Int->Option (ag×Z4)
 | 0,_,_,_=>none
 | n+1,k,b,g=>(gX k g).bind fun i=>(aQ 16 ((ag.mk b.ar b.bx b.bw true ([]) (Sl.nil:Sl Bs)).a_) b.a_).bind fun j=>Option.bind (nW g (mc n) b.aN.l i (ag.mk ((ag.mk b.ar b.bx b.bw true ([]) (Sl.nil:Sl Bs)).ar) ((ag.mk b.ar b.bx b.bw true ([]) (Sl.nil:Sl Bs)).bx) ((ag.mk b.ar b.bx b.bw true ([]) (Sl.nil:Sl Bs)).bw) ((ag.mk b.ar b.bx b.bw true ([]) (Sl.nil:Sl Bs)).aN).nl ((ag.mk b.ar b.bx b.bw true ([]) (Sl.nil:Sl Bs)).aN).l j)) fun f=>on ((f.1,f.2)) fun z9=>some (z9.2,z9.1)
def xk (n:Nat):Prop:=∀{a0:Z4}{f:ag}{a2:Int}  {b:Nat}{r:(ag×Z4)},mc n a0 f a2=some r->∀(H:ak) (g:H b=some (.cells (Z4.c a0))),AC Tryz.prog 175 [.d (.ptr b 0),.agg (ag.c f),.d (.int .i64 a2)] H fun v h'=>v=.a (.agg (ag.c r.1))/\h'=(H.set b (some (.cells (Z4.c r.2))))
theorem Jf (n:Nat) (R:xk (az:=az) n):xk (az:=az) (n+1):=by
 intro aw g Q  p r b H ay;rw [mc] at b;refine AC.oW 56 [.cell 6 61] Tryz.call175 Tryz.func175 ?_;refine ah.dQ (h':=(H.set p (some (.cells (Z4.c aw))))) (by funext n_; simp only [ak.set]; (repeat' split)<;>simp_all) ?_;refine af (S BX ?_);refine Sl ?_;refine nil ?_;refine af (S Mv (S Mv ?_));obtain⟨u,U,b⟩:=qT (Cl _ _) b;refine sH (bU rfl rfl (Cm U _ aB)) rfl ?_
 refine hq (H.set p (some (.cells (Z4.c u)))) ?_;refine nil ?_;refine af (S Fv (S Ld (S Fv (S Ld (S Fv (S Ld (S BU ?_)))))));refine Sl ?_;refine aO.tok 5 fun i G=>?_;obtain⟨aA,G⟩:=ak.dJ G;refine aO.cV 1 _ rfl (fun j w cs hh hx=>tok_cell 3 5 5 hh (t:=i) aB hx rfl) ?_;refine aO.tok 1 fun m q=>?_;obtain⟨aC,q⟩:=ak.dJ q
 obtain⟨aD,q⟩:=ak.dJ q;refine aO.cV 1 _ rfl (fun j w cs hh hx=>tok_cell 4 1 1 hh (t:=m) aB hx rfl) ?_;refine Sf ?_;refine aO.cV 1 _ rfl (fun j w cs hh hx=>tok_cell 3 5 5 hh (t:=i) aB hx rfl) ?_;refine aO.cV 1 _ rfl (fun j w cs hh hx=>tok_cell 4 1 1 hh (t:=m) aB hx rfl) ?_;refine nil ?_;refine af (S FL (S LL (S Fv (S Ld ?_))));obtain⟨I,W,b⟩:=qT rfl b
 refine SH (am aI (TK rfl) rfl (TK rfl) (TK rfl) W) ?_;refine hq (((H.set p (some (.cells (Z4.c u)))).set i (some (.tok 5 0))).set m (some (.tok 1 I.l.length))) ?_;refine S FL ?_;refine Sf ?_;refine nil ?_;refine ez (TA 6 (TA 7 kN)) (fun(z:Z4×ag)=>[]) (fun z=>[ag.c ag.zero,((bJ .i64) z.2.ar++(bJ .i64) z.2.bx++aI z.2.bw++[Sl.d 5 ag.c (some i) z.2.aN]++[Sl.d 1 aI (some m) z.2.a_])]) (fun z=>(((H.set p (some (.cells (Z4.c z.1)))).set i (some (.tok 5 z.2.aN.l.length))).set m (some (.tok 1 z.2.a_.l.length)))) (fun z=>(some (z.2,z.1))=some r) ?_ ?_
 ·intro aE X;refine af (S As (nil ?_));refine block ?_;obtain⟨v,Y,b⟩:=bY b;refine fK (TA 0 (TA 2 (TA 4 (TA 6 (TA 7 kN))))) (fun(z:Nat×Z4×ag)=>[(8,.a (.d (.int .i64 ((z.1:Nat):Int))))]) (fun z=>[ag.c ag.zero,((bJ .i64) z.2.2.ar++(bJ .i64) z.2.2.bx++aI z.2.2.bw++[Sl.d 5 ag.c (some i) z.2.2.aN]++[Sl.d 1 aI (some m) z.2.2.a_])]) (fun z=>(((H.set p (some (.cells (Z4.c z.2.1)))).set i (some (.tok 5 z.2.2.aN.l.length))).set m (some (.tok 1 z.2.2.a_.l.length)))) (fun z=>g.aN.l.length-z.1) (fun z=>Option.bind (nW Q (mc n) (g.aN.l.drop z.1) z.2.1 z.2.2) v=some r) (0,u,(ag.mk ((ag.mk g.ar g.bx g.bw true ([]) (Sl.nil:Sl Bs)).ar) ((ag.mk g.ar g.bx g.bw true ([]) (Sl.nil:Sl Bs)).bx) ((ag.mk g.ar g.bx g.bw true ([]) (Sl.nil:Sl Bs)).bw) ((ag.mk g.ar g.bx g.bw true ([]) (Sl.nil:Sl Bs)).aN).nl ((ag.mk g.ar g.bx g.bw true ([]) (Sl.nil:Sl Bs)).aN).l I)) b wA ?_
  rintro ⟨J,y,o⟩ b aF Z;try dsimp only at b
  refine ax fun aa K=>?_;refine af (S Mv (S Fv ?_));refine s0 (dH (TK rfl) rfl rfl (congrArg (fun x=>some (A.d x)) (ag.dB _))) rfl ?_;refine sLen (f:=ag.c) (s:=g.aN) (TK rfl) rfl rfl rfl rfl fun aG=>?_;refine S BI (S Mv (G0 Mv ?_));refine G1 32 rfl NP ?_;refine gC rfl rfl (fun hC=>aL (k:=33) rfl (bP (TK rfl) rfl rfl (TK rfl) rfl rfl)) rfl ?_;refine gC rfl rfl (fun hC=>aL (k:=34) rfl (b7 (TK rfl) rfl rfl aB rfl)) rfl ?_
  refine G1 35 rfl BI ?_;refine S PA (nil ?_);refine ah.tq (fun l=>Option.bind (nW Q (mc n) l y o) v=some r) (Option.bind (some (y,o)) v=some r) b (fun b=>by rw [nW] at b; exact b) (fun _ ab b=>by rw [nW] at b; rw [ab] at b; exact b) rfl rfl (fun aH L B ad b=>?_) (fun B b=>?_)
  ·rw [nW] at b;rw [ad,cond_true] at b;try dsimp only at B
   have aJ:=oD (and_left B);refine sk K ?_;clear K aa;refine ax fun ae M=>?_;refine block ?_;refine af (S Mv (S Fv ?_));refine s0 (dH (TK rfl) rfl rfl (congrArg (fun x=>some (A.d x)) (ag.dB _))) rfl ?_;refine S Mv ?_;obtain⟨aK,ai,b⟩:=vO L b;refine S (ix ag.c J ai) (S Ld (S Mv ?_));obtain⟨aM,aj,b⟩:=qO rfl b;refine s0 (eL rfl rfl aj) rfl ?_
   obtain⟨C,al,b⟩:=qO rfl b;refine sH (bU rfl rfl (R al _ aB)) rfl ?_;refine hq (((H.set p (some (.cells (Z4.c C.2)))).set i (some (.tok 5 o.aN.l.length))).set m (some (.tok 1 o.a_.l.length))) ?_;refine Sl ?_;refine Sf ?_;refine nil ?_;refine bA 9 _ rfl (KA 0 (KA 2 (KA 4 (KA 6 (KA 7 (KA 8 aY.nil)))))) ?_;refine region ?_;refine S FL (S LL (S Ld (S BV ?_)))
   obtain⟨E,an,b⟩:=qO rfl b;refine SH (am ag.c (TK rfl) rfl (TK rfl) (TK rfl) an) ?_;refine hq (((H.set p (some (.cells (Z4.c C.2)))).set i (some (.tok 5 E.l.length))).set m (some (.tok 1 o.a_.l.length))) ?_;refine S FL ?_;refine Sf ?_;refine nil ?_;refine M _ ?_;clear M ae;refine region ?_;refine S Mv ?_;refine SI ?_;refine S As (nil ?_);exact Z _ ((J+1),C.2,(ag.mk o.ar o.bx o.bw E.nl E.l o.a_)) wA b (dl L)
  have b:=ku Y b;try dsimp only at b
  refine ah.exit ?_;obtain⟨aP,ao,b⟩:=bT b;have b:=ku ao b;exact X _ (y,o) wA b
 rintro ⟨ap,au⟩ b;try dsimp only at b
 refine ax fun av N=>?_;refine ah.cV 1 _ rfl (fun j w cs hh hx=>jg 3 hx rfl) ?_;refine ah.cV 1 _ rfl (fun j w cs hh hx=>jg 4 hx rfl) ?_;refine ah.cV 1 (ag.c au) rfl (fun j w cs hh hx=>by rw [ag.l8]; exact hx) ?_;refine region ?_;refine S LL ?_;refine Sf ?_;refine nil ?_;refine N _ ?_;clear N av;refine ah.ret ?_;repeat (first|refine bE ?_|refine bF ?_)
 obtain rfl:=oJ b;refine bn.bG (H.set p (some (.cells (Z4.c ap)))) rfl ⟨rfl,rfl⟩ ?_;intro O aQ P;have aR:O≠i:=fun F=>by subst F; simp_all [ak.set]
 have aS:O≠m:=fun F=>by subst F; simp_all [ak.set]
 rw [<- P];simp only [ak.set] at P ⊢
 (repeat' split)<;>simp_all
theorem Cn:∀(n:Nat),(xk (az:=az) n)
 | 0=>fun b=>by first|cases b|(rw [mc] at b; cases b)
 | n+1=>Jf n (Cn n)
def Co (f:Z4) (b:ag) (g:Int):Option (ag×Z4):=mc F0 f b g
theorem Jg {g:Z4}{f:ag}{i:Int}{b:Nat}{r:ag×Z4}(j:Co g f i=some r) (H:ak) (k:H b=some (.cells (Z4.c g))):AC Tryz.prog 175 [.d (.ptr b 0),.agg (ag.c f),.d (.int .i64 i)] H fun v h'=>v=.a (.agg (ag.c r.1))/\h'=(H.set b (some (.cells (Z4.c r.2)))):=(Cn F0) j H k
def Cp (f:Z4) (b:ag) (g:Int):Option (ag×Z4):=mc F0 f b g
theorem Jh (a0:Z4) (b:ag) (a2:Int):Co a0 b a2=Cp a0 b a2:=rfl
def kS:Nat->Int->Option Bs
 | 0,_=>none
 | n+1,b=>(nH (48:Int) (Int.tmod b (10:Int))).bind fun f=>bif (decide ((-10:Int)<b)) then(some (kF (⟨false,[(IntKind.wrap .u8 f)]⟩:Sl Int))) else(((kS n) (IntKind.wrap .i64 (Int.tdiv b (10:Int)))).bind fun g=>(cr g (kF (⟨false,[(IntKind.wrap .u8 f)]⟩:Sl Int))).bind fun i=>some i)
def xl (n:Nat):Prop:=∀{a0:Int}   {r:Bs},kS n a0=some r->∀(H:ak),AC Tryz.prog 192 [.d (.int .i64 a0)] H fun v h'=>v=.a (.d (.str r))/\h'=H
theorem Ji (n:Nat) (g:xl (az:=az) n):xl (az:=az) (n+1):=by
 intro s   r b H;rw [kS] at b;refine AC.oW 18 [.tmp 2] Tryz.call192 Tryz.func192 ?_;refine af (S As (nil ?_));refine af (S Mv ?_);refine s0 (HO rfl rfl (by decide)) rfl ?_;obtain⟨i,j,b⟩:=qT rfl b;refine s0 (Br rfl rfl j) rfl ?_;refine s0 (HP (TK rfl) (TK rfl) rfl rfl) rfl ?_;refine S BV ?_;refine s0 (HQ (y:=(⟨false,[(IntKind.wrap .u8 i)]⟩:Sl Int)) (TK rfl) rfl (TK rfl) rfl (TK rfl) rfl rfl) rfl ?_
 refine S As (nil ?_);refine ax fun k f=>?_;refine af (S Mv (S BI (nil ?_)));refine cE b (fun l b=>?_) (fun l b=>?_)
 ·refine af (S Mv (S As (nil ?_)));exact rt b
 refine sk f ?_;clear f k;refine af (S Mv ?_);refine s0 (HN rfl rfl (by decide)) rfl ?_;obtain⟨p,m,b⟩:=qT rfl b;refine Sc rfl rfl (g m) ?_;refine S Mv ?_;obtain⟨q,o,b⟩:=qT rfl b;refine s0 (dP rfl rfl o) rfl ?_;refine S As (nil ?_);exact rt b
theorem Cq:∀(n:Nat),(xl (az:=az) n)
 | 0=>fun b=>by first|cases b|(rw [kS] at b; cases b)
 | n+1=>Ji n (Cq n)
def Cr (b:Int):Option Bs:=kS F0 b
theorem Cs {b:Int}{r:Bs}(f:Cr b=some r) (H:ak) :AC Tryz.prog 192 [.d (.int .i64 b)] H fun v h'=>v=.a (.d (.str r))/\h'=H:=(Cq F0) f H 
def tU (b:Int):Option Bs:=kS F0 b
theorem Ct (a0:Int):Cr a0=tU a0:=rfl
def pQ (b:Int):Option Bs:=bif (decide (b<(0:Int))) then((tU b).bind fun f=>(cr ([45]:Bs) f).bind fun g=>some g) else((tU (IntKind.wrap .i64 (0-b))).bind fun i=>some i)
def xm (b:Int):Option Bs:=pQ b
theorem Jj (a0:Int):xm a0=pQ a0:=rfl
theorem Jk {g:Int}{r:Bs}(b:xm g=some r) (H:ak) :AC Tryz.prog 187 [.d (.int .i64 g)] H fun v h'=>v=.a (.d (.str r))/\h'=H:=by
 unfold xm pQ at b;refine AC.oW 11 [.tmp 2] Tryz.call187 Tryz.func187 ?_;refine af (S As (nil ?_));refine ax fun i f=>?_;refine af (S Mv (S BI (nil ?_)));refine cE b (fun j b=>?_) (fun j b=>?_)
 ·refine af (S Mv ?_);obtain⟨o,k,b⟩:=qT (Ct _) b;refine Sc rfl rfl (Cs k) ?_;obtain⟨p,l,b⟩:=qT rfl b;refine s0 (dP rfl rfl l) rfl ?_;refine S As (nil ?_);exact rt b
 refine sk f ?_;clear f i;refine af (S Mv ?_);refine s0 (GM rfl) rfl ?_;obtain⟨q,m,b⟩:=qT (Ct _) b;refine Sc rfl rfl (Cs m) ?_;refine S As (nil ?_);exact rt b
def iK (g:Z4) (f:Bs) (b:ag):Option (ag×Z4):=bif (((((f==([73,110,116]:Bs)))&&(decide (b.ar=(2:Int))))&&(decide ((-2147483648:Int)<=b.bx)))&&(decide (b.bx<(2147483648:Int)))) then(some (b,g)) else(on (bif (((f==([83,116,114,105,110,103]:Bs)))&&(decide (b.ar=(3:Int)))) then((((f==([83,116,114,105,110,103]:Bs)))&&(decide (b.ar=(3:Int))))) else(bif (((f==([66,111,111,108,101,97,110]:Bs)))&&(decide (b.ar=(1:Int)))) then((((f==([66,111,111,108,101,97,110]:Bs)))&&(decide (b.ar=(1:Int))))) else((((f==([73,68]:Bs)))&&(decide (b.ar=(3:Int))))))) fun i=>bif i then(some (b,g)) else(bif (((f==([73,68]:Bs)))&&(decide (b.ar=(2:Int)))) then((pQ b.bx).bind fun j=>some ((ag.mk (3:Int) (0:Int) j true ([]) (Sl.nil:Sl Bs)),g)) else(on (()) fun _=>on (dK g (23:Int)) fun k=>some ((ag.mk (0:Int) (0:Int) ([]:Bs) true ([]) (Sl.nil:Sl Bs)),k))))
def xo (f:Z4) (b:Bs) (g:ag):Option (ag×Z4):=iK f b g
theorem Jl (a0:Z4) (b:Bs) (a2:ag):xo a0 b a2=iK a0 b a2:=rfl
theorem Jm {g:Z4}{i:Bs}{j:ag}{f:Nat}{r:ag×Z4}(b:xo g i j=some r) (H:ak) (C:H f=some (.cells (Z4.c g))):AC Tryz.prog 178 [.d (.ptr f 0),.d (.str i),.agg (ag.c j)] H fun v h'=>v=.a (.agg (ag.c r.1))/\h'=(H.set f (some (.cells (Z4.c r.2)))):=by
 unfold xo iK at b;refine AC.oW 64 [.cell 6 61] Tryz.call178 Tryz.func178 ?_;refine ah.dQ (h':=(H.set f (some (.cells (Z4.c g))))) (by funext n_; simp only [ak.set]; (repeat' split)<;>simp_all) ?_;refine af (S BX ?_);refine Sl ?_;refine nil ?_;refine ez (TA 0 (TA 6 kN)) (fun(z:ag)=>[]) (fun z=>[ag.c z]) (fun z=>(H.set f (some (.cells (Z4.c g))))) (fun z=>(on (dK g (23:Int)) fun k=>some ((ag.mk (0:Int) (0:Int) ([]:Bs) true ([]) (Sl.nil:Sl Bs)),k))=some r) ?_ ?_
 ·intro E m;refine block ?_;refine af (S Mv (S BS (S Mv (G0 Fv ?_))));refine G1 11 rfl Ld ?_;refine G1 12 rfl BI ?_;refine S PA (S Mv (G0 Fv ?_));refine G1 16 rfl Ld ?_;refine G1 17 rfl BI ?_;refine S PA (S Mv (G0 Fv ?_));refine G1 21 rfl Ld ?_;refine G1 22 rfl BI ?_;refine S PA (S As (nil ?_));refine cE b (fun o b=>?_) (fun o b=>?_)
  ·refine af (S Ld ?_);refine Sf ?_;refine nil ?_;exact rt b
  obtain⟨p,q,b⟩:=bT b;refine aP (TA 0 (TA 1 (TA 5 (TA 6 kN)))) (fun(z:Bool)=>[(26,.a (.d (.bool z)))]) (fun z=>(H.set f (some (.cells (Z4.c g))))) (fun z=>p z=some r) ?_ ?_
  ·intro F l;refine af (S Mv (S BS (S Mv (G0 Fv ?_))));refine G1 30 rfl Ld ?_;refine G1 31 rfl BI ?_;refine S PA (S As (nil ?_));refine cP b (fun s b=>?_) (fun s b=>?_)
   ·refine ah.skip ?_;exact l _ (((i==([83,116,114,105,110,103]:Bs)))&&(decide (j.ar=(3:Int)))) wA b
   refine af (S Mv (S BS (S Mv (G0 Fv ?_))));refine G1 37 rfl Ld ?_;refine G1 38 rfl BI ?_;refine S PA (S As (nil ?_));refine cP b (fun t b=>?_) (fun t b=>?_)
   ·refine ah.skip ?_;exact l _ (((i==([66,111,111,108,101,97,110]:Bs)))&&(decide (j.ar=(1:Int)))) wA b
   refine region ?_;refine S Mv (S BS (S Mv (G0 Fv ?_)));refine G1 44 rfl Ld ?_;refine G1 45 rfl BI ?_;refine S PA (S As (nil ?_));exact l _ (((i==([73,68]:Bs)))&&(decide (j.ar=(3:Int)))) wA b
  rintro G b;try dsimp only at b
  have b:=ku q b;refine cE b (fun u b=>?_) (fun u b=>?_)
  ·refine af (S Ld ?_);refine Sf ?_;refine nil ?_;exact rt b
  refine af (S Mv (S BS (S Mv (G0 Fv ?_))));refine G1 53 rfl Ld ?_;refine G1 54 rfl BI ?_;refine S PA (S As (nil ?_));refine cE b (fun w b=>?_) (fun w b=>?_)
  ·refine af (S Fv (S Ld ?_));obtain⟨I,x,b⟩:=qT (Jj _) b;refine Sc rfl rfl (Jk x) ?_;refine S BU ?_;refine Sf ?_;refine nil ?_;exact rt b
  refine ah.skip ?_;obtain⟨J,y,b⟩:=bT b;have b:=ku y b;exact m _ ag.zero wA b
 rintro K b;try dsimp only at b
 refine af (S Mv ?_);obtain⟨k,B,b⟩:=vT (kQ _ _) b;refine sH (bU rfl rfl (kR B _ aB)) rfl ?_;refine hq (H.set f (some (.cells (Z4.c k)))) ?_;refine nil ?_;refine af (S BU ?_);refine Sf ?_;refine nil ?_;exact rt b
def fS (f:Z4) (b:ag):List Z9->Unit ⊕ ((ag×Z4))
 | []=>Sum.inl ()
 | g::i=>on (g) fun j=>bif ((j.aa==b.bw)) then(Sum.inr ((ag.mk (4:Int) (0:Int) b.bw true ([]) (Sl.nil:Sl Bs)),f)) else(fS f b (i) )
def fT (b:Z4) (i:ai) (f:ag):(ag×Z4):=on (fun(_:Unit)=>on (dK b (23:Int)) fun j=>((ag.mk (0:Int) (0:Int) ([]:Bs) true ([]) (Sl.nil:Sl Bs)),j)) fun g=>bif ((decide (f.ar=(4:Int)))||((decide (f.ar=(3:Int)))&&(!b.c7))) then(on (fS b f i.aJ.l ) fun k=>match k with|Sum.inl _=>(g ())|Sum.inr m=>(m)) else(g ())
def xq (f:Z4) (b:ai) (g:ag):Option (ag×Z4):=some (fT f b g)
theorem Jn (a0:Z4) (b:ai) (a2:ag):xq a0 b a2=some (fT a0 b a2):=rfl
theorem Jo {i:Z4}{j:ai}{m:ag}{g:Nat}{r:ag×Z4}(b:xq i j m=some r) (H:ak) (O:H g=some (.cells (Z4.c i))):AC Tryz.prog 179 [.d (.ptr g 0),.agg (ai.c j),.agg (ag.c m)] H fun v h'=>v=.a (.agg (ag.c r.1))/\h'=(H.set g (some (.cells (Z4.c r.2)))):=by
 unfold xq fT at b;refine AC.oW 45 [.cell 6 61] Tryz.call179 Tryz.func179 ?_;refine ah.dQ (h':=(H.set g (some (.cells (Z4.c i))))) (by funext n_; simp only [ak.set]; (repeat' split)<;>simp_all) ?_;refine af (S BX (S BX ?_));refine Sl ?_;refine nil ?_;obtain⟨C,E,b⟩:=mP b;refine ez (TA 0 (TA 6 kN)) (fun(z:ag)=>[]) (fun z=>[ag.c z]) (fun z=>(H.set g (some (.cells (Z4.c i))))) (fun z=>some (C ())=some r) ?_ ?_
 ·intro P p;refine af (S Fv (S Ld (S BI (S Mv (G0 Fv ?_)))));refine G1 12 rfl Ld ?_;refine G1 13 rfl BI ?_;refine G1 14 rfl Mv ?_;refine G0 Mv ?_;refine G1 16 rfl NP ?_;refine gC rfl rfl (fun hC=>aL (k:=17) rfl (bP (TK rfl) rfl rfl (TK rfl) rfl rfl)) rfl ?_;refine gC rfl rfl (fun hC=>aL (k:=18) rfl (b7 (TK rfl) rfl rfl aB rfl)) rfl ?_;refine G1 19 rfl NB ?_;refine gC rfl rfl (fun hC=>aL (k:=15) rfl (gR rfl rfl rfl)) rfl ?_
  refine S PO (nil ?_);refine cP b (fun F b=>?_) (fun F b=>?_)
  ·refine af (S As (nil ?_));refine block ?_;obtain⟨q,t,b⟩:=dU b;refine fK (TA 0 (TA 4 (TA 5 (TA 6 kN)))) (fun(z:Nat×ag)=>[(7,.a (.d (.int .i64 ((z.1:Nat):Int))))]) (fun z=>[ag.c z.2]) (fun z=>(H.set g (some (.cells (Z4.c i))))) (fun z=>j.aJ.l.length-z.1) (fun z=>q (fS i m (j.aJ.l.drop z.1) )=some r) (0,ag.zero) b wA ?_;rintro ⟨u,w⟩ b Q G
   try dsimp only at b
   refine ax fun I x=>?_;refine af (S Mv (S Fv (S Ld ?_)));refine sLen (f:=Z9.c) (s:=j.aJ) (TK rfl) rfl rfl rfl rfl fun R=>?_;refine S BI (nil ?_);refine ah.bK (fun l=>q (fS i m l )=some r) b rfl (fun U y o b=>?_) (fun o b=>?_)
   ·rw [fS] at b;try dsimp only at o
    have W:=oD o;refine sk x ?_;clear x I;refine ax fun J B=>?_;refine block ?_;refine ah.b5 (Sd Fv (Sd Ld (Sd Mv ?_)));obtain⟨X,K,b⟩:=vP y b;refine Sd (ix Z9.c u K) (Sd Fv (Sd Ld (Sd Fv (Sd Ld (Sd BS ?_)))));refine au.nil (by decide +kernel) ?_;refine cP b (fun L b=>?_) (fun L b=>?_)
    ·refine af (S Fv (S Ld (S BU ?_)));refine Sf ?_;refine nil ?_;refine ah.ret ?_;repeat (first|refine bE ?_|refine bF ?_)
     have b:=ku t b;obtain rfl:=oJ b;refine bn.bG (H.set g (some (.cells (Z4.c i)))) rfl ⟨rfl,rfl⟩ ?_;exact(fun _ _ h=>h)
    refine sk B ?_;clear B J;refine region ?_;refine S Mv ?_;refine SI ?_;refine S As (nil ?_);exact G _ ((u+1),w) wA b (dl y)
   rw [fS] at b;have b:=ku t b;try dsimp only at b
   refine ah.exit ?_;exact p _ w wA b
  refine ah.skip ?_;exact p _ ag.zero wA b
 rintro Y b;try dsimp only at b
 rw [E] at b;try dsimp only at b
 refine af (S Mv ?_);obtain⟨M,N,b⟩:=vP (kQ _ _) b;refine sH (bU rfl rfl (kR N _ aB)) rfl ?_;refine hq (H.set g (some (.cells (Z4.c M)))) ?_;refine nil ?_;refine af (S BU ?_);refine Sf ?_;refine nil ?_;exact rt b
def tV  :Option Bool:=some false
def jX (g:(Sl Z8)) (b:Int) :Nat->Int->Option Bool
 | 0,_=>none
 | i+1,f=>bif (decide (f<b)) then((cI g.l f).bind fun j=>(cI g.l b).bind fun k=>bif ((j.aa==k.aa)) then(some true) else((cA f (1:Int)).bind fun m=>(jX g b i) m)) else(tV   )
def ru (f:(Sl Z8)) (b:Int):Option Bool:=jX f b F0 (0:Int)
theorem Jp {j:Sl Z8}{g:Int}{w0:Option Nat}{r:Bool}(b:ru j g=some r) (H:ak) :AC Tryz.prog 188 [.d (Sl.d 10 Z8.c w0 j),.d (.int .i64 g)] H fun v h'=>v=.a (.d (.bool r))/\h'=H:=by
 unfold ru at b;refine AC.oW 22 [.tmp 4] Tryz.call188 Tryz.func188 ?_;refine af (S As (nil ?_));refine aP kN (fun(z:Unit)=>[]) (fun z=>H) (fun z=>tV =some r) ?_ ?_
 ·intro B m;refine af (S As (nil ?_));refine block ?_;refine bp (TA 0 (TA 1 kN)) (fun(z:Nat×Int)=>[(5,.a (.d (.int .i64 z.2)))]) (fun z=>H) (fun z=>z.1) (fun z=>jX j g z.1 z.2=some r) (F0,(0:Int)) b wA ?_;rintro ⟨i,C⟩ b E o;try dsimp only at b
  cases i with
  | zero=>cases b
  | succ i =>
    rw [jX] at b;refine ax fun p k=>?_;refine af (S Mv (S Mv (S BI (nil ?_))));refine cE b (fun q b=>?_) (fun q b=>?_)
    ·refine sk k ?_;clear k p;refine ax fun s l=>?_;refine block ?_;refine ah.b5 (Sd Mv (Sd Mv ?_));obtain⟨F,t,b⟩:=bO b;refine au.s0 (je (f:=Z8.c) (TK rfl) rfl (TK rfl) rfl rfl rfl t) rfl ?_;refine Sd Fv (Sd Ld (Sd Mv (Sd Mv ?_)));obtain⟨G,u,b⟩:=bO b;refine au.s0 (je (f:=Z8.c) (TK rfl) rfl (TK rfl) rfl rfl rfl u) rfl ?_;refine Sd Fv (Sd Ld (Sd BS ?_));refine au.nil (by decide +kernel) ?_
     refine cE b (fun w b=>?_) (fun w b=>?_)
     ·refine af (S As (nil ?_));exact rt b
     refine sk l ?_;clear l s;refine region ?_;refine S Mv ?_;obtain⟨x,y,b⟩:=bO b;refine s0 (eL rfl rfl y) rfl ?_;refine S As (nil ?_);exact o _ (i,x) wA b (nS _)
    refine ah.exit ?_;exact m _ () wA b
 rintro _ b;try dsimp only at b
 unfold tV at b;refine af (S As (nil ?_));exact rt b
def pR (f:(Sl Z8)) (b:Int):Option Bool:=ru f b
theorem Jq (a0:(Sl Z8)) (b:Int):ru a0 b=pR a0 b:=rfl
end Go.Proofs
