import Derived.Test.YtgkmefkmmafocaaGreatDoorV1
set_option maxRecDepth 100000
set_option maxHeartbeats 2000000
set_option linter.unusedVariables false
set_option linter.unusedSimpArgs false
namespace Go.Proofs
open Go Go.Ab
open aP ar ah aS fp
variable {ax:bK}
def gj (b:az):Bool:=on (bif (decide ((0:Int)<((b.aF.l.length:Nat):Int))) then((b.aF.l)[0]?.getD (0:Int)) else(0:Int)) fun f=>((decide ((0:Int)<((b.aF.l.length:Nat):Int)))&&(decide (f=(1:Int))))
def AS (b:az):Option Bool:=some (gj b)
theorem qV (a0:az):AS a0=some (gj a0):=rfl
theorem qW {g:az}{r:Bool}(b:AS g=some r) (H:ai) :AC Tryz.prog 125 [.agg (az.c g)] H fun v h'=>v=.a (.d (.bool r))/\h'=H:=by
 unfold AS gj at b;refine AC.oW 14 [.tmp 2] Tryz.call125 Tryz.func125 ?_;refine ag (S BX (S As (nil ?_)));refine ag (S Fv (S Ld ?_));refine sLen (f:=(bC .i64)) (s:=g.aF) (TK rfl) rfl rfl rfl rfl fun j=>?_;refine S BI (S Mv (G0 Fv ?_));refine G1 8 rfl Ld ?_;obtain⟨l,i,b⟩:=iu (fun hc=>Q.getD_some (by simp at hc; omega)) b;refine gC rfl rfl (fun hC=>aK (k:=9) rfl (ee (f:=(bC .i64)) (n:=0) (TK rfl) rfl (TK rfl) rfl rfl rfl (i hC))) rfl ?_
 refine G1 10 rfl Ld ?_;refine G1 11 rfl BI ?_;refine S PA (S As (nil ?_));exact rt b
def qX (b:az):Option az:=(nw b.aF (some (1:Int)) none).bind fun f=>(aW 8 (⟨false,[]⟩:Sl Int) f).bind fun g=>some (az.mk b.aa g)
def AT (b:az):Option az:=qX b
theorem F9 (a0:az):AT a0=qX a0:=rfl
theorem F_ {g r:az}(b:AT g=some r) (H:ai) :AC Tryz.prog 170 [.agg (az.c g)] H fun v h'=>v=.a (.agg (az.c r))/\h'=H:=by
 unfold AT qX at b;refine AC.oW 11 [.cell 2 35] Tryz.call170 Tryz.func170 ?_;refine ag (S BX ?_);refine Sl ?_;refine nil ?_;refine ah.cr (Sd Fv (Sd Ld ?_));refine au.s0 (sP (TK rfl) rfl (TK rfl) rfl rfl rfl rfl rfl rfl) rfl ?_;refine Sd Fv (Sd Ld ?_);obtain⟨k,i,b⟩:=qT rfl b;refine au.s0 (mm (f:=(bC .i64)) (l:=(some (1:Int))) (r:=none) (TK rfl) rfl (TK rfl) rfl rfl rfl trivial i) rfl ?_
 obtain⟨m,j,b⟩:=qT rfl b;refine au.s0 (uV (f:=(bC .i64)) (TK rfl) rfl (TK rfl) (TK rfl) ⟨_,rfl⟩ rfl rfl (by decide) rfl rfl rfl (by intro q h; cases h<;>decide) rfl rfl j) rfl ?_;refine Sd BU ?_;refine au.dB (eG (TK rfl) rfl rfl rfl rfl rfl) ?_;refine au.nil (by decide +kernel) ?_;exact rt b
def mB (b:az):Option az:=on (gj b) fun f=>bif f then((qX b).bind fun g=>some g) else((aW 8 (⟨false,[]⟩:Sl Int) b.aF).bind fun i=>some (az.mk b.aa i))
def AU (b:az):Option az:=mB b
theorem vc (a0:az):AU a0=mB a0:=rfl
theorem ve {i r:az}(b:AU i=some r) (H:ai) :AC Tryz.prog 155 [.agg (az.c i)] H fun v h'=>v=.a (.agg (az.c r))/\h'=H:=by
 unfold AU mB at b;refine AC.oW 14 [.cell 2 35] Tryz.call155 Tryz.func155 ?_;refine ag (S BX ?_);refine Sl ?_;refine nil ?_;refine ay fun j g=>?_;refine ag (S Ld ?_);obtain⟨p,k,b⟩:=vT (qV _) b;refine Sc rfl rfl (qW k) ?_;refine nil ?_;refine cE b (fun l b=>?_) (fun l b=>?_)
 ·refine ag (S Ld ?_);obtain⟨s,m,b⟩:=qT (F9 _) b;refine Sc rfl rfl (F_ m) ?_;refine Sf ?_;refine nil ?_;exact rt b
 refine sk g ?_;clear g j;refine ah.cr (Sd Fv (Sd Ld ?_));refine au.s0 (sP (TK rfl) rfl (TK rfl) rfl rfl rfl rfl rfl rfl) rfl ?_;refine Sd Fv (Sd Ld ?_);obtain⟨t,o,b⟩:=qT rfl b;refine au.s0 (uV (f:=(bC .i64)) (TK rfl) rfl (TK rfl) (TK rfl) ⟨_,rfl⟩ rfl rfl (by decide) rfl rfl rfl (by intro q h; cases h<;>decide) rfl rfl o) rfl ?_;refine Sd BU ?_;refine au.dB (eG (TK rfl) rfl rfl rfl rfl rfl) ?_
 refine au.nil (by decide +kernel) ?_;exact rt b
def tt (g:az):Option Bool:=(mB g).bind fun b=>on (bif (decide ((0:Int)<((b.aF.l.length:Nat):Int))) then((b.aF.l)[0]?.getD (0:Int)) else(0:Int)) fun f=>some ((decide ((0:Int)<((b.aF.l.length:Nat):Int)))&&(decide (f=(2:Int))))
def AV (b:az):Option Bool:=tt b
theorem Oa (a0:az):AV a0=tt a0:=rfl
theorem Ob {g:az}{r:Bool}(b:AV g=some r) (H:ai) :AC Tryz.prog 171 [.agg (az.c g)] H fun v h'=>v=.a (.d (.bool r))/\h'=H:=by
 unfold AV tt at b;refine AC.oW 17 [.tmp 2] Tryz.call171 Tryz.func171 ?_;refine ag (S BX (S As (nil ?_)));refine ag (S Ld ?_);obtain⟨i,j,b⟩:=qT (vc _) b;refine Sc rfl rfl (ve j) ?_;refine Sl ?_;refine Sf ?_;refine nil ?_;refine bu 3 _ rfl aS.nil ?_;refine ag (S Fv (S Ld ?_));refine sLen (f:=(bC .i64)) (s:=i.aF) (TK rfl) rfl rfl rfl rfl fun m=>?_;refine S BI (S Mv (G0 Fv ?_))
 refine G1 11 rfl Ld ?_;obtain⟨o,l,b⟩:=k9 (fun hc=>Q.getD_some (by simp at hc; omega)) b;refine gC rfl rfl (fun hC=>aK (k:=12) rfl (ee (f:=(bC .i64)) (n:=0) (TK rfl) rfl (TK rfl) rfl rfl rfl (l hC))) rfl ?_;refine G1 13 rfl Ld ?_;refine G1 14 rfl BI ?_;refine S PA (S As (nil ?_));exact rt b
def jx (b:az):Option (az×Bool):=(tt b).bind fun f=>bif (!f) then(some ((az.mk ([]:Bs) (Sl.nil:Sl Int)),false)) else((mB b).bind fun g=>(qX g).bind fun i=>some (i,true))
def AW (b:az):Option (az×Bool):=jx b
theorem AX (a0:az):AW a0=jx a0:=rfl
theorem AY {g:az}{r:az×Bool}(b:AW g=some r) (H:ai) :AC Tryz.prog 156 [.agg (az.c g)] H fun v h'=>v=.cF [.agg (az.c r.1),.d (.bool r.2)]/\h'=H:=by
 unfold AW jx at b;refine AC.oW 11 [.cell 2 35,.tmp 3] Tryz.call156 Tryz.func156 ?_;refine ag (S BX ?_);refine Sl ?_;refine S As (nil ?_);refine ay fun i f=>?_;refine ag (S Ld ?_);obtain⟨o,j,b⟩:=qT (Oa _) b;refine Sc rfl rfl (Ob j) ?_;refine S NB (nil ?_);refine cE b (fun k b=>?_) (fun k b=>?_)
 ·refine ag (S BU ?_);refine Sf ?_;refine S As (nil ?_);exact rt b
 refine sk f ?_;clear f i;refine ag (S Ld ?_);obtain⟨p,l,b⟩:=qT (vc _) b;refine Sc rfl rfl (ve l) ?_;obtain⟨q,m,b⟩:=qT (F9 _) b;refine Sc rfl rfl (F_ m) ?_;refine Sf ?_;refine S As (nil ?_);exact rt b
def nM (b:Bs):List Z9->Unit ⊕ Bool
 | []=>Sum.inl ()
 | f::g=>on (f) fun i=>bif ((i.aa==b)) then(Sum.inr true) else(nM b (g) )
def pw (i:aj) (b:Bs):Bool:=on (nM b i.aG.l ) fun f=>match f with|Sum.inl _=>(on (()) fun _=>false)|Sum.inr g=>(g)
def AZ (f:aj) (b:Bs):Option Bool:=some (pw f b)
theorem Ga (a0:aj) (b:Bs):AZ a0 b=some (pw a0 b):=rfl
theorem Gb {g:aj}{i:Bs}{r:Bool}(b:AZ g i=some r) (H:ai) :AC Tryz.prog 92 [.agg (aj.c g),.d (.str i)] H fun v h'=>v=.a (.d (.bool r))/\h'=H:=by
 unfold AZ pw at b;refine AC.oW 21 [.tmp 4] Tryz.call92 Tryz.func92 ?_;refine ag (S BX (S As (nil ?_)));refine aQ kN (fun(z:Unit)=>[]) (fun z=>H) (fun z=>some (false)=some r) ?_ ?_
 ·intro F u;refine ag (S As (nil ?_));refine block ?_;obtain⟨k,m,b⟩:=eL b;refine bA (TA 1 (TA 2 kN)) (fun(z:Nat)=>[(5,.a (.d (.int .i64 ((z:Nat):Int))))]) (fun z=>H) (fun z=>g.aG.l.length-z) (fun z=>k (nM i (g.aG.l.drop z) )=some r) 0 b wA ?_;rintro o b G w;try dsimp only at b
  refine ay fun x p=>?_;refine ag (S Mv (S Fv (S Ld ?_)));refine sLen (f:=Z9.c) (s:=g.aG) (TK rfl) rfl rfl rfl rfl fun I=>?_;refine S BI (nil ?_);refine ah.bN (fun l=>k (nM i l )=some r) b rfl (fun J q j b=>?_) (fun j b=>?_)
  ·rw [nM] at b;try dsimp only at j
   have K:=oD j;refine sk p ?_;clear p x;refine ay fun y t=>?_;refine block ?_;refine ag (S Fv (S Ld (S Mv ?_)));obtain⟨L,B,b⟩:=vP q b;refine S (ix Z9.c o B) (S Fv (S Ld (S Mv (S BS (nil ?_)))));refine cP b (fun C b=>?_) (fun C b=>?_)
   ·refine ag (S As (nil ?_));refine ah.ret ?_;repeat (first|refine bF ?_|refine bG ?_)
    have b:=ku m b;obtain rfl:=oJ b;refine bn.bH H rfl ⟨rfl,rfl⟩ ?_;exact(fun _ _ h=>h)
   refine sk t ?_;clear t y;refine region ?_;refine S Mv ?_;refine SI ?_;refine S As (nil ?_);exact w _ (o+1) wA b (dl q)
  rw [nM] at b;have b:=ku m b;try dsimp only at b
  refine ah.exit ?_;obtain⟨M,E,b⟩:=eL b;have b:=ku E b;exact u _ () wA b
 rintro _ b;try dsimp only at b
 refine ag (S As (nil ?_));exact rt b
def A2  :Option Bool:=some true
def tu (g:ak) (b:Int) :Nat->Int->Option Bool
 | 0,_=>none
 | i+1,f=>bif (decide (f<b)) then((dh g.aq.l f).bind fun j=>(dh g.aq.l b).bind fun k=>bif ((j.aa==k.aa)) then(some false) else((cG f (1:Int)).bind fun m=>(tu g b i) m)) else(A2   )
def vf (f:ak) (b:Int):Option Bool:=tu f b F0 (0:Int)
theorem Oc {j:ak}{g:Int}{r:Bool}(b:vf j g=some r) (H:ai) :AC Tryz.prog 185 [.agg (ak.c j),.d (.int .i64 g)] H fun v h'=>v=.a (.d (.bool r))/\h'=H:=by
 unfold vf at b;refine AC.oW 24 [.tmp 4] Tryz.call185 Tryz.func185 ?_;refine ag (S BX (S As (nil ?_)));refine aQ kN (fun(z:Unit)=>[]) (fun z=>H) (fun z=>A2 =some r) ?_ ?_
 ·intro B m;refine ag (S As (nil ?_));refine block ?_;refine bA (TA 1 (TA 2 kN)) (fun(z:Nat×Int)=>[(5,.a (.d (.int .i64 z.2)))]) (fun z=>H) (fun z=>z.1) (fun z=>tu j g z.1 z.2=some r) (F0,(0:Int)) b wA ?_;rintro ⟨i,C⟩ b E o;try dsimp only at b
  cases i with
  | zero=>cases b
  | succ i =>
    rw [tu] at b;refine ay fun p k=>?_;refine ag (S Mv (S Mv (S BI (nil ?_))));refine cE b (fun q b=>?_) (fun q b=>?_)
    ·refine sk k ?_;clear k p;refine ay fun s l=>?_;refine block ?_;refine ah.cr (Sd Fv (Sd Ld (Sd Mv ?_)));obtain⟨F,t,b⟩:=bO b;refine au.s0 (jS (f:=aj.c) (TK rfl) rfl (TK rfl) rfl rfl rfl t) rfl ?_;refine Sd Fv (Sd Ld (Sd Fv (Sd Ld (Sd Mv ?_))));obtain⟨G,u,b⟩:=bO b;refine au.s0 (jS (f:=aj.c) (TK rfl) rfl (TK rfl) rfl rfl rfl u) rfl ?_;refine Sd Fv (Sd Ld (Sd BS ?_))
     refine au.nil (by decide +kernel) ?_;refine cE b (fun w b=>?_) (fun w b=>?_)
     ·refine ag (S As (nil ?_));exact rt b
     refine sk l ?_;clear l s;refine region ?_;refine S Mv ?_;obtain⟨x,y,b⟩:=bO b;refine s0 (eR rfl rfl y) rfl ?_;refine S As (nil ?_);exact o _ (i,x) wA b (nS _)
    refine ah.exit ?_;exact m _ () wA b
 rintro _ b;try dsimp only at b
 unfold A2 at b;refine ag (S As (nil ?_));exact rt b
def xG (f:ak) (b:Int):Option Bool:=vf f b
theorem Od (a0:ak) (b:Int):vf a0 b=xG a0 b:=rfl
def ia (l:ak) (i:Bs) (b:(aj×Bool)):List aj->Nat->(Sl Bs)->Option ((Sl Bs))
 | [],j,g=>some g
 | m::o,j,g=>bif b.2 then(on (m) fun f=>aR (!(!decide (f.an=(1:Int)))) (xG l ((j:Nat):Int)) false fun p=>Option.bind (bif ((!decide (f.an=(1:Int)))||(!p)) then(some g) else(on (bif (!((decide (b.1.an=(1:Int)))&&((f.aa==i)))&&(decide (b.1.an=(2:Int)))) then mw f.aX i else false) fun k=>on (bif (!(((decide (b.1.an=(1:Int)))&&((f.aa==i)))||((decide (b.1.an=(2:Int)))&&k))&&(decide (b.1.an=(3:Int)))) then pw b.1 f.aa else false) fun q=>bif ((((decide (b.1.an=(1:Int)))&&((f.aa==i)))||((decide (b.1.an=(2:Int)))&&k))||((decide (b.1.an=(3:Int)))&&q)) then((aW 16 g (⟨false,[f.aa]⟩:Sl Bs)).bind fun r=>some r) else(some g))) fun s=>ia l i b (o) (j+1) s) else(some g)
def tw (b:ak) (f:Bs):Option (Sl Bs):=on (eA b f) fun g=>Option.bind (ia b f g b.aq.l 0 (Sl.nil:Sl Bs)) fun i=>on (i) fun j=>some j
def A3 (f:ak) (b:Bs):Option (Sl Bs):=tw f b
theorem Oe (a0:ak) (b:Bs):A3 a0 b=tw a0 b:=rfl
theorem Of {g:ak}{j:Bs}{r:Sl Bs}(b:A3 g j=some r) (H:ai) :AC Tryz.prog 172 [.agg (ak.c g),.d (.str j)] H fun v h'=>v=.a (.d (Sl.d 1 aO none r))/\h'=H:=by
 unfold A3 tw at b;refine AC.oW 81 [.tmp 4] Tryz.call172 Tryz.func172 ?_;refine ah.tok 1 fun i x=>?_;refine ag (S BX ?_);refine s0 (dR (k':=1) rfl) rfl ?_;refine nil ?_;refine ag (S As (nil ?_));refine ah.fJ 5 1 i rfl av ?_;refine ag (S Ld (S Mv ?_));obtain⟨q,F,b⟩:=vT (lc _ _) b;refine Sc rfl rfl (lg F) ?_;refine S Mv (S EX (S EX ?_));refine Sl ?_
 refine Sf ?_;refine S As (nil ?_);refine bu 6 _ rfl (KA 1 (KA 2 (KA 5 (KA 7 aS.nil)))) ?_;refine aQ kN (fun(z:(Sl Bs))=>[(5,.a (.d (Sl.d 1 aO (some i) z)))]) (fun z=>(H.set i (some (.tok 1 z.l.length)))) (fun z=>(some z)=some r) ?_ ?_
 ·intro aa G;refine ag (S As (nil ?_));refine block ?_;obtain⟨p,I,b⟩:=b_ b;refine bA (TA 1 (TA 2 (TA 6 (TA 7 kN)))) (fun(z:(Sl Bs)×Nat)=>[(5,.a (.d (Sl.d 1 aO (some i) z.1))),(8,.a (.d (.int .i64 ((z.2:Nat):Int))))]) (fun z=>(H.set i (some (.tok 1 z.1.l.length)))) (fun z=>g.aq.l.length-z.2) (fun z=>Option.bind (ia g j q (g.aq.l.drop z.2) z.2 z.1) p=some r) ((Sl.nil:Sl Bs),0) b wA ?_
  rintro ⟨m,o⟩ b ab J;try dsimp only at b
  refine ay fun K y=>?_;refine ag (S Mv (S Fv (S Ld ?_)));refine sLen (f:=aj.c) (s:=g.aq) (TK rfl) rfl rfl rfl rfl fun ad=>?_;refine S BI (S Mv (G0 Mv (S PA (nil ?_))));refine ah.xf (fun l=>Option.bind (ia g j q l o m) p=some r) (Option.bind (some m) p=some r) b (fun b=>by rw [ia] at b; exact b) (fun _ L b=>by rw [ia] at b; rw [L] at b; exact b) rfl rfl (fun ae B t M b=>?_) (fun t b=>?_)
  ·rw [ia] at b;rw [M,cond_true] at b;try dsimp only at t
   have af:=oD (and_left t);refine sk y ?_;clear y K;refine aQ (TA 1 (TA 2 (TA 6 (TA 7 (TA 8 kN))))) (fun(z:(Sl Bs))=>[(5,.a (.d (Sl.d 1 aO (some i) z)))]) (fun z=>(H.set i (some (.tok 1 z.l.length)))) (fun z=>Option.bind (ia g j q (g.aq.l.drop (o+1)) (o+1) z) p=some r) ?_ ?_
   ·intro al u;refine block ?_;refine ag (S Fv (S Ld (S Mv ?_)));obtain⟨an,N,b⟩:=vO B b;refine S (ix aj.c o N) (S Ld ?_);refine Sl ?_;refine Sf ?_;refine nil ?_;refine bu 9 _ rfl (KA 1 (KA 2 (KA 5 (KA 6 (KA 7 (KA 8 aS.nil)))))) ?_;refine ay fun O C=>?_;refine ag (S Fv (S Ld (S BI (S Mv (G0 Ld (G0 Mv ?_))))));obtain⟨ao,P,b⟩:=eS (Od _ _) b;refine fw 36 37 rfl rfl rfl rfl rfl rfl (fun hC=>Oc (P hC)) ?_
    refine G1 38 rfl NB ?_;refine S PO (nil ?_);obtain⟨ap,w,b⟩:=dI b;refine cO b (fun Q b=>?_) (fun Q b=>?_)
    ·refine ah.exit ?_;have b:=ku w b;exact u _ m wA b
    refine sk C ?_;clear C O;refine ag (S Fv (S Ld (S BI (S Mv (G0 Fv ?_)))));refine G1 45 rfl Ld ?_;refine G0 Mv ?_;refine G2 46 47 rfl rfl BS ?_;refine S PA (S As (nil ?_));refine ag (S Mv (S Mv (G0 Fv ?_)));refine G1 52 rfl Ld ?_;refine G1 53 rfl BI ?_;refine G1 54 rfl Mv ?_;refine G0 Fv ?_;refine G1 56 rfl Ld ?_;refine G0 Mv ?_;obtain⟨au,R,b⟩:=eH (fun _=>(AL _ _)) b;refine fw 57 58 rfl rfl rfl rfl rfl rfl (fun hC=>AM (R hC)) ?_
    refine gC rfl rfl (fun hC=>aK (k:=55) rfl (iM rfl rfl rfl)) rfl ?_;refine S PO (S As (nil ?_));refine ag (S Mv (S Mv (G0 Fv ?_)));refine G1 64 rfl Ld ?_;refine G1 65 rfl BI ?_;refine G1 66 rfl Mv ?_;refine G0 Ld (G0 Fv ?_);refine G1 69 rfl Ld ?_;obtain⟨aw,U,b⟩:=eH (fun _=>(Ga _ _)) b;refine fw 68 70 rfl rfl rfl rfl rfl rfl (fun hC=>Gb (U hC)) ?_;refine gC rfl rfl (fun hC=>aK (k:=67) rfl (iM rfl rfl rfl)) rfl ?_
    refine S PO (S As (nil ?_));refine ag (S Mv (nil ?_));refine cO b (fun W b=>?_) (fun W b=>?_)
    ·refine region ?_;refine S Mv (S Fv (S Ld (S BV ?_)));obtain⟨E,X,b⟩:=qO rfl b;refine SH (am aO (TK rfl) rfl (TK rfl) (TK rfl) X) ?_;refine hq (H.set i (some (.tok 1 E.l.length))) ?_;refine S As (nil ?_);have b:=ku w b;exact u _ E wA b
    refine ah.skip ?_;have b:=ku w b;exact u _ m wA b
   rintro Y b;try dsimp only at b
   refine region ?_;refine S Mv ?_;refine SI ?_;refine S As (nil ?_);exact J _ (Y,(o+1)) wA b (dl B)
  have b:=ku I b;refine ah.exit ?_;obtain⟨ax,Z,b⟩:=bW b;have b:=ku Z b;exact G _ m wA b
 rintro az b;try dsimp only at b
 refine ag (S Mv (S As (nil ?_)));refine ah.dU 4 rfl ?_;refine ah.ret ?_;repeat (first|refine bF ?_|refine bG ?_)
 obtain rfl:=oJ b;refine bn.bH H rfl ⟨rfl,rfl⟩ ?_
 first|exact ai.cm x|(simp only [ai.set_set]; exact ai.cm x)
def nN (i:ak) (b:Bs) (j:Bs):Option Bool:=(tw i j).bind fun f=>on (mw f b) fun g=>some g
def A4 (f:ak) (b:Bs) (g:Bs):Option Bool:=nN f b g
theorem Og (a0:ak) (b:Bs) (a2:Bs):A4 a0 b a2=nN a0 b a2:=rfl
theorem Oh {g:ak}{f i:Bs}{r:Bool}(b:A4 g f i=some r) (H:ai) :AC Tryz.prog 157 [.agg (ak.c g),.d (.str f),.d (.str i)] H fun v h'=>v=.a (.d (.bool r))/\h'=H:=by
 unfold A4 nN at b;refine AC.oW 12 [.tmp 6] Tryz.call157 Tryz.func157 ?_;refine ag (S BX (S As (nil ?_)));refine ag (S Ld (S Mv ?_));obtain⟨l,j,b⟩:=qT (Oe _ _) b;refine Sc rfl rfl (Of j) ?_;refine S Mv ?_;obtain⟨m,k,b⟩:=vT (AL _ _) b;refine Sc rfl rfl (AM k) ?_;refine S As (nil ?_);exact rt b
def iN:Nat->ak->az->az->Option Bool
 | 0,_,_,_=>none
 | n+1,k,b,f=>on (gj f) fun l=>bif l then(on (gj b) fun g=>aR (g) (mB b) az.zero fun m=>aR (g) (mB f) az.zero fun o=>aR (g) ((iN n) k m o) false fun p=>some (g&&p)) else(on (gj b) fun q=>bif q then((mB b).bind fun r=>((iN n) k r f).bind fun s=>some s) else((jx b).bind fun i=>(jx f).bind fun j=>bif (i.2&&j.2) then(((iN n) k i.1 j.1).bind fun t=>some t) else(aR ((((!i.2)&&(!j.2))&&!((b.aa==f.aa)))) (nN k b.aa f.aa) false fun u=>some (((!i.2)&&(!j.2))&&(((b.aa==f.aa))||u)))))
def A5 (n:Nat):Prop:=∀{a0:ak}{b:az}{a2:az}   {r:Bool},iN n a0 b a2=some r->∀(H:ai),AC Tryz.prog 124 [.agg (ak.c a0),.agg (az.c b),.agg (az.c a2)] H fun v h'=>v=.a (.d (.bool r))/\h'=H
theorem Oi (n:Nat) (f:A5 (ax:=ax) n):A5 (ax:=ax) (n+1):=by
 intro Y I Z   r b H;rw [iN] at b;refine AC.oW 69 [.tmp 6] Tryz.call124 Tryz.func124 ?_;refine ag (S BX (S BX (S BX (S As (nil ?_)))));refine ay fun l g=>?_;refine ag (S Ld ?_);obtain⟨J,m,b⟩:=vT (qV _) b;refine Sc rfl rfl (qW m) ?_;refine nil ?_;refine cE b (fun o b=>?_) (fun o b=>?_)
 ·refine ah.cr (Sd Ld ?_);obtain⟨K,p,b⟩:=vT (qV _) b;refine cM rfl rfl (qW p) ?_;refine Sd Mv (dr Ld (dr Ld ?_));obtain⟨L,q,b⟩:=dQ (vc _) b;refine pn 17 rfl rfl rfl rfl rfl (fun hC=>ve (q hC)) ?_;refine dr Ld ?_;obtain⟨M,s,b⟩:=dQ (vc _) b;refine pn 19 rfl rfl rfl rfl rfl (fun hC=>ve (s hC)) ?_;obtain⟨N,t,b⟩:=dQ rfl b;refine au.gC rfl rfl (fun hC=>aK (k:=16) rfl (aK (k:=18) rfl (aK (k:=20) rfl (iJ rfl rfl (fun H=>f (t hC) H))))) rfl ?_
  refine Sd PA (Sd As ?_);refine au.nil (by decide +kernel) ?_;exact rt b
 refine sk g ?_;clear g l;refine ay fun u i=>?_;refine ag (S Ld ?_);obtain⟨O,v,b⟩:=vT (qV _) b;refine Sc rfl rfl (qW v) ?_;refine nil ?_;refine cE b (fun w b=>?_) (fun w b=>?_)
 ·refine ah.cr (Sd Ld (Sd Ld ?_));obtain⟨P,x,b⟩:=qT (vc _) b;refine cM rfl rfl (ve x) ?_;refine Sd Ld ?_;obtain⟨Q,y,b⟩:=qT rfl b;refine cM rfl rfl (f y) ?_;refine Sd As ?_;refine au.nil (by decide +kernel) ?_;exact rt b
 refine sk i ?_;clear i u;refine ag (S Ld ?_);obtain⟨R,z,b⟩:=qT (AX _) b;refine Sc rfl rfl (AY z) ?_;refine S Mv (S EX (S EX ?_));refine Sl ?_;refine Sf ?_;refine S As (nil ?_);refine bu 7 _ rfl (KA 3 (KA 4 (KA 5 (KA 8 aS.nil)))) ?_;refine ag (S Ld ?_);obtain⟨U,B,b⟩:=qT (AX _) b;refine Sc rfl rfl (AY B) ?_;refine S Mv (S EX (S EX ?_));refine Sl ?_
 refine Sf ?_;refine S As (nil ?_);refine bu 9 _ rfl (KA 3 (KA 4 (KA 5 (KA 7 (KA 8 (KA 10 aS.nil)))))) ?_;refine ay fun C j=>?_;refine ag (S Mv (S Mv (G0 Mv (S PA (nil ?_)))));refine cE b (fun E b=>?_) (fun E b=>?_)
 ·refine ag (S Ld (S Ld (S Ld ?_)));obtain⟨W,F,b⟩:=qT rfl b;refine Sc rfl rfl (f F) ?_;refine S As (nil ?_);exact rt b
 refine sk j ?_;clear j C;refine ag (S Mv (S NB (S Mv (G0 Mv ?_))));refine G1 51 rfl NB ?_;refine S PA (S Mv (G0 Fv ?_));refine G1 55 rfl Ld ?_;refine G0 Fv ?_;refine G1 57 rfl Ld ?_;refine G2 56 58 rfl rfl BS ?_;refine G1 59 rfl Mv ?_;refine G0 Ld (G0 Fv ?_);refine G1 62 rfl Ld ?_;refine G0 Fv ?_;refine G1 64 rfl Ld ?_;obtain⟨X,G,b⟩:=dQ (Og _ _ _) b;refine gC rfl rfl (fun hC=>aK (k:=61) rfl (aK (k:=63) rfl (aK (k:=65) rfl (iJ rfl rfl (fun H=>Oh (G hC) H))))) rfl ?_
 refine gC rfl rfl (fun hC=>aK (k:=60) rfl (sX rfl rfl rfl)) rfl ?_;refine S PA (S As (nil ?_));exact rt b
theorem Gc:∀(n:Nat),(A5 (ax:=ax) n)
 | 0=>fun b=>by first|cases b|(rw [iN] at b; cases b)
 | n+1=>Oi n (Gc n)
def Ge (f:ak) (b:az) (g:az):Option Bool:=iN F0 f b g
theorem Oj {f:ak}{b g:az}{r:Bool}(i:Ge f b g=some r) (H:ai) :AC Tryz.prog 124 [.agg (ak.c f),.agg (az.c b),.agg (az.c g)] H fun v h'=>v=.a (.d (.bool r))/\h'=H:=(Gc F0) i H 
def xH (f:ak) (b:az) (g:az):Option Bool:=iN F0 f b g
theorem Ol (a0:ak) (b:az) (a2:az):Ge a0 b a2=xH a0 b a2:=rfl
def j6 (i:Bs) (j:(Z7×Bool)):List Z8->(Sl Z6)->Option ((Sl Z6))
 | [],b=>some b
 | g::k,b=>on (g) fun l=>on (gQ j.1.aH l.aa) fun f=>on (bif !(!f.2) then g else Z8.zero) fun m=>aR (!(!f.2)) (mA f.1.aA m.aA) false fun o=>Option.bind (bif ((!f.2)||(!o)) then((bM i ([40]:Bs)).bind fun p=>on (g) fun q=>(bM p q.aa).bind fun r=>(bM r ([41]:Bs)).bind fun s=>(aW 24 b (⟨false,[(Z6.mk (22:Int) s)]⟩:Sl Z6)).bind fun t=>some t) else(some b)) fun u=>j6 i j (k) u
def j7 (k:Z7) (i:Bs):List Z8->(Sl Z6)->Option ((Sl Z6))
 | [],b=>some b
 | f::l,b=>on (f) fun m=>on (gQ k.aH m.aa) fun g=>on (bif (!g.2) then f else Z8.zero) fun o=>on (bif (!g.2) then gj o.aA else false) fun j=>on (bif ((!g.2)&&j) then f else Z8.zero) fun p=>Option.bind (bif (((!g.2)&&j)&&(!p.bY)) then((bM i ([40]:Bs)).bind fun q=>on (f) fun r=>(bM q r.aa).bind fun s=>(bM s ([41]:Bs)).bind fun t=>(aW 24 b (⟨false,[(Z6.mk (22:Int) t)]⟩:Sl Z6)).bind fun u=>some u) else(some b)) fun v=>j7 k i (l) v
def nO (t:ak) (i:aj) (b:Z7):Option (Sl Z6):=(bM i.aa ([46]:Bs)).bind fun j=>(bM j b.aa).bind fun f=>on (nJ i b.aa) fun g=>bif (!g.2) then(some (⟨false,[(Z6.mk (20:Int) f)]⟩:Sl Z6)) else((xH t g.1.aA b.aA).bind fun k=>Option.bind (bif (!k) then((aW 24 (Sl.nil:Sl Z6) (⟨false,[(Z6.mk (10:Int) f)]⟩:Sl Z6)).bind fun m=>some m) else(some (Sl.nil:Sl Z6))) fun o=>Option.bind (j6 f g b.aH.l o) fun p=>on (p) fun q=>Option.bind (j7 b f g.1.aH.l q) fun r=>on (r) fun s=>some s)
def A6 (f:ak) (b:aj) (g:Z7):Option (Sl Z6):=nO f b g
theorem Om (a0:ak) (b:aj) (a2:Z7):A6 a0 b a2=nO a0 b a2:=rfl
theorem On {Y:ak}{I:aj}{i:Z7}{r:Sl Z6}(b:A6 Y I i=some r) (H:ai) :AC Tryz.prog 91 [.agg (ak.c Y),.agg (aj.c I),.agg (Z7.c i)] H fun v h'=>v=.a (.d (Sl.d 2 Z6.c none r))/\h'=H:=by
 unfold A6 nO at b;refine AC.oW 148 [.tmp 6] Tryz.call91 Tryz.func91 ?_;refine ah.tok 2 fun g w=>?_;refine ag (S BX (S BX (S BX ?_)));refine s0 (dR (k':=2) rfl) rfl ?_;refine nil ?_;refine ag (S Fv (S Ld ?_));obtain⟨a6,Z,b⟩:=qT rfl b;refine s0 (cL rfl rfl Z) rfl ?_;refine S Fv (S Ld ?_);obtain⟨m,aa,b⟩:=qT rfl b;refine s0 (cL rfl rfl aa) rfl ?_;refine S As (nil ?_)
 refine ag (S Ld (S Fv (S Ld ?_)));obtain⟨j,ab,b⟩:=vT (F4 _ _) b;refine Sc rfl rfl (F5 ab) ?_;refine S Mv (S EX (S EX ?_));refine Sl ?_;refine Sf ?_;refine S As (nil ?_);refine bu 8 _ rfl (KA 3 (KA 5 (KA 7 (KA 9 aS.nil)))) ?_;refine ay fun ad J=>?_;refine ag (S Mv (S NB (nil ?_)));refine cE b (fun ae b=>?_) (fun ae b=>?_)
 ·refine ag (S Mv (S BU (S BV (S As (nil ?_)))));refine ah.ret ?_;repeat (first|refine bF ?_|refine bG ?_)
  obtain rfl:=oJ b;refine bn.bH H rfl ⟨rfl,rfl⟩ ?_
  first|exact ai.cm w|(simp only [ai.set_set]; exact ai.cm w)
 refine sk J ?_;clear J ad;refine ag (S As (nil ?_));refine ah.fJ 10 2 g rfl av ?_;refine aQ (TA 5 (TA 7 (TA 8 kN))) (fun(z:(Sl Z6))=>[(10,.a (.d (Sl.d 2 Z6.c (some g) z)))]) (fun z=>(H.set g (some (.tok 2 z.l.length)))) (fun z=>(Option.bind (j6 m j i.aH.l z) fun q=>on (q) fun B=>Option.bind (j7 i m j.1.aH.l B) fun o=>on (o) fun x=>some x)=some r) ?_ ?_
 ·intro a7 K;refine ag (S Ld (S Fv (S Ld (S Fv (S Ld ?_)))));obtain⟨a8,af,b⟩:=qT (Ol _ _ _) b;refine Sc rfl rfl (Oj af) ?_;refine S NB (nil ?_);obtain⟨a9,L,b⟩:=b_ b;refine cO b (fun al b=>?_) (fun al b=>?_)
  ·refine region ?_;refine S Mv (S Mv (S BU (S BV ?_)));obtain⟨M,an,b⟩:=qO rfl b;refine SH (am Z6.c (TK rfl) rfl (TK rfl) (TK rfl) an) ?_;refine hq (H.set g (some (.tok 2 M.l.length))) ?_;refine S As (nil ?_);have b:=ku L b;exact K _ M wA b
  refine ah.skip ?_;have b:=ku L b;exact K _ (Sl.nil:Sl Z6) wA b
 rintro ao b;try dsimp only at b
 refine aQ (TA 5 (TA 7 (TA 8 kN))) (fun(z:(Sl Z6))=>[(10,.a (.d (Sl.d 2 Z6.c (some g) z)))]) (fun z=>(H.set g (some (.tok 2 z.l.length)))) (fun z=>(Option.bind (j7 i m j.1.aH.l z) fun o=>on (o) fun x=>some x)=some r) ?_ ?_
 ·intro a_ ap;refine ag (S As (nil ?_));refine block ?_;obtain⟨C,aq,b⟩:=b_ b;refine bA (TA 5 (TA 7 (TA 8 kN))) (fun(z:(Sl Z6)×Nat)=>[(10,.a (.d (Sl.d 2 Z6.c (some g) z.1))),(11,.a (.d (.int .i64 ((z.2:Nat):Int))))]) (fun z=>(H.set g (some (.tok 2 z.1.l.length)))) (fun z=>i.aH.l.length-z.2) (fun z=>Option.bind (j6 m j (i.aH.l.drop z.2) z.1) C=some r) (ao,0) b wA ?_
  rintro ⟨q,t⟩ b a' aw;try dsimp only at b
  refine ay fun ax N=>?_;refine ag (S Mv (S Fv (S Ld ?_)));refine sLen (f:=Z8.c) (s:=i.aH) (TK rfl) rfl rfl rfl rfl fun ba=>?_;refine S BI (nil ?_);refine ah.bN (fun l=>Option.bind (j6 m j l q) C=some r) b rfl (fun bb y E b=>?_) (fun E b=>?_)
  ·rw [j6] at b;try dsimp only at E
   have bc:=oD E;refine sk N ?_;clear N ax;refine aQ (TA 5 (TA 7 (TA 8 (TA 11 kN)))) (fun(z:(Sl Z6))=>[(10,.a (.d (Sl.d 2 Z6.c (some g) z)))]) (fun z=>(H.set g (some (.tok 2 z.l.length)))) (fun z=>Option.bind (j6 m j (i.aH.l.drop (t+1)) z) C=some r) ?_ ?_
   ·intro bd O;refine block ?_;refine ah.cr (Sd Fv (Sd Ld (Sd Fv (Sd Ld (Sd Mv ?_)))));obtain⟨be,az,b⟩:=vO y b;refine Sd (ix Z8.c t az) (Sd Fv (Sd Ld ?_));obtain⟨bf,aA,b⟩:=vO (xE _ _) b;refine cM rfl rfl (xF aA) ?_;refine Sd Mv (Sd EX (Sd EX ?_));refine au.sB (TK rfl) rfl rfl ?_ (by repeat (first|exact bL.nil|apply bL.cons));refine au.dB (eG (TK rfl) rfl rfl rfl rfl rfl) ?_
    refine Sd As ?_;refine au.nil (by decide +kernel) ?_;refine bu 12 _ rfl (KA 5 (KA 7 (KA 8 (KA 10 (KA 11 (KA 13 aS.nil)))))) ?_;refine ah.cr (Sd Mv (Sd NB (Sd Mv (dr Fv ?_))));refine dK 69 rfl Ld ?_;refine dr Fv ?_;refine dK 71 rfl Ld ?_;refine dr Mv ?_;obtain⟨bg,aB,b⟩:=eH (fun _=>y) b;refine au.gC rfl rfl (fun hC=>aK (k:=72) rfl (aK (k:=73) rfl (ee (f:=Z8.c) (n:=t) (TK rfl) rfl (TK rfl) rfl rfl rfl (aB hC)))) rfl ?_
    refine dK 74 rfl Fv ?_;refine dK 75 rfl Ld ?_;obtain⟨bh,aC,b⟩:=eS (AP _ _) b;refine u3 70 76 rfl rfl rfl rfl rfl rfl (fun hC=>AR (aC hC)) ?_;refine dK 77 rfl NB ?_;refine Sd PO ?_;refine au.nil (by decide +kernel) ?_;obtain⟨bi,P,b⟩:=dI b;refine cO b (fun aD b=>?_) (fun aD b=>?_)
    ·refine region ?_;refine S Mv (S Mv ?_);obtain⟨bj,aE,b⟩:=qO rfl b;refine s0 (cL rfl rfl aE) rfl ?_;refine S Fv (S Ld (S Mv ?_));obtain⟨bk,aF,b⟩:=vO y b;refine S (ix Z8.c t aF) (S Fv (S Ld ?_));obtain⟨bl,aG,b⟩:=qO rfl b;refine s0 (cL rfl rfl aG) rfl ?_;obtain⟨bm,aI,b⟩:=qO rfl b;refine s0 (cL rfl rfl aI) rfl ?_;refine S BU (S BV ?_);obtain⟨Q,aJ,b⟩:=qO rfl b
     refine SH (am Z6.c (TK rfl) rfl (TK rfl) (TK rfl) aJ) ?_;refine hq (H.set g (some (.tok 2 Q.l.length))) ?_;refine S As (nil ?_);have b:=ku P b;exact O _ Q wA b
    refine ah.skip ?_;have b:=ku P b;exact O _ q wA b
   rintro aL b;try dsimp only at b
   refine region ?_;refine S Mv ?_;refine SI ?_;refine S As (nil ?_);exact aw _ (aL,(t+1)) wA b (dl y)
  rw [j6] at b;have b:=ku aq b;refine ah.exit ?_;obtain⟨bo,aM,b⟩:=bW b;have b:=ku aM b;exact ap _ q wA b
 rintro B b;try dsimp only at b
 refine aQ kN (fun(z:(Sl Z6))=>[(10,.a (.d (Sl.d 2 Z6.c (some g) z)))]) (fun z=>(H.set g (some (.tok 2 z.l.length)))) (fun z=>(some z)=some r) ?_ ?_
 ·intro bp aN;refine ag (S As (nil ?_));refine block ?_;obtain⟨F,aO,b⟩:=b_ b;refine bA (TA 5 (TA 7 (TA 8 kN))) (fun(z:(Sl Z6)×Nat)=>[(10,.a (.d (Sl.d 2 Z6.c (some g) z.1))),(14,.a (.d (.int .i64 ((z.2:Nat):Int))))]) (fun z=>(H.set g (some (.tok 2 z.1.l.length)))) (fun z=>j.1.aH.l.length-z.2) (fun z=>Option.bind (j7 i m (j.1.aH.l.drop z.2) z.1) F=some r) (B,0) b wA ?_
  rintro ⟨o,p⟩ b bq aP;try dsimp only at b
  refine ay fun aR R=>?_;refine ag (S Mv (S Fv (S Ld ?_)));refine sLen (f:=Z8.c) (s:=j.1.aH) (TK rfl) rfl rfl rfl rfl fun br=>?_;refine S BI (nil ?_);refine ah.bN (fun l=>Option.bind (j7 i m l o) F=some r) b rfl (fun bs u G b=>?_) (fun G b=>?_)
  ·rw [j7] at b;try dsimp only at G
   have bt:=oD G;refine sk R ?_;clear R aR;refine aQ (TA 5 (TA 7 (TA 8 (TA 14 kN)))) (fun(z:(Sl Z6))=>[(10,.a (.d (Sl.d 2 Z6.c (some g) z)))]) (fun z=>(H.set g (some (.tok 2 z.l.length)))) (fun z=>Option.bind (j7 i m (j.1.aH.l.drop (p+1)) z) F=some r) ?_ ?_
   ·intro bv U;refine block ?_;refine ah.cr (Sd Fv (Sd Ld (Sd Fv (Sd Ld (Sd Mv ?_)))));obtain⟨bw,aT,b⟩:=vO u b;refine Sd (ix Z8.c p aT) (Sd Fv (Sd Ld ?_));obtain⟨bx,aU,b⟩:=vO (xE _ _) b;refine cM rfl rfl (xF aU) ?_;refine Sd Mv (Sd EX (Sd EX ?_));refine au.sB (TK rfl) rfl rfl ?_ (by repeat (first|exact bL.nil|apply bL.cons));refine au.dB (eG (TK rfl) rfl rfl rfl rfl rfl) ?_
    refine Sd As ?_;refine au.nil (by decide +kernel) ?_;refine bu 15 _ rfl (KA 5 (KA 7 (KA 8 (KA 10 (KA 14 (KA 16 aS.nil)))))) ?_;refine ag (S Mv (S NB (S Mv (G0 Fv ?_))));refine G1 116 rfl Ld ?_;refine G0 Mv ?_;obtain⟨bz,aV,b⟩:=eH (fun _=>u) b;refine gC rfl rfl (fun hC=>aK (k:=117) rfl (aK (k:=118) rfl (ee (f:=Z8.c) (n:=p) (TK rfl) rfl (TK rfl) rfl rfl rfl (aV hC)))) rfl ?_
    refine G1 119 rfl Fv ?_;refine G1 120 rfl Ld ?_;obtain⟨bB,aW,b⟩:=eH (fun _=>(qV _)) b;refine dz 121 rfl rfl rfl rfl rfl (fun hC=>qW (aW hC)) ?_;refine S PA (S Mv (G0 Fv ?_));refine G1 125 rfl Ld ?_;refine G0 Mv ?_;obtain⟨bC,aX,b⟩:=eH (fun _=>u) b;refine gC rfl rfl (fun hC=>aK (k:=126) rfl (aK (k:=127) rfl (ee (f:=Z8.c) (n:=p) (TK rfl) rfl (TK rfl) rfl rfl rfl (aX hC)))) rfl ?_
    refine G1 128 rfl Fv ?_;refine G1 129 rfl Ld ?_;refine G1 130 rfl NB ?_;refine S PA (nil ?_);obtain⟨bD,W,b⟩:=dI b;refine cO b (fun aY b=>?_) (fun aY b=>?_)
    ·refine region ?_;refine S Mv (S Mv ?_);obtain⟨bE,aZ,b⟩:=qO rfl b;refine s0 (cL rfl rfl aZ) rfl ?_;refine S Fv (S Ld (S Mv ?_));obtain⟨bI,a0,b⟩:=vO u b;refine S (ix Z8.c p a0) (S Fv (S Ld ?_));obtain⟨bK,a1,b⟩:=qO rfl b;refine s0 (cL rfl rfl a1) rfl ?_;obtain⟨bM,a2,b⟩:=qO rfl b;refine s0 (cL rfl rfl a2) rfl ?_;refine S BU (S BV ?_);obtain⟨X,a3,b⟩:=qO rfl b
     refine SH (am Z6.c (TK rfl) rfl (TK rfl) (TK rfl) a3) ?_;refine hq (H.set g (some (.tok 2 X.l.length))) ?_;refine S As (nil ?_);have b:=ku W b;exact U _ X wA b
    refine ah.skip ?_;have b:=ku W b;exact U _ o wA b
   rintro a4 b;try dsimp only at b
   refine region ?_;refine S Mv ?_;refine SI ?_;refine S As (nil ?_);exact aP _ (a4,(p+1)) wA b (dl u)
  rw [j7] at b;have b:=ku aO b;refine ah.exit ?_;obtain⟨bO,a5,b⟩:=bW b;have b:=ku a5 b;exact aN _ o wA b
 rintro x b;try dsimp only at b
 refine ag (S Mv (S As (nil ?_)));refine ah.dU 6 rfl ?_;refine ah.ret ?_;repeat (first|refine bF ?_|refine bG ?_)
 obtain rfl:=oJ b;refine bn.bH H rfl ⟨rfl,rfl⟩ ?_
 first|exact ai.cm w|(simp only [ai.set_set]; exact ai.cm w)
def j8 (g:ak) (f:aj):List Z7->(Sl Z6)->Option ((Sl Z6))
 | [],b=>some b
 | i::j,b=>on (i) fun k=>(nO g f k).bind fun l=>(aW 24 b l).bind fun m=>j8 g f (j) m
def lC (i:ak) (b:aj):List Bs->Nat->(Sl Z6)->Option ((Sl Z6))
 | [],j,g=>some g
 | k::o,j,g=>on (k) fun p=>on (qS i p (2:Int)) fun f=>on (bif (decide (f=(0:Int))) then(⟨b.aX.nl,b.aX.l.take j⟩:Sl Bs) else(Sl.nil:Sl Bs)) fun q=>on (bif (decide (f=(0:Int))) then k else([]:Bs)) fun r=>on (bif (decide (f=(0:Int))) then mw q r else false) fun s=>on (bif ((decide (f=(0:Int)))&&s) then((7:Int)) else(f)) fun m=>Option.bind (bif (!decide (m=(0:Int))) then((aW 24 g (⟨false,[(Z6.mk m b.aa)]⟩:Sl Z6)).bind fun t=>some t) else(on (k) fun u=>on (eA i u) fun v=>Option.bind (j8 i b v.1.aB.l g) fun w=>some w)) fun x=>lC i b (o) (j+1) x
def vg (i:ak) (b:aj):Option (Sl Z6):=Option.bind (lC i b b.aX.l 0 (Sl.nil:Sl Z6)) fun f=>on (f) fun g=>some g
def A7 (f:ak) (b:aj):Option (Sl Z6):=vg f b
theorem Oo (a0:ak) (b:aj):A7 a0 b=vg a0 b:=rfl
theorem Oq {m:ak}{g:aj}{r:Sl Z6}(b:A7 m g=some r) (H:ai) :AC Tryz.prog 53 [.agg (ak.c m),.agg (aj.c g)] H fun v h'=>v=.a (.d (Sl.d 2 Z6.c none r))/\h'=H:=by
 unfold A7 vg at b;refine AC.oW 76 [.tmp 4] Tryz.call53 Tryz.func53 ?_;refine ah.tok 2 fun i C=>?_;refine ag (S BX (S BX ?_));refine s0 (dR (k':=2) rfl) rfl ?_;refine nil ?_;refine ag (S As (nil ?_));refine ah.fJ 5 2 i rfl av ?_;refine aQ kN (fun(z:(Sl Z6))=>[(5,.a (.d (Sl.d 2 Z6.c (some i) z)))]) (fun z=>(H.set i (some (.tok 2 z.l.length)))) (fun z=>(some z)=some r) ?_ ?_
 ·intro aL W;refine ag (S As (nil ?_));refine block ?_;obtain⟨q,X,b⟩:=b_ b;refine bA (TA 2 (TA 3 kN)) (fun(z:(Sl Z6)×Nat)=>[(5,.a (.d (Sl.d 2 Z6.c (some i) z.1))),(6,.a (.d (.int .i64 ((z.2:Nat):Int))))]) (fun z=>(H.set i (some (.tok 2 z.1.l.length)))) (fun z=>g.aX.l.length-z.2) (fun z=>Option.bind (lC m g (g.aX.l.drop z.2) z.2 z.1) q=some r) ((Sl.nil:Sl Z6),0) b wA ?_
  rintro ⟨o,j⟩ b aM Y;try dsimp only at b
  refine ay fun Z E=>?_;refine ag (S Mv (S Fv (S Ld ?_)));refine sLen (f:=aO) (s:=g.aX) (TK rfl) rfl rfl rfl rfl fun aN=>?_;refine S BI (nil ?_);refine ah.bN (fun l=>Option.bind (lC m g l j o) q=some r) b rfl (fun ab t x b=>?_) (fun x b=>?_)
  ·rw [lC] at b;try dsimp only at x
   have aP:=oD x;refine sk E ?_;clear E Z;refine aQ (TA 2 (TA 3 (TA 6 kN))) (fun(z:(Sl Z6))=>[(5,.a (.d (Sl.d 2 Z6.c (some i) z)))]) (fun z=>(H.set i (some (.tok 2 z.l.length)))) (fun z=>Option.bind (lC m g (g.aX.l.drop (j+1)) (j+1) z) q=some r) ?_ ?_
   ·intro aR F;refine block ?_;refine ah.cr (Sd Ld (Sd Fv (Sd Ld (Sd Mv ?_))));obtain⟨aT,ad,b⟩:=vO t b;refine Sd (ix aO j ad) (Sd Ld ?_);obtain⟨ae,af,b⟩:=vO (F6 _ _ _) b;refine cM rfl rfl (F7 af) ?_;refine Sd As ?_;refine au.nil (by decide +kernel) ?_;refine aQ (TA 2 (TA 3 (TA 5 (TA 6 kN)))) (fun(z:Int)=>[(7,.a (.d (.int .i64 z)))]) (fun z=>(H.set i (some (.tok 2 o.l.length)))) (fun z=>Option.bind (Option.bind (bif (!decide (z=(0:Int))) then((aW 24 o (⟨false,[(Z6.mk z g.aa)]⟩:Sl Z6)).bind fun u=>some u) else(on (ab) fun G=>on (eA m G) fun p=>Option.bind (j8 m g p.1.aB.l o) fun w=>some w)) fun y=>lC m g (g.aX.l.drop (j+1)) (j+1) y) q=some r) ?_ ?_
    ·intro aU I;refine ah.cr (Sd Mv (Sd BI (Sd Mv (dr Fv ?_))));refine dK 28 rfl Ld ?_;refine dr Mv ?_;obtain⟨aV,al,b⟩:=eH (fun _=>(Q.qP (by omega))) b;refine au.gC rfl rfl (fun hC=>aK (k:=29) rfl (aK (k:=30) rfl (mm (f:=aO) (l:=none) (r:=(some ((j:Nat):Int))) (TK rfl) rfl (TK rfl) rfl rfl trivial rfl (al hC)))) rfl ?_;refine dr Fv ?_;refine dK 32 rfl Ld ?_
     refine dr Mv ?_;obtain⟨aY,an,b⟩:=eH (fun _=>t) b;refine au.gC rfl rfl (fun hC=>aK (k:=33) rfl (aK (k:=34) rfl (ee (f:=aO) (n:=j) (TK rfl) rfl (TK rfl) rfl rfl rfl (an hC)))) rfl ?_;refine dK 35 rfl Ld ?_;obtain⟨aZ,ao,b⟩:=eH (fun _=>(AL _ _)) b;refine u3 31 36 rfl rfl rfl rfl rfl rfl (fun hC=>AM (ao hC)) ?_;refine Sd PA ?_;refine au.nil (by decide +kernel) ?_
     obtain⟨a0,J,b⟩:=gH b;refine cP b (fun ap b=>?_) (fun ap b=>?_)
     ·refine region ?_;refine S As (nil ?_);have b:=ku J b;exact I _ (7:Int) wA b
     refine ah.skip ?_;have b:=ku J b;exact I _ ae wA b
    rintro a1 b;try dsimp only at b
    refine ay fun aq K=>?_;refine ag (S Mv (S BI (nil ?_)));obtain⟨a2,L,b⟩:=dI b;refine cO b (fun aw b=>?_) (fun aw b=>?_)
    ·refine ag (S Mv (S Mv (S Fv (S Ld (S BU (S BV ?_))))));obtain⟨u,ax,b⟩:=qO rfl b;refine SH (am Z6.c (TK rfl) rfl (TK rfl) (TK rfl) ax) ?_;refine hq (H.set i (some (.tok 2 u.l.length))) ?_;refine S As (nil ?_);refine ah.exit ?_;have b:=ku L b;exact F _ u wA b
    refine sk K ?_;clear K aq;refine ah.cr (Sd Ld (Sd Fv (Sd Ld (Sd Mv ?_))));obtain⟨G,az,b⟩:=vO t b;refine Sd (ix aO j az) (Sd Ld ?_);obtain⟨p,aA,b⟩:=vO (lc _ _) b;refine cM rfl rfl (lg aA) ?_;refine Sd Mv (Sd EX (Sd EX ?_));refine au.sB (TK rfl) rfl rfl ?_ (by repeat (first|exact bL.nil|apply bL.cons));refine au.dB (eG (TK rfl) rfl rfl rfl rfl rfl) ?_
    refine Sd As ?_;refine au.nil (by decide +kernel) ?_;refine bu 8 _ rfl (KA 2 (KA 3 (KA 5 (KA 6 aS.nil)))) ?_;refine ag (S As (nil ?_));refine block ?_;obtain⟨M,aC,b⟩:=dI b;refine bA (TA 2 (TA 3 (TA 6 (TA 8 kN)))) (fun(z:(Sl Z6)×Nat)=>[(5,.a (.d (Sl.d 2 Z6.c (some i) z.1))),(10,.a (.d (.int .i64 ((z.2:Nat):Int))))]) (fun z=>(H.set i (some (.tok 2 z.1.l.length)))) (fun z=>p.1.aB.l.length-z.2) (fun z=>Option.bind (j8 m g (p.1.aB.l.drop z.2) z.1) M=some r) (o,0) b wA ?_
    rintro ⟨w,N⟩ b a3 aD;try dsimp only at b
    refine ay fun aE O=>?_;refine ag (S Mv (S Fv (S Ld ?_)));refine sLen (f:=Z7.c) (s:=p.1.aB) (TK rfl) rfl rfl rfl rfl fun a4=>?_;refine S BI (nil ?_);refine ah.bN (fun l=>Option.bind (j8 m g l w) M=some r) b rfl (fun a5 P B b=>?_) (fun B b=>?_)
    ·rw [j8] at b;try dsimp only at B
     have a6:=oD B;refine sk O ?_;clear O aE;refine ay fun aF R=>?_;refine block ?_;refine ah.draw rfl ?_;refine Sd Mv (Sd Ld (Sd Ld (Sd Fv (Sd Ld (Sd Mv ?_)))));obtain⟨a7,aG,b⟩:=vO P b;refine Sd (ix Z7.c N aG) (Sd Ld ?_);obtain⟨a8,aH,b⟩:=qO (Om _ _ _) b;refine cM rfl rfl (On aH) ?_;obtain⟨U,aI,b⟩:=qO rfl b;refine au.sH (jU (f:=Z6.c) (TK rfl) rfl (TK rfl) (TK rfl) ⟨_,rfl⟩ rfl rfl (by decide) rfl rfl rfl rfl av rfl aI) rfl ?_
     refine au.Dh (H.set i (some (.tok 2 U.l.length))) ?_;refine Sd As ?_;refine au.nil (by decide +kernel) ?_;refine R _ ?_;clear R aF;refine region ?_;refine S Mv ?_;refine SI ?_;refine S As (nil ?_);exact aD _ (U,(N+1)) wA b (dl P)
    rw [j8] at b;have b:=ku aC b;refine ah.exit ?_;have b:=ku L b;exact F _ w wA b
   rintro y b;try dsimp only at b
   refine region ?_;refine S Mv ?_;refine SI ?_;refine S As (nil ?_);exact Y _ (y,(j+1)) wA b (dl t)
  rw [lC] at b;have b:=ku X b;refine ah.exit ?_;obtain⟨a9,aJ,b⟩:=bW b;have b:=ku aJ b;exact W _ o wA b
 rintro a_ b;try dsimp only at b
 refine ag (S Mv (S As (nil ?_)));refine ah.dU 4 rfl ?_;refine ah.ret ?_;repeat (first|refine bF ?_|refine bG ?_)
 obtain rfl:=oJ b;refine bn.bH H rfl ⟨rfl,rfl⟩ ?_
 first|exact ai.cm C|(simp only [ai.set_set]; exact ai.cm C)
def lD (m:ak) (b:aj):List Z9->Nat->(Sl Z6)->Option ((Sl Z6))
 | [],i,f=>some f
 | o::p,i,f=>on (o) fun j=>on (qS m j.aa (1:Int)) fun g=>on (bif (decide (g=(0:Int))) then(⟨b.aG.nl,b.aG.l.take i⟩:Sl Z9) else(Sl.nil:Sl Z9)) fun q=>on (bif (decide (g=(0:Int))) then pw (aj.mk (0:Int) ([]:Bs) (Sl.nil:Sl Bs) (Sl.nil:Sl aC) (Sl.nil:Sl Z7) q (Sl.nil:Sl Z8)) j.aa else false) fun r=>on (bif ((decide (g=(0:Int)))&&r) then((7:Int)) else(g)) fun k=>Option.bind (bif (!decide (k=(0:Int))) then((bM b.aa ([46]:Bs)).bind fun s=>(bM s j.aa).bind fun t=>(aW 24 f (⟨false,[(Z6.mk k t)]⟩:Sl Z6)).bind fun u=>some u) else(some f)) fun v=>lD m b (p) (i+1) v
def vh (i:ak) (b:aj):Option (Sl Z6):=Option.bind (lD i b b.aG.l 0 (Sl.nil:Sl Z6)) fun f=>on (f) fun g=>some g
def A8 (f:ak) (b:aj):Option (Sl Z6):=vh f b
theorem Ot (a0:ak) (b:aj):A8 a0 b=vh a0 b:=rfl
theorem Ou {o:ak}{g:aj}{r:Sl Z6}(b:A8 o g=some r) (H:ai) :AC Tryz.prog 54 [.agg (ak.c o),.agg (aj.c g)] H fun v h'=>v=.a (.d (Sl.d 2 Z6.c none r))/\h'=H:=by
 unfold A8 vh at b;refine AC.oW 49 [.tmp 4] Tryz.call54 Tryz.func54 ?_;refine ah.tok 2 fun i w=>?_;refine ag (S BX (S BX ?_));refine s0 (dR (k':=2) rfl) rfl ?_;refine nil ?_;refine ag (S As (nil ?_));refine ah.fJ 5 2 i rfl av ?_;refine aQ kN (fun(z:(Sl Z6))=>[(5,.a (.d (Sl.d 2 Z6.c (some i) z)))]) (fun z=>(H.set i (some (.tok 2 z.l.length)))) (fun z=>(some z)=some r) ?_ ?_
 ·intro af J;refine ag (S As (nil ?_));refine block ?_;obtain⟨p,K,b⟩:=b_ b;refine bA (TA 2 (TA 3 kN)) (fun(z:(Sl Z6)×Nat)=>[(5,.a (.d (Sl.d 2 Z6.c (some i) z.1))),(6,.a (.d (.int .i64 ((z.2:Nat):Int))))]) (fun z=>(H.set i (some (.tok 2 z.1.l.length)))) (fun z=>g.aG.l.length-z.2) (fun z=>Option.bind (lD o g (g.aG.l.drop z.2) z.2 z.1) p=some r) ((Sl.nil:Sl Z6),0) b wA ?_
  rintro ⟨m,j⟩ b al L;try dsimp only at b
  refine ay fun M x=>?_;refine ag (S Mv (S Fv (S Ld ?_)));refine sLen (f:=Z9.c) (s:=g.aG) (TK rfl) rfl rfl rfl rfl fun an=>?_;refine S BI (nil ?_);refine ah.bN (fun l=>Option.bind (lD o g l j m) p=some r) b rfl (fun ao y t b=>?_) (fun t b=>?_)
  ·rw [lD] at b;try dsimp only at t
   have ap:=oD t;refine sk x ?_;clear x M;refine aQ (TA 2 (TA 3 (TA 6 kN))) (fun(z:(Sl Z6))=>[(5,.a (.d (Sl.d 2 Z6.c (some i) z)))]) (fun z=>(H.set i (some (.tok 2 z.l.length)))) (fun z=>Option.bind (lD o g (g.aG.l.drop (j+1)) (j+1) z) p=some r) ?_ ?_
   ·intro aq B;refine block ?_;refine ag (S Fv (S Ld (S Mv ?_)));obtain⟨N,O,b⟩:=vO y b;refine S (ix Z9.c j O) (S Fv (S Ld (S As (nil ?_))));refine ag (S Ld (S Mv ?_));obtain⟨P,R,b⟩:=vO (F6 _ _ _) b;refine Sc rfl rfl (F7 R) ?_;refine S As (nil ?_);refine aQ (TA 2 (TA 3 (TA 5 (TA 6 (TA 7 kN))))) (fun(z:Int)=>[(8,.a (.d (.int .i64 z)))]) (fun z=>(H.set i (some (.tok 2 m.l.length)))) (fun z=>Option.bind (Option.bind (bif (!decide (z=(0:Int))) then((bM g.aa ([46]:Bs)).bind fun C=>(bM C N.aa).bind fun E=>(aW 24 m (⟨false,[(Z6.mk z E)]⟩:Sl Z6)).bind fun q=>some q) else(some m)) fun u=>lD o g (g.aG.l.drop (j+1)) (j+1) u) p=some r) ?_ ?_
    ·intro au F;refine ag (S Mv (S BI (S Mv (G0 Fv ?_))));refine G1 28 rfl Ld ?_;refine G0 Mv ?_;obtain⟨aw,U,b⟩:=eH (fun _=>(Q.qP (by omega))) b;refine gC rfl rfl (fun hC=>aK (k:=29) rfl (aK (k:=30) rfl (mm (f:=Z9.c) (l:=none) (r:=(some ((j:Nat):Int))) (TK rfl) rfl (TK rfl) rfl rfl trivial rfl (U hC)))) rfl ?_;refine G1 31 rfl BU ?_;refine G0 Mv ?_;obtain⟨ax,W,b⟩:=eH (fun _=>(Ga _ _)) b
     refine fw 32 33 rfl rfl rfl rfl rfl rfl (fun hC=>Gb (W hC)) ?_;refine S PA (nil ?_);obtain⟨az,G,b⟩:=gH b;refine cP b (fun X b=>?_) (fun X b=>?_)
     ·refine region ?_;refine S As (nil ?_);have b:=ku G b;exact F _ (7:Int) wA b
     refine ah.skip ?_;have b:=ku G b;exact F _ P wA b
    rintro aA b;try dsimp only at b
    refine ag (S Mv (S BI (nil ?_)));obtain⟨aB,I,b⟩:=dI b;refine cO b (fun Y b=>?_) (fun Y b=>?_)
    ·refine region ?_;refine S Mv (S Mv (S Fv (S Ld ?_)));obtain⟨C,Z,b⟩:=qO rfl b;refine s0 (cL rfl rfl Z) rfl ?_;refine S Mv ?_;obtain⟨E,ab,b⟩:=qO rfl b;refine s0 (cL rfl rfl ab) rfl ?_;refine S BU (S BV ?_);obtain⟨q,ad,b⟩:=qO rfl b;refine SH (am Z6.c (TK rfl) rfl (TK rfl) (TK rfl) ad) ?_;refine hq (H.set i (some (.tok 2 q.l.length))) ?_;refine S As (nil ?_);have b:=ku I b
     exact B _ q wA b
    refine ah.skip ?_;have b:=ku I b;exact B _ m wA b
   rintro u b;try dsimp only at b
   refine region ?_;refine S Mv ?_;refine SI ?_;refine S As (nil ?_);exact L _ (u,(j+1)) wA b (dl y)
  rw [lD] at b;have b:=ku K b;refine ah.exit ?_;obtain⟨aC,ae,b⟩:=bW b;have b:=ku ae b;exact J _ m wA b
 rintro aD b;try dsimp only at b
 refine ag (S Mv (S As (nil ?_)));refine ah.dU 4 rfl ?_;refine ah.ret ?_;repeat (first|refine bF ?_|refine bG ?_)
 obtain rfl:=oJ b;refine bn.bH H rfl ⟨rfl,rfl⟩ ?_
 first|exact ai.cm w|(simp only [ai.set_set]; exact ai.cm w)
def mC (g:ak):List aj->(Sl Z6)->Option ((Sl Z6))
 | [],b=>some b
 | f::j,b=>on (f) fun i=>Option.bind (bif (decide (i.an=(1:Int))) then(on (f) fun k=>(vg g k).bind fun l=>(aW 24 b l).bind fun m=>some m) else(bif (decide (i.an=(3:Int))) then(on (f) fun o=>(vh g o).bind fun p=>(aW 24 b p).bind fun q=>some q) else(some b))) fun r=>mC g (j) r
def tA (b:ak):Option (Sl Z6):=Option.bind (mC b b.aq.l (Sl.nil:Sl Z6)) fun f=>on (f) fun g=>some g
def A9 (b:ak):Option (Sl Z6):=tA b
theorem Ov (a0:ak):A9 a0=tA a0:=rfl
theorem Ow {i:ak}{r:Sl Z6}(b:A9 i=some r) (H:ai) :AC Tryz.prog 28 [.agg (ak.c i)] H fun v h'=>v=.a (.d (Sl.d 2 Z6.c none r))/\h'=H:=by
 unfold A9 tA at b;refine AC.oW 41 [.tmp 2] Tryz.call28 Tryz.func28 ?_;refine ah.tok 2 fun g u=>?_;refine ag (S BX ?_);refine s0 (dR (k':=2) rfl) rfl ?_;refine nil ?_;refine ag (S As (nil ?_));refine ah.fJ 3 2 g rfl av ?_;refine aQ kN (fun(z:(Sl Z6))=>[(3,.a (.d (Sl.d 2 Z6.c (some g) z)))]) (fun z=>(H.set g (some (.tok 2 z.l.length)))) (fun z=>(some z)=some r) ?_ ?_
 ·intro U B;refine ag (S As (nil ?_));refine block ?_;obtain⟨m,C,b⟩:=b_ b;refine bA (TA 1 kN) (fun(z:(Sl Z6)×Nat)=>[(3,.a (.d (Sl.d 2 Z6.c (some g) z.1))),(4,.a (.d (.int .i64 ((z.2:Nat):Int))))]) (fun z=>(H.set g (some (.tok 2 z.1.l.length)))) (fun z=>i.aq.l.length-z.2) (fun z=>Option.bind (mC i (i.aq.l.drop z.2) z.1) m=some r) ((Sl.nil:Sl Z6),0) b wA ?_
  rintro ⟨o,j⟩ b W E;try dsimp only at b
  refine ay fun F w=>?_;refine ag (S Mv (S Fv (S Ld ?_)));refine sLen (f:=aj.c) (s:=i.aq) (TK rfl) rfl rfl rfl rfl fun X=>?_;refine S BI (nil ?_);refine ah.bN (fun l=>Option.bind (mC i l o) m=some r) b rfl (fun Y k p b=>?_) (fun p b=>?_)
  ·rw [mC] at b;try dsimp only at p
   have Z:=oD p;refine sk w ?_;clear w F;refine aQ (TA 1 (TA 4 kN)) (fun(z:(Sl Z6))=>[(3,.a (.d (Sl.d 2 Z6.c (some g) z)))]) (fun z=>(H.set g (some (.tok 2 z.l.length)))) (fun z=>Option.bind (mC i (i.aq.l.drop (j+1)) z) m=some r) ?_ ?_
   ·intro aa q;refine block ?_;refine ag (S Fv (S Ld (S Mv ?_)));obtain⟨ab,G,b⟩:=vO k b;refine S (ix aj.c j G) (S Fv (S Ld (nil ?_)));refine block ?_;refine ag (S BI (S As (nil ?_)));obtain⟨ad,t,b⟩:=dI b;refine cO b (fun I b=>?_) (fun I b=>?_)
    ·refine ah.draw rfl ?_;refine Sd Mv (Sd Ld (Sd Fv (Sd Ld (Sd Mv ?_))));obtain⟨ae,J,b⟩:=vO k b;refine Sd (ix aj.c j J) (Sd Ld ?_);obtain⟨af,K,b⟩:=qO (Oo _ _) b;refine cM rfl rfl (Oq K) ?_;obtain⟨x,L,b⟩:=qO rfl b;refine au.sH (jU (f:=Z6.c) (TK rfl) rfl (TK rfl) (TK rfl) ⟨_,rfl⟩ rfl rfl (by decide) rfl rfl rfl rfl av rfl L) rfl ?_;refine au.Dh (H.set g (some (.tok 2 x.l.length))) ?_
     refine Sd As ?_;refine au.nil (by decide +kernel) ?_;have b:=ku t b;exact q _ x wA b
    refine ag (S BI (S As (nil ?_)));refine cO b (fun M b=>?_) (fun M b=>?_)
    ·refine ah.draw rfl ?_;refine Sd Mv (Sd Ld (Sd Fv (Sd Ld (Sd Mv ?_))));obtain⟨al,N,b⟩:=vO k b;refine Sd (ix aj.c j N) (Sd Ld ?_);obtain⟨am,O,b⟩:=qO (Ot _ _) b;refine cM rfl rfl (Ou O) ?_;obtain⟨y,P,b⟩:=qO rfl b;refine au.sH (jU (f:=Z6.c) (TK rfl) rfl (TK rfl) (TK rfl) ⟨_,rfl⟩ rfl rfl (by decide) rfl rfl rfl rfl av rfl P) rfl ?_;refine au.Dh (H.set g (some (.tok 2 y.l.length))) ?_
     refine Sd As ?_;refine au.nil (by decide +kernel) ?_;have b:=ku t b;exact q _ y wA b
    refine ah.skip ?_;have b:=ku t b;exact q _ o wA b
   rintro Q b;try dsimp only at b
   refine region ?_;refine S Mv ?_;refine SI ?_;refine S As (nil ?_);exact E _ (Q,(j+1)) wA b (dl k)
  rw [mC] at b;have b:=ku C b;refine ah.exit ?_;obtain⟨an,R,b⟩:=bW b;have b:=ku R b;exact B _ o wA b
 rintro ao b;try dsimp only at b
 refine ag (S Mv (S As (nil ?_)));refine ah.dU 2 rfl ?_;refine ah.ret ?_;repeat (first|refine bF ?_|refine bG ?_)
 obtain rfl:=oJ b;refine bn.bH H rfl ⟨rfl,rfl⟩ ?_
 first|exact ai.cm u|(simp only [ai.set_set]; exact ai.cm u)
def lE (f:af->Option af):List af->(Sl af)->Option ((Sl af))
 | [],b=>some b
 | g::i,b=>on (g) fun j=>(f j).bind fun k=>(aW 80 b (⟨false,[k]⟩:Sl af)).bind fun l=>lE f (i) l
mutual
def iw:Nat->af->Option af
 | 0,_=>none
 | n+1,b=>((qY n) b.aD).bind fun f=>(aW 16 (⟨false,[]⟩:Sl Bs) b.aN).bind fun g=>some (af.mk b.an b.bl b.bg f.nl f.l g)
def qY:Nat->(Sl af)->Option (Sl af)
 | 0,_=>none
 | n+1,g=>Option.bind (lE (iw n) g.l (Sl.nil:Sl af)) fun b=>on (b) fun f=>some f
end
def xI (n:Nat):Prop:=∀{a0:af}   {r:af},iw n a0=some r->∀(H:ai),AC Tryz.prog 173 [.agg (af.c a0)] H fun v h'=>v=.a (.agg (af.c r))/\h'=H
def xJ (n:Nat):Prop:=∀{a0:(Sl af)}{w0:Option Nat}  {r:(Sl af)},qY n a0=some r->∀(H:ai),AC Tryz.prog 186 [.d (Sl.d 5 af.c w0 a0)] H fun v h'=>v=.a (.d (Sl.d 5 af.c none r))/\h'=H
theorem Ox (n:Nat) (s:xI (ax:=ax) n) (k:xJ (ax:=ax) n):xI (ax:=ax) (n+1):=by
 intro g   r b H;rw [iw] at b;refine AC.oW 17 [.cell 2 61] Tryz.call173 Tryz.func173 ?_;refine ag (S BX ?_);refine Sl ?_;refine nil ?_;refine ah.cr (Sd Fv (Sd Ld (Sd Fv (Sd Ld (Sd Fv (Sd Ld (Sd Fv ?_)))))));refine au.s0 (dZ (TK rfl) rfl rfl (congrArg (fun x=>some (A.d x)) (af.dW _))) rfl ?_;obtain⟨i,m,b⟩:=qT rfl b;refine cM rfl rfl (k m) ?_;refine au.s0 (sP (TK rfl) rfl (TK rfl) rfl rfl rfl rfl rfl rfl) rfl ?_
 refine Sd Fv (Sd Ld ?_);obtain⟨o,p,b⟩:=qT rfl b;refine au.s0 (uV (f:=aO) (TK rfl) rfl (TK rfl) (TK rfl) ⟨_,rfl⟩ rfl rfl (by decide) rfl rfl rfl (by intro q h; cases h<;>decide) rfl rfl p) rfl ?_;refine Sd BU ?_;refine au.dB (eG (TK rfl) rfl rfl rfl rfl rfl) ?_;refine au.nil (by decide +kernel) ?_;refine ah.cU 0 (af.c (af.mk g.an g.bl g.bg i.nl i.l o)) rfl (fun j w cs hh hx=>by rw [af.jX]; exact hx) ?_
 exact rt b
theorem Oy (n:Nat) (w:xI (ax:=ax) n) (K:xJ (ax:=ax) n):xJ (ax:=ax) (n+1):=by
 intro j w0  r b H;rw [qY] at b;refine AC.oW 20 [.tmp 2] Tryz.call186 Tryz.func186 ?_;refine ah.tok 5 fun g k=>?_;refine ag ?_;refine s0 (dR (k':=5) rfl) rfl ?_;refine nil ?_;refine ag (S As (nil ?_));refine ah.fJ 3 5 g rfl av ?_;refine aQ kN (fun(z:(Sl af))=>[(3,.a (.d (Sl.d 5 af.c (some g) z)))]) (fun z=>(H.set g (some (.tok 5 z.l.length)))) (fun z=>(some z)=some r) ?_ ?_
 ·intro L x;refine ag (S As (nil ?_));refine block ?_;obtain⟨m,y,b⟩:=b_ b;refine bA (TA 0 kN) (fun(z:(Sl af)×Nat)=>[(3,.a (.d (Sl.d 5 af.c (some g) z.1))),(4,.a (.d (.int .i64 ((z.2:Nat):Int))))]) (fun z=>(H.set g (some (.tok 5 z.1.l.length)))) (fun z=>j.l.length-z.2) (fun z=>Option.bind (lE (iw n) (j.l.drop z.2) z.1) m=some r) ((Sl.nil:Sl af),0) b wA ?_
  rintro ⟨o,p⟩ b M B;try dsimp only at b
  refine ay fun C q=>?_;refine ag (S Mv (S Mv ?_));refine sLen (f:=af.c) (s:=j) (TK rfl) rfl rfl rfl rfl fun N=>?_;refine S BI (nil ?_);refine ah.bN (fun l=>Option.bind (lE (iw n) l o) m=some r) b rfl (fun O t i b=>?_) (fun i b=>?_)
  ·rw [lE] at b;try dsimp only at i
   have P:=oD i;refine sk q ?_;clear q C;refine ay fun E u=>?_;refine block ?_;refine region ?_;refine S Mv (S Mv (S Mv ?_));obtain⟨Q,F,b⟩:=vO t b;refine S (ix af.c p F) (S Ld ?_);obtain⟨R,G,b⟩:=qO rfl b;refine Sc rfl rfl (w G) ?_;refine S BV ?_;obtain⟨v,I,b⟩:=qO rfl b;refine SH (am af.c (TK rfl) rfl (TK rfl) (TK rfl) I) ?_
   refine hq (H.set g (some (.tok 5 v.l.length))) ?_;refine S As (nil ?_);refine u _ ?_;clear u E;refine region ?_;refine S Mv ?_;refine SI ?_;refine S As (nil ?_);exact B _ (v,(p+1)) wA b (dl t)
  rw [lE] at b;have b:=ku y b;refine ah.exit ?_;obtain⟨U,J,b⟩:=bW b;have b:=ku J b;exact x _ o wA b
 rintro W b;try dsimp only at b
 refine ag (S Mv (S As (nil ?_)));refine ah.dU 2 rfl ?_;refine ah.ret ?_;repeat (first|refine bF ?_|refine bG ?_)
 obtain rfl:=oJ b;refine bn.bH H rfl ⟨rfl,rfl⟩ ?_
 first|exact ai.cm k|(simp only [ai.set_set]; exact ai.cm k)
theorem vi:∀(n:Nat),(xI (ax:=ax) n)/\(xJ (ax:=ax) n)
 | 0=>⟨fun b=>by first|cases b|(rw [iw] at b; cases b),fun b=>by first|cases b|(rw [qY] at b; cases b)⟩
 | n+1=>⟨Ox n (vi n).1 (vi n).2,Oy n (vi n).1 (vi n).2⟩
def Gf (a0:af):Option af:=iw F0 a0
theorem Oz {b r:af}(f:Gf b=some r) (H:ai) :AC Tryz.prog 173 [.agg (af.c b)] H fun v h'=>v=.a (.agg (af.c r))/\h'=H:=(vi F0).1 f H 
def xK (b:af):Option af:=iw F0 b
theorem OA (a0:af):Gf a0=xK a0:=rfl
def iy (f:af) (g:Bs):List Bs->Nat->Option (Unit ⊕ ((af×Bool)))
 | [],b=>some (Sum.inl ())
 | i::j,b=>on (i) fun k=>bif ((k==g)) then(bif (decide (((f.aD.l.length:Nat):Int)<=((b:Nat):Int))) then(some (Sum.inr ((af.mk (0:Int) (0:Int) ([]:Bs) true ([]) (Sl.nil:Sl Bs)),false))) else((f.aD.l[b]?).bind fun m=>(xK m).bind fun o=>some (Sum.inr (o,true)))) else(iy f g (j) (b+1) )
def jy (b:af) (f:Bs):Option (af×Bool):=bif (!decide (b.an=(6:Int))) then(some ((af.mk (0:Int) (0:Int) ([]:Bs) true ([]) (Sl.nil:Sl Bs)),false)) else(Option.bind (iy b f b.aN.l 0 ) fun g=>match g with|Sum.inl _=>(on (()) fun _=>some ((af.mk (0:Int) (0:Int) ([]:Bs) true ([]) (Sl.nil:Sl Bs)),false))|Sum.inr i=>(some i))
def A_ (f:af) (b:Bs):Option (af×Bool):=jy f b
theorem Ba (a0:af) (b:Bs):A_ a0 b=jy a0 b:=rfl
theorem Bb {g:af}{i:Bs}{r:af×Bool}(b:A_ g i=some r) (H:ai) :AC Tryz.prog 158 [.agg (af.c g),.d (.str i)] H fun v h'=>v=.cF [.agg (af.c r.1),.d (.bool r.2)]/\h'=H:=by
 unfold A_ jy at b;refine AC.oW 38 [.cell 4 61,.tmp 5] Tryz.call158 Tryz.func158 ?_;refine ag (S BX ?_);refine Sl ?_;refine S As (nil ?_);refine ay fun B o=>?_;refine ag (S Fv (S Ld (S BI (nil ?_))));refine cE b (fun C b=>?_) (fun C b=>?_)
 ·refine ag (S BU ?_);refine Sf ?_;refine S As (nil ?_);exact rt b
 refine sk o ?_;clear o B;refine eb (TA 4 kN) (fun(z:af)=>[]) (fun z=>[af.c z]) (fun z=>H) (fun z=>(some ((af.mk (0:Int) (0:Int) ([]:Bs) true ([]) (Sl.nil:Sl Bs)),false))=some r) ?_ ?_
 ·intro Q E;refine ag (S As (nil ?_));refine block ?_;obtain⟨p,k,b⟩:=b_ b;refine gb (TA 1 (TA 2 (TA 4 kN))) (fun(z:Nat×af)=>[(6,.a (.d (.int .i64 ((z.1:Nat):Int))))]) (fun z=>[af.c z.2]) (fun z=>H) (fun z=>g.aN.l.length-z.1) (fun z=>Option.bind (iy g i (g.aN.l.drop z.1) z.1 ) p=some r) (0,af.zero) b wA ?_;rintro ⟨j,q⟩ b R F;try dsimp only at b
  refine ay fun G t=>?_;refine ag (S Mv (S Fv (S Ld ?_)));refine sLen (f:=aO) (s:=g.aN) (TK rfl) rfl rfl rfl rfl fun U=>?_;refine S BI (nil ?_);refine ah.bN (fun l=>Option.bind (iy g i l j ) p=some r) b rfl (fun W u m b=>?_) (fun m b=>?_)
  ·rw [iy] at b;try dsimp only at m
   have X:=oD m;refine sk t ?_;clear t G;refine ay fun I w=>?_;refine block ?_;refine ag (S Fv (S Ld (S Mv ?_)));obtain⟨Y,J,b⟩:=vO u b;refine S (ix aO j J) (S Ld (S Mv (S BS (nil ?_))));refine cO b (fun K b=>?_) (fun K b=>?_)
   ·refine ay fun L y=>?_;refine ag (S Mv (S Fv ?_));refine s0 (dZ (TK rfl) rfl rfl (congrArg (fun x=>some (A.d x)) (af.dW _))) rfl ?_;refine sLen (f:=af.c) (s:=g.aD) (TK rfl) rfl rfl rfl rfl fun Z=>?_;refine S BI (nil ?_);refine cO b (fun M b=>?_) (fun M b=>?_)
    ·refine ag (S BU ?_);refine Sf ?_;refine S As (nil ?_);refine ah.ret ?_;repeat (first|refine bF ?_|refine bG ?_)
     have b:=ku k b;obtain rfl:=oJ b;refine bn.bH H rfl ⟨rfl,rfl⟩ ?_;exact(fun _ _ h=>h)
    refine sk y ?_;clear y L;refine ag (S Fv ?_);refine s0 (dZ (TK rfl) rfl rfl (congrArg (fun x=>some (A.d x)) (af.dW _))) rfl ?_;refine S Mv ?_;obtain⟨aa,N,b⟩:=qO rfl b;refine S (ix af.c j N) (S Ld ?_);obtain⟨ab,O,b⟩:=qO (OA _) b;refine Sc rfl rfl (Oz O) ?_;refine Sf ?_;refine S As (nil ?_);refine ah.ret ?_;repeat (first|refine bF ?_|refine bG ?_)
    have b:=ku k b;obtain rfl:=oJ b;refine bn.bH H rfl ⟨rfl,rfl⟩ ?_;exact(fun _ _ h=>h)
   refine sk w ?_;clear w I;refine region ?_;refine S Mv ?_;refine SI ?_;refine S As (nil ?_);exact F _ ((j+1),q) wA b (dl u)
  rw [iy] at b;have b:=ku k b;try dsimp only at b
  refine ah.exit ?_;obtain⟨ad,P,b⟩:=bW b;have b:=ku P b;exact E _ q wA b
 rintro ae b;try dsimp only at b
 refine ag (S BU ?_);refine Sf ?_;refine S As (nil ?_);exact rt b
def mD (f:Z4) (b:af):Option Bool:=bif ((!f.eO)||(!decide (b.an=(7:Int)))) then(some false) else((jy f.ep b.bg).bind fun g=>some (!g.2))
def Bc (f:Z4) (b:af):Option Bool:=mD f b
theorem Gg (a0:Z4) (b:af):Bc a0 b=mD a0 b:=rfl
theorem Gh {j:Z4}{f:af}{g:Nat}{r:Bool}(b:Bc j f=some r) (H:ai) (o:H g=some (.cells (Z4.c j))):AC Tryz.prog 126 [.d (.ptr g 0),.agg (af.c f)] H fun v h'=>v=.a (.d (.bool r))/\h'=H:=by
 unfold Bc mD at b;refine AC.oW 29 [.tmp 4] Tryz.call126 Tryz.func126 ?_;refine ag (S BX (S As (nil ?_)));refine ay fun k i=>?_;refine ag (S Mv (S NP ?_));refine s0 (bE (TK rfl) rfl rfl (TK rfl) rfl rfl) rfl ?_;refine s0 (bZ (TK rfl) rfl rfl av rfl) rfl ?_;refine S NB (S Mv (G0 Fv ?_));refine G1 13 rfl Ld ?_;refine G1 14 rfl BI ?_;refine S PO (nil ?_);refine cE b (fun l b=>?_) (fun l b=>?_)
 ·refine ag (S As (nil ?_));exact rt b
 refine sk i ?_;clear i k;refine ah.cr (Sd Mv (Sd NP ?_));refine au.s0 (bE (TK rfl) rfl rfl (TK rfl) rfl rfl) rfl ?_;refine au.s0 (bZ (TK rfl) rfl rfl av rfl) rfl ?_;refine Sd Fv (Sd Ld ?_);obtain⟨p,m,b⟩:=qT (Ba _ _) b;refine cM rfl rfl (Bb m) ?_;refine Sd Mv (Sd EX (Sd EX ?_));refine au.sB (TK rfl) rfl rfl ?_ (by repeat (first|exact bL.nil|apply bL.cons))
 refine au.dB (eG (TK rfl) rfl rfl rfl rfl rfl) ?_;refine Sd As ?_;refine au.nil (by decide +kernel) ?_;refine bu 5 _ rfl (KA 6 aS.nil) ?_;refine ag (S Mv (S NB (S As (nil ?_))));exact rt b
def eM (b:Z4) (f:Int):Z4:=bif (decide (b.cH=(0:Int))) then((Z4.mk b.Fd b.ep b.eO b.gP f)) else(b)
def Bd (f:Z4) (b:Int):Option Z4:=some (eM f b)
theorem nP (a0:Z4) (b:Int):Bd a0 b=some (eM a0 b):=rfl
theorem nQ {b:Z4}{i:Int}{f:Nat}{r:Z4}(g:Bd b i=some r) (H:ai) (k:H f=some (.cells (Z4.c b))):AC Tryz.prog 174 [.d (.ptr f 0),.d (.int .i64 i)] H fun v h'=>v=.cF []/\h'=(H.set f (some (.cells (Z4.c r)))):=by
 unfold Bd eM at g;refine AC.oW 13 [] Tryz.call174 Tryz.func174 ?_;refine ah.dx (h':=(H.set f (some (.cells (Z4.c b))))) (by funext n_; simp only [ai.set]; (repeat' split)<;>simp_all) ?_;refine ag (S Mv (S NP ?_));refine s0 (bE (TK rfl) rfl rfl (TK rfl) rfl rfl) rfl ?_;refine s0 (bZ (TK rfl) rfl rfl av rfl) rfl ?_;refine S BI (nil ?_);refine cP g (fun j g=>?_) (fun j g=>?_)
 ·refine region ?_;refine S Mv (S Mv (S NP ?_));refine s0 (bE (TK rfl) rfl rfl (TK rfl) rfl rfl) rfl ?_;refine dA (fO (TK rfl) rfl rfl av rfl (by repeat (first|exact bJ.zero|apply bJ.succ))) rfl rfl ?_;refine hq (H.set f (some (.cells (Z4.c (Z4.mk b.Fd b.ep b.eO b.gP i))))) ?_;refine nil ?_;repeat (first|refine ff ?_|refine fe ?_|refine fc ?_)
  obtain rfl:=oJ g;refine bn.fq (H.set f (some (.cells (Z4.c (Z4.mk b.Fd b.ep b.eO b.gP i))))) (xs:=[]) rfl ⟨rfl,rfl⟩ ?_;exact(fun _ _ h=>h)
 refine ah.skip ?_;repeat (first|refine ff ?_|refine fe ?_|refine fc ?_)
 obtain rfl:=oJ g;refine bn.fq (H.set f (some (.cells (Z4.c b)))) (xs:=[]) rfl ⟨rfl,rfl⟩ ?_;exact(fun _ _ h=>h)
def iO (g:Z4) (i:Int):Option Z4:=on (bif (decide ((24:Int)<i)) then(on (eM g (5:Int)) fun j=>j) else(g)) fun b=>(cG b.gP (1:Int)).bind fun f=>bif (decide ((4096:Int)<f)) then(on (eM (Z4.mk b.Fd b.ep b.eO f b.cH) (4:Int)) fun k=>some k) else(some (Z4.mk b.Fd b.ep b.eO f b.cH))
def Be (f:Z4) (b:Int):Option Z4:=iO f b
theorem Gi (a0:Z4) (b:Int):Be a0 b=iO a0 b:=rfl
theorem Gj {i:Z4}{j:Int}{f:Nat}{r:Z4}(b:Be i j=some r) (H:ai) (y:H f=some (.cells (Z4.c i))):AC Tryz.prog 176 [.d (.ptr f 0),.d (.int .i64 j)] H fun v h'=>v=.cF []/\h'=(H.set f (some (.cells (Z4.c r)))):=by
 unfold Be iO at b;refine AC.oW 22 [] Tryz.call176 Tryz.func176 ?_;refine ah.dx (h':=(H.set f (some (.cells (Z4.c i))))) (by funext n_; simp only [ai.set]; (repeat' split)<;>simp_all) ?_;obtain⟨p,q,b⟩:=bW b;refine aQ (TA 0 kN) (fun(z:Z4)=>[]) (fun z=>(H.set f (some (.cells (Z4.c z))))) (fun z=>p z=some r) ?_ ?_
 ·intro B k;refine ag (S Mv (S BI (nil ?_)));refine cP b (fun s b=>?_) (fun s b=>?_)
  ·refine region ?_;refine S Mv ?_;obtain⟨l,t,b⟩:=vP (nP _ _) b;refine sH (bP rfl rfl (nQ t _ av)) rfl ?_;refine hq (H.set f (some (.cells (Z4.c l)))) ?_;refine nil ?_;exact k _ l wA b
  refine ah.skip ?_;exact k _ i wA b
 rintro g b;try dsimp only at b
 have b:=ku q b;refine ag (S Mv (S NP ?_));refine s0 (bE (TK rfl) rfl rfl (TK rfl) rfl rfl) rfl ?_;refine s0 (bZ (TK rfl) rfl rfl av rfl) rfl ?_;obtain⟨m,u,b⟩:=qT rfl b;refine s0 (eR rfl rfl u) rfl ?_;refine S NP ?_;refine s0 (bE (TK rfl) rfl rfl (TK rfl) rfl rfl) rfl ?_;refine dA (fO (TK rfl) rfl rfl av rfl (by repeat (first|exact bJ.zero|apply bJ.succ))) rfl rfl ?_
 refine hq (H.set f (some (.cells (Z4.c (Z4.mk g.Fd g.ep g.eO m g.cH))))) ?_;refine nil ?_;refine ag (S Mv (S NP ?_));refine s0 (bE (TK rfl) rfl rfl (TK rfl) rfl rfl) rfl ?_;refine s0 (bZ (TK rfl) rfl rfl av rfl) rfl ?_;refine S BI (nil ?_);refine cE b (fun w b=>?_) (fun w b=>?_)
 ·refine region ?_;refine S Mv ?_;obtain⟨o,x,b⟩:=vT (nP _ _) b;refine sH (bP rfl rfl (nQ x _ av)) rfl ?_;refine hq (H.set f (some (.cells (Z4.c o)))) ?_;refine nil ?_;repeat (first|refine ff ?_|refine fe ?_|refine fc ?_)
  obtain rfl:=oJ b;refine bn.fq (H.set f (some (.cells (Z4.c o)))) (xs:=[]) rfl ⟨rfl,rfl⟩ ?_;exact(fun _ _ h=>h)
 refine ah.skip ?_;repeat (first|refine ff ?_|refine fe ?_|refine fc ?_)
 obtain rfl:=oJ b;refine bn.fq (H.set f (some (.cells (Z4.c (Z4.mk g.Fd g.ep g.eO m g.cH))))) (xs:=[]) rfl ⟨rfl,rfl⟩ ?_;exact(fun _ _ h=>h)
def j9 (k:Int) (g:Z4->af->Int->Option (af×Z4)):List af->Z4->af->Option ((Z4×af))
 | [],f,b=>some (f,b)
 | m::o,f,b=>bif (decide (f.cH=(0:Int))) then(on (m) fun p=>(cG k (1:Int)).bind fun q=>(g f p q).bind fun i=>(aW 80 b.aD (⟨false,[i.1]⟩:Sl af)).bind fun j=>j9 k g (o) i.2 (af.mk b.an b.bl b.bg j.nl j.l b.aN)) else(some (f,b))
def j_:Nat->Z4->af->Int->Option (af×Z4)
 | 0,_,_,_=>none
 | n+1,k,b,g=>(iO k g).bind fun i=>(aW 16 ((af.mk b.an b.bl b.bg true ([]) (Sl.nil:Sl Bs)).aN) b.aN).bind fun j=>Option.bind (j9 g (j_ n) b.aD.l i (af.mk ((af.mk b.an b.bl b.bg true ([]) (Sl.nil:Sl Bs)).an) ((af.mk b.an b.bl b.bg true ([]) (Sl.nil:Sl Bs)).bl) ((af.mk b.an b.bl b.bg true ([]) (Sl.nil:Sl Bs)).bg) ((af.mk b.an b.bl b.bg true ([]) (Sl.nil:Sl Bs)).aD).nl ((af.mk b.an b.bl b.bg true ([]) (Sl.nil:Sl Bs)).aD).l j)) fun f=>on ((f.1,f.2)) fun z9=>some (z9.2,z9.1)
def Bf (n:Nat):Prop:=∀{a0:Z4}{f:af}{a2:Int}  {b:Nat}{r:(af×Z4)},j_ n a0 f a2=some r->∀(H:ai) (g:H b=some (.cells (Z4.c a0))),AC Tryz.prog 175 [.d (.ptr b 0),.agg (af.c f),.d (.int .i64 a2)] H fun v h'=>v=.a (.agg (af.c r.1))/\h'=(H.set b (some (.cells (Z4.c r.2))))
theorem OB (n:Nat) (R:Bf (ax:=ax) n):Bf (ax:=ax) (n+1):=by
 intro az g Q  p r b H aA;rw [j_] at b;refine AC.oW 56 [.cell 6 61] Tryz.call175 Tryz.func175 ?_;refine ah.dx (h':=(H.set p (some (.cells (Z4.c az))))) (by funext n_; simp only [ai.set]; (repeat' split)<;>simp_all) ?_;refine ag (S BX ?_);refine Sl ?_;refine nil ?_;refine ag (S Mv (S Mv ?_));obtain⟨u,U,b⟩:=qT (Gi _ _) b;refine sH (bP rfl rfl (Gj U _ av)) rfl ?_
 refine hq (H.set p (some (.cells (Z4.c u)))) ?_;refine nil ?_;refine ag (S Fv (S Ld (S Fv (S Ld (S Fv (S Ld (S BU ?_)))))));refine Sl ?_;refine aP.tok 5 fun i G=>?_;obtain⟨aB,G⟩:=ai.dP G;refine aP.cU 1 _ rfl (fun j w cs hh hx=>tok_cell 3 5 5 hh (t:=i) av hx rfl) ?_;refine aP.tok 1 fun m q=>?_;obtain⟨aC,q⟩:=ai.dP q
 obtain⟨aE,q⟩:=ai.dP q;refine aP.cU 1 _ rfl (fun j w cs hh hx=>tok_cell 4 1 1 hh (t:=m) av hx rfl) ?_;refine Sf ?_;refine aP.cU 1 _ rfl (fun j w cs hh hx=>tok_cell 3 5 5 hh (t:=i) av hx rfl) ?_;refine aP.cU 1 _ rfl (fun j w cs hh hx=>tok_cell 4 1 1 hh (t:=m) av hx rfl) ?_;refine nil ?_;refine ag (S FL (S LL (S Fv (S Ld ?_))));obtain⟨I,W,b⟩:=qT rfl b
 refine SH (am aO (TK rfl) rfl (TK rfl) (TK rfl) W) ?_;refine hq (((H.set p (some (.cells (Z4.c u)))).set i (some (.tok 5 0))).set m (some (.tok 1 I.l.length))) ?_;refine S FL ?_;refine Sf ?_;refine nil ?_;refine eb (TA 6 (TA 7 kN)) (fun(z:Z4×af)=>[]) (fun z=>[af.c af.zero,((bC .i64) z.2.an++(bC .i64) z.2.bl++aO z.2.bg++[Sl.d 5 af.c (some i) z.2.aD]++[Sl.d 1 aO (some m) z.2.aN])]) (fun z=>(((H.set p (some (.cells (Z4.c z.1)))).set i (some (.tok 5 z.2.aD.l.length))).set m (some (.tok 1 z.2.aN.l.length)))) (fun z=>(some (z.2,z.1))=some r) ?_ ?_
 ·intro aF X;refine ag (S As (nil ?_));refine block ?_;obtain⟨v,Y,b⟩:=b_ b;refine gb (TA 0 (TA 2 (TA 4 (TA 6 (TA 7 kN))))) (fun(z:Nat×Z4×af)=>[(8,.a (.d (.int .i64 ((z.1:Nat):Int))))]) (fun z=>[af.c af.zero,((bC .i64) z.2.2.an++(bC .i64) z.2.2.bl++aO z.2.2.bg++[Sl.d 5 af.c (some i) z.2.2.aD]++[Sl.d 1 aO (some m) z.2.2.aN])]) (fun z=>(((H.set p (some (.cells (Z4.c z.2.1)))).set i (some (.tok 5 z.2.2.aD.l.length))).set m (some (.tok 1 z.2.2.aN.l.length)))) (fun z=>g.aD.l.length-z.1) (fun z=>Option.bind (j9 Q (j_ n) (g.aD.l.drop z.1) z.2.1 z.2.2) v=some r) (0,u,(af.mk ((af.mk g.an g.bl g.bg true ([]) (Sl.nil:Sl Bs)).an) ((af.mk g.an g.bl g.bg true ([]) (Sl.nil:Sl Bs)).bl) ((af.mk g.an g.bl g.bg true ([]) (Sl.nil:Sl Bs)).bg) ((af.mk g.an g.bl g.bg true ([]) (Sl.nil:Sl Bs)).aD).nl ((af.mk g.an g.bl g.bg true ([]) (Sl.nil:Sl Bs)).aD).l I)) b wA ?_
  rintro ⟨J,y,o⟩ b aG Z;try dsimp only at b
  refine ay fun aa K=>?_;refine ag (S Mv (S Fv ?_));refine s0 (dZ (TK rfl) rfl rfl (congrArg (fun x=>some (A.d x)) (af.dW _))) rfl ?_;refine sLen (f:=af.c) (s:=g.aD) (TK rfl) rfl rfl rfl rfl fun aH=>?_;refine S BI (S Mv (G0 Mv ?_));refine G1 32 rfl NP ?_;refine gC rfl rfl (fun hC=>aK (k:=33) rfl (bE (TK rfl) rfl rfl (TK rfl) rfl rfl)) rfl ?_;refine gC rfl rfl (fun hC=>aK (k:=34) rfl (bZ (TK rfl) rfl rfl av rfl)) rfl ?_
  refine G1 35 rfl BI ?_;refine S PA (nil ?_);refine ah.xf (fun l=>Option.bind (j9 Q (j_ n) l y o) v=some r) (Option.bind (some (y,o)) v=some r) b (fun b=>by rw [j9] at b; exact b) (fun _ ab b=>by rw [j9] at b; rw [ab] at b; exact b) rfl rfl (fun aI L B ad b=>?_) (fun B b=>?_)
  ·rw [j9] at b;rw [ad,cond_true] at b;try dsimp only at B
   have aJ:=oD (and_left B);refine sk K ?_;clear K aa;refine ay fun ae M=>?_;refine block ?_;refine ag (S Mv (S Fv ?_));refine s0 (dZ (TK rfl) rfl rfl (congrArg (fun x=>some (A.d x)) (af.dW _))) rfl ?_;refine S Mv ?_;obtain⟨aL,aj,b⟩:=vO L b;refine S (ix af.c J aj) (S Ld (S Mv ?_));obtain⟨aM,ak,b⟩:=qO rfl b;refine s0 (eR rfl rfl ak) rfl ?_
   obtain⟨C,al,b⟩:=qO rfl b;refine sH (bP rfl rfl (R al _ av)) rfl ?_;refine hq (((H.set p (some (.cells (Z4.c C.2)))).set i (some (.tok 5 o.aD.l.length))).set m (some (.tok 1 o.aN.l.length))) ?_;refine Sl ?_;refine Sf ?_;refine nil ?_;refine bu 9 _ rfl (KA 0 (KA 2 (KA 4 (KA 6 (KA 7 (KA 8 aS.nil)))))) ?_;refine region ?_;refine S FL (S LL (S Ld (S BV ?_)))
   obtain⟨E,ao,b⟩:=qO rfl b;refine SH (am af.c (TK rfl) rfl (TK rfl) (TK rfl) ao) ?_;refine hq (((H.set p (some (.cells (Z4.c C.2)))).set i (some (.tok 5 E.l.length))).set m (some (.tok 1 o.aN.l.length))) ?_;refine S FL ?_;refine Sf ?_;refine nil ?_;refine M _ ?_;clear M ae;refine region ?_;refine S Mv ?_;refine SI ?_;refine S As (nil ?_);exact Z _ ((J+1),C.2,(af.mk o.an o.bl o.bg E.nl E.l o.aN)) wA b (dl L)
  have b:=ku Y b;try dsimp only at b
  refine ah.exit ?_;obtain⟨aQ,ap,b⟩:=bW b;have b:=ku ap b;exact X _ (y,o) wA b
 rintro ⟨aq,au⟩ b;try dsimp only at b
 refine ay fun aw N=>?_;refine ah.cU 1 _ rfl (fun j w cs hh hx=>jt 3 hx rfl) ?_;refine ah.cU 1 _ rfl (fun j w cs hh hx=>jt 4 hx rfl) ?_;refine ah.cU 1 (af.c au) rfl (fun j w cs hh hx=>by rw [af.jX]; exact hx) ?_;refine region ?_;refine S LL ?_;refine Sf ?_;refine nil ?_;refine N _ ?_;clear N aw;refine ah.ret ?_;repeat (first|refine bF ?_|refine bG ?_)
 obtain rfl:=oJ b;refine bn.bH (H.set p (some (.cells (Z4.c aq)))) rfl ⟨rfl,rfl⟩ ?_;intro O aR P;have aT:O≠i:=fun F=>by subst F; simp_all [ai.set]
 have aU:O≠m:=fun F=>by subst F; simp_all [ai.set]
 rw [<- P];simp only [ai.set] at P ⊢
 (repeat' split)<;>simp_all
theorem Gk:∀(n:Nat),(Bf (ax:=ax) n)
 | 0=>fun b=>by first|cases b|(rw [j_] at b; cases b)
 | n+1=>OB n (Gk n)
def Gl (f:Z4) (b:af) (g:Int):Option (af×Z4):=j_ F0 f b g
theorem OC {g:Z4}{f:af}{i:Int}{b:Nat}{r:af×Z4}(j:Gl g f i=some r) (H:ai) (k:H b=some (.cells (Z4.c g))):AC Tryz.prog 175 [.d (.ptr b 0),.agg (af.c f),.d (.int .i64 i)] H fun v h'=>v=.a (.agg (af.c r.1))/\h'=(H.set b (some (.cells (Z4.c r.2)))):=(Gk F0) j H k
def xL (f:Z4) (b:af) (g:Int):Option (af×Z4):=j_ F0 f b g
theorem OD (a0:Z4) (b:af) (a2:Int):Gl a0 b a2=xL a0 b a2:=rfl
def nR:Nat->Int->Option Bs
 | 0,_=>none
 | n+1,b=>(qJ (48:Int) (Int.tmod b (10:Int))).bind fun f=>bif (decide ((-10:Int)<b)) then(some (nA (⟨false,[(IntKind.wrap .u8 f)]⟩:Sl Int))) else(((nR n) (IntKind.wrap .i64 (Int.tdiv b (10:Int)))).bind fun g=>(bM g (nA (⟨false,[(IntKind.wrap .u8 f)]⟩:Sl Int))).bind fun i=>some i)
def Bg (n:Nat):Prop:=∀{a0:Int}   {r:Bs},nR n a0=some r->∀(H:ai),AC Tryz.prog 192 [.d (.int .i64 a0)] H fun v h'=>v=.a (.d (.str r))/\h'=H
theorem OE (n:Nat) (g:Bg (ax:=ax) n):Bg (ax:=ax) (n+1):=by
 intro s   r b H;rw [nR] at b;refine AC.oW 18 [.tmp 2] Tryz.call192 Tryz.func192 ?_;refine ag (S As (nil ?_));refine ag (S Mv ?_);refine s0 (M0 rfl rfl (by decide)) rfl ?_;obtain⟨i,j,b⟩:=qT rfl b;refine s0 (Fc rfl rfl j) rfl ?_;refine s0 (M1 (TK rfl) (TK rfl) rfl rfl) rfl ?_;refine S BV ?_;refine s0 (M2 (y:=(⟨false,[(IntKind.wrap .u8 i)]⟩:Sl Int)) (TK rfl) rfl (TK rfl) rfl (TK rfl) rfl rfl) rfl ?_
 refine S As (nil ?_);refine ay fun k f=>?_;refine ag (S Mv (S BI (nil ?_)));refine cE b (fun l b=>?_) (fun l b=>?_)
 ·refine ag (S Mv (S As (nil ?_)));exact rt b
 refine sk f ?_;clear f k;refine ag (S Mv ?_);refine s0 (MZ rfl rfl (by decide)) rfl ?_;obtain⟨p,m,b⟩:=qT rfl b;refine Sc rfl rfl (g m) ?_;refine S Mv ?_;obtain⟨q,o,b⟩:=qT rfl b;refine s0 (cL rfl rfl o) rfl ?_;refine S As (nil ?_);exact rt b
theorem Gm:∀(n:Nat),(Bg (ax:=ax) n)
 | 0=>fun b=>by first|cases b|(rw [nR] at b; cases b)
 | n+1=>OE n (Gm n)
def Gn (b:Int):Option Bs:=nR F0 b
theorem Gp {b:Int}{r:Bs}(f:Gn b=some r) (H:ai) :AC Tryz.prog 192 [.d (.int .i64 b)] H fun v h'=>v=.a (.d (.str r))/\h'=H:=(Gm F0) f H 
def xM (b:Int):Option Bs:=nR F0 b
theorem Gq (a0:Int):Gn a0=xM a0:=rfl
def qZ (b:Int):Option Bs:=bif (decide (b<(0:Int))) then((xM b).bind fun f=>(bM ([45]:Bs) f).bind fun g=>some g) else((xM (IntKind.wrap .i64 (0-b))).bind fun i=>some i)
def Bh (b:Int):Option Bs:=qZ b
theorem OF (a0:Int):Bh a0=qZ a0:=rfl
theorem OG {g:Int}{r:Bs}(b:Bh g=some r) (H:ai) :AC Tryz.prog 187 [.d (.int .i64 g)] H fun v h'=>v=.a (.d (.str r))/\h'=H:=by
 unfold Bh qZ at b;refine AC.oW 11 [.tmp 2] Tryz.call187 Tryz.func187 ?_;refine ag (S As (nil ?_));refine ay fun i f=>?_;refine ag (S Mv (S BI (nil ?_)));refine cE b (fun j b=>?_) (fun j b=>?_)
 ·refine ag (S Mv ?_);obtain⟨o,k,b⟩:=qT (Gq _) b;refine Sc rfl rfl (Gp k) ?_;obtain⟨p,l,b⟩:=qT rfl b;refine s0 (cL rfl rfl l) rfl ?_;refine S As (nil ?_);exact rt b
 refine sk f ?_;clear f i;refine ag (S Mv ?_);refine s0 (LR rfl) rfl ?_;obtain⟨q,m,b⟩:=qT (Gq _) b;refine Sc rfl rfl (Gp m) ?_;refine S As (nil ?_);exact rt b
def iz (g:Z4) (f:Bs) (b:af):Option (af×Z4):=bif (((((f==([73,110,116]:Bs)))&&(decide (b.an=(2:Int))))&&(decide ((-2147483648:Int)<=b.bl)))&&(decide (b.bl<(2147483648:Int)))) then(some (b,g)) else(on (bif (((f==([83,116,114,105,110,103]:Bs)))&&(decide (b.an=(3:Int)))) then((((f==([83,116,114,105,110,103]:Bs)))&&(decide (b.an=(3:Int))))) else(bif (((f==([66,111,111,108,101,97,110]:Bs)))&&(decide (b.an=(1:Int)))) then((((f==([66,111,111,108,101,97,110]:Bs)))&&(decide (b.an=(1:Int))))) else((((f==([73,68]:Bs)))&&(decide (b.an=(3:Int))))))) fun i=>bif i then(some (b,g)) else(bif (((f==([73,68]:Bs)))&&(decide (b.an=(2:Int)))) then((qZ b.bl).bind fun j=>some ((af.mk (3:Int) (0:Int) j true ([]) (Sl.nil:Sl Bs)),g)) else(on (()) fun _=>on (eM g (23:Int)) fun k=>some ((af.mk (0:Int) (0:Int) ([]:Bs) true ([]) (Sl.nil:Sl Bs)),k))))
def Bi (f:Z4) (b:Bs) (g:af):Option (af×Z4):=iz f b g
theorem OH (a0:Z4) (b:Bs) (a2:af):Bi a0 b a2=iz a0 b a2:=rfl
theorem OI {g:Z4}{i:Bs}{j:af}{f:Nat}{r:af×Z4}(b:Bi g i j=some r) (H:ai) (C:H f=some (.cells (Z4.c g))):AC Tryz.prog 178 [.d (.ptr f 0),.d (.str i),.agg (af.c j)] H fun v h'=>v=.a (.agg (af.c r.1))/\h'=(H.set f (some (.cells (Z4.c r.2)))):=by
 unfold Bi iz at b;refine AC.oW 64 [.cell 6 61] Tryz.call178 Tryz.func178 ?_;refine ah.dx (h':=(H.set f (some (.cells (Z4.c g))))) (by funext n_; simp only [ai.set]; (repeat' split)<;>simp_all) ?_;refine ag (S BX ?_);refine Sl ?_;refine nil ?_;refine eb (TA 0 (TA 6 kN)) (fun(z:af)=>[]) (fun z=>[af.c z]) (fun z=>(H.set f (some (.cells (Z4.c g))))) (fun z=>(on (eM g (23:Int)) fun k=>some ((af.mk (0:Int) (0:Int) ([]:Bs) true ([]) (Sl.nil:Sl Bs)),k))=some r) ?_ ?_
 ·intro E m;refine block ?_;refine ag (S Mv (S BS (S Mv (G0 Fv ?_))));refine G1 11 rfl Ld ?_;refine G1 12 rfl BI ?_;refine S PA (S Mv (G0 Fv ?_));refine G1 16 rfl Ld ?_;refine G1 17 rfl BI ?_;refine S PA (S Mv (G0 Fv ?_));refine G1 21 rfl Ld ?_;refine G1 22 rfl BI ?_;refine S PA (S As (nil ?_));refine cE b (fun o b=>?_) (fun o b=>?_)
  ·refine ag (S Ld ?_);refine Sf ?_;refine nil ?_;exact rt b
  obtain⟨p,q,b⟩:=bW b;refine aQ (TA 0 (TA 1 (TA 5 (TA 6 kN)))) (fun(z:Bool)=>[(26,.a (.d (.bool z)))]) (fun z=>(H.set f (some (.cells (Z4.c g))))) (fun z=>p z=some r) ?_ ?_
  ·intro F l;refine ag (S Mv (S BS (S Mv (G0 Fv ?_))));refine G1 30 rfl Ld ?_;refine G1 31 rfl BI ?_;refine S PA (S As (nil ?_));refine cP b (fun s b=>?_) (fun s b=>?_)
   ·refine ah.skip ?_;exact l _ (((i==([83,116,114,105,110,103]:Bs)))&&(decide (j.an=(3:Int)))) wA b
   refine ag (S Mv (S BS (S Mv (G0 Fv ?_))));refine G1 37 rfl Ld ?_;refine G1 38 rfl BI ?_;refine S PA (S As (nil ?_));refine cP b (fun t b=>?_) (fun t b=>?_)
   ·refine ah.skip ?_;exact l _ (((i==([66,111,111,108,101,97,110]:Bs)))&&(decide (j.an=(1:Int)))) wA b
   refine region ?_;refine S Mv (S BS (S Mv (G0 Fv ?_)));refine G1 44 rfl Ld ?_;refine G1 45 rfl BI ?_;refine S PA (S As (nil ?_));exact l _ (((i==([73,68]:Bs)))&&(decide (j.an=(3:Int)))) wA b
  rintro G b;try dsimp only at b
  have b:=ku q b;refine cE b (fun u b=>?_) (fun u b=>?_)
  ·refine ag (S Ld ?_);refine Sf ?_;refine nil ?_;exact rt b
  refine ag (S Mv (S BS (S Mv (G0 Fv ?_))));refine G1 53 rfl Ld ?_;refine G1 54 rfl BI ?_;refine S PA (S As (nil ?_));refine cE b (fun w b=>?_) (fun w b=>?_)
  ·refine ag (S Fv (S Ld ?_));obtain⟨I,x,b⟩:=qT (OF _) b;refine Sc rfl rfl (OG x) ?_;refine S BU ?_;refine Sf ?_;refine nil ?_;exact rt b
  refine ah.skip ?_;obtain⟨J,y,b⟩:=bW b;have b:=ku y b;exact m _ af.zero wA b
 rintro K b;try dsimp only at b
 refine ag (S Mv ?_);obtain⟨k,B,b⟩:=vT (nP _ _) b;refine sH (bP rfl rfl (nQ B _ av)) rfl ?_;refine hq (H.set f (some (.cells (Z4.c k)))) ?_;refine nil ?_;refine ag (S BU ?_);refine Sf ?_;refine nil ?_;exact rt b
def iP (f:Z4) (b:af):List Z9->Unit ⊕ ((af×Z4))
 | []=>Sum.inl ()
 | g::i=>on (g) fun j=>bif ((j.aa==b.bg)) then(Sum.inr ((af.mk (4:Int) (0:Int) b.bg true ([]) (Sl.nil:Sl Bs)),f)) else(iP f b (i) )
def iA (b:Z4) (i:aj) (f:af):(af×Z4):=on (fun(_:Unit)=>on (eM b (23:Int)) fun j=>((af.mk (0:Int) (0:Int) ([]:Bs) true ([]) (Sl.nil:Sl Bs)),j)) fun g=>bif ((decide (f.an=(4:Int)))||((decide (f.an=(3:Int)))&&(!b.eO))) then(on (iP b f i.aG.l ) fun k=>match k with|Sum.inl _=>(g ())|Sum.inr m=>(m)) else(g ())
def Bj (f:Z4) (b:aj) (g:af):Option (af×Z4):=some (iA f b g)
theorem OJ (a0:Z4) (b:aj) (a2:af):Bj a0 b a2=some (iA a0 b a2):=rfl
theorem OK {i:Z4}{j:aj}{m:af}{g:Nat}{r:af×Z4}(b:Bj i j m=some r) (H:ai) (O:H g=some (.cells (Z4.c i))):AC Tryz.prog 179 [.d (.ptr g 0),.agg (aj.c j),.agg (af.c m)] H fun v h'=>v=.a (.agg (af.c r.1))/\h'=(H.set g (some (.cells (Z4.c r.2)))):=by
 unfold Bj iA at b;refine AC.oW 45 [.cell 6 61] Tryz.call179 Tryz.func179 ?_;refine ah.dx (h':=(H.set g (some (.cells (Z4.c i))))) (by funext n_; simp only [ai.set]; (repeat' split)<;>simp_all) ?_;refine ag (S BX (S BX ?_));refine Sl ?_;refine nil ?_;obtain⟨C,E,b⟩:=mP b;refine eb (TA 0 (TA 6 kN)) (fun(z:af)=>[]) (fun z=>[af.c z]) (fun z=>(H.set g (some (.cells (Z4.c i))))) (fun z=>some (C ())=some r) ?_ ?_
 ·intro P p;refine ag (S Fv (S Ld (S BI (S Mv (G0 Fv ?_)))));refine G1 12 rfl Ld ?_;refine G1 13 rfl BI ?_;refine G1 14 rfl Mv ?_;refine G0 Mv ?_;refine G1 16 rfl NP ?_;refine gC rfl rfl (fun hC=>aK (k:=17) rfl (bE (TK rfl) rfl rfl (TK rfl) rfl rfl)) rfl ?_;refine gC rfl rfl (fun hC=>aK (k:=18) rfl (bZ (TK rfl) rfl rfl av rfl)) rfl ?_;refine G1 19 rfl NB ?_;refine gC rfl rfl (fun hC=>aK (k:=15) rfl (iM rfl rfl rfl)) rfl ?_
  refine S PO (nil ?_);refine cP b (fun F b=>?_) (fun F b=>?_)
  ·refine ag (S As (nil ?_));refine block ?_;obtain⟨q,t,b⟩:=eL b;refine gb (TA 0 (TA 4 (TA 5 (TA 6 kN)))) (fun(z:Nat×af)=>[(7,.a (.d (.int .i64 ((z.1:Nat):Int))))]) (fun z=>[af.c z.2]) (fun z=>(H.set g (some (.cells (Z4.c i))))) (fun z=>j.aG.l.length-z.1) (fun z=>q (iP i m (j.aG.l.drop z.1) )=some r) (0,af.zero) b wA ?_;rintro ⟨u,w⟩ b Q G
   try dsimp only at b
   refine ay fun I x=>?_;refine ag (S Mv (S Fv (S Ld ?_)));refine sLen (f:=Z9.c) (s:=j.aG) (TK rfl) rfl rfl rfl rfl fun R=>?_;refine S BI (nil ?_);refine ah.bN (fun l=>q (iP i m l )=some r) b rfl (fun U y o b=>?_) (fun o b=>?_)
   ·rw [iP] at b;try dsimp only at o
    have W:=oD o;refine sk x ?_;clear x I;refine ay fun J B=>?_;refine block ?_;refine ah.cr (Sd Fv (Sd Ld (Sd Mv ?_)));obtain⟨X,K,b⟩:=vP y b;refine Sd (ix Z9.c u K) (Sd Fv (Sd Ld (Sd Fv (Sd Ld (Sd BS ?_)))));refine au.nil (by decide +kernel) ?_;refine cP b (fun L b=>?_) (fun L b=>?_)
    ·refine ag (S Fv (S Ld (S BU ?_)));refine Sf ?_;refine nil ?_;refine ah.ret ?_;repeat (first|refine bF ?_|refine bG ?_)
     have b:=ku t b;obtain rfl:=oJ b;refine bn.bH (H.set g (some (.cells (Z4.c i)))) rfl ⟨rfl,rfl⟩ ?_;exact(fun _ _ h=>h)
    refine sk B ?_;clear B J;refine region ?_;refine S Mv ?_;refine SI ?_;refine S As (nil ?_);exact G _ ((u+1),w) wA b (dl y)
   rw [iP] at b;have b:=ku t b;try dsimp only at b
   refine ah.exit ?_;exact p _ w wA b
  refine ah.skip ?_;exact p _ af.zero wA b
 rintro Y b;try dsimp only at b
 rw [E] at b;try dsimp only at b
 refine ag (S Mv ?_);obtain⟨M,N,b⟩:=vP (nP _ _) b;refine sH (bP rfl rfl (nQ N _ av)) rfl ?_;refine hq (H.set g (some (.cells (Z4.c M)))) ?_;refine nil ?_;refine ag (S BU ?_);refine Sf ?_;refine nil ?_;exact rt b
def Bk  :Option Bool:=some false
def lF (g:(Sl Z8)) (b:Int) :Nat->Int->Option Bool
 | 0,_=>none
 | i+1,f=>bif (decide (f<b)) then((dh g.l f).bind fun j=>(dh g.l b).bind fun k=>bif ((j.aa==k.aa)) then(some true) else((cG f (1:Int)).bind fun m=>(lF g b i) m)) else(Bk   )
def vj (f:(Sl Z8)) (b:Int):Option Bool:=lF f b F0 (0:Int)
theorem OL {j:Sl Z8}{g:Int}{w0:Option Nat}{r:Bool}(b:vj j g=some r) (H:ai) :AC Tryz.prog 188 [.d (Sl.d 10 Z8.c w0 j),.d (.int .i64 g)] H fun v h'=>v=.a (.d (.bool r))/\h'=H:=by
 unfold vj at b;refine AC.oW 22 [.tmp 4] Tryz.call188 Tryz.func188 ?_;refine ag (S As (nil ?_));refine aQ kN (fun(z:Unit)=>[]) (fun z=>H) (fun z=>Bk =some r) ?_ ?_
 ·intro B m;refine ag (S As (nil ?_));refine block ?_;refine bA (TA 0 (TA 1 kN)) (fun(z:Nat×Int)=>[(5,.a (.d (.int .i64 z.2)))]) (fun z=>H) (fun z=>z.1) (fun z=>lF j g z.1 z.2=some r) (F0,(0:Int)) b wA ?_;rintro ⟨i,C⟩ b E o;try dsimp only at b
  cases i with
  | zero=>cases b
  | succ i =>
    rw [lF] at b;refine ay fun p k=>?_;refine ag (S Mv (S Mv (S BI (nil ?_))));refine cE b (fun q b=>?_) (fun q b=>?_)
    ·refine sk k ?_;clear k p;refine ay fun s l=>?_;refine block ?_;refine ah.cr (Sd Mv (Sd Mv ?_));obtain⟨F,t,b⟩:=bO b;refine au.s0 (jS (f:=Z8.c) (TK rfl) rfl (TK rfl) rfl rfl rfl t) rfl ?_;refine Sd Fv (Sd Ld (Sd Mv (Sd Mv ?_)));obtain⟨G,u,b⟩:=bO b;refine au.s0 (jS (f:=Z8.c) (TK rfl) rfl (TK rfl) rfl rfl rfl u) rfl ?_;refine Sd Fv (Sd Ld (Sd BS ?_));refine au.nil (by decide +kernel) ?_
     refine cE b (fun w b=>?_) (fun w b=>?_)
     ·refine ag (S As (nil ?_));exact rt b
     refine sk l ?_;clear l s;refine region ?_;refine S Mv ?_;obtain⟨x,y,b⟩:=bO b;refine s0 (eR rfl rfl y) rfl ?_;refine S As (nil ?_);exact o _ (i,x) wA b (nS _)
    refine ah.exit ?_;exact m _ () wA b
 rintro _ b;try dsimp only at b
 unfold Bk at b;refine ag (S As (nil ?_));exact rt b
def q6 (f:(Sl Z8)) (b:Int):Option Bool:=vj f b
theorem OM (a0:(Sl Z8)) (b:Int):vj a0 b=q6 a0 b:=rfl
end Go.Proofs
