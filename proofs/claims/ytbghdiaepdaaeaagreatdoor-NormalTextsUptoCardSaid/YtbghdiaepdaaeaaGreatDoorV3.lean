import Derived.Test.YtbghdiaepdaaeaaGreatDoorV2
set_option maxRecDepth 100000
set_option maxHeartbeats 2000000
set_option linter.unusedVariables false
set_option linter.unusedSimpArgs false
namespace Go.Proofs
open Go Go.Ab
open aS aq ah aU dV
variable {an:bf}
def lK (f:(Sl Int)):List Int->Nat->Option (Unit ⊕ Bool)
 | [],b=>some (Sum.inl ())
 | g::i,b=>on (g) fun j=>(f.l[b]?).bind fun k=>bif (!decide (j=k)) then(some (Sum.inr false)) else(lK f (i) (b+1) )
def od (b:(Sl Int)) (f:(Sl Int)):Option Bool:=bif (!decide (((b.l.length:Nat):Int)=((f.l.length:Nat):Int))) then(some false) else(Option.bind (lK f b.l 0 ) fun g=>match g with|Sum.inl _=>(on (()) fun _=>some true)|Sum.inr i=>(some i))
def AG (b:(Sl Int)) (f:(Sl Int)):Option Bool:=od b f
theorem Pr (a0:(Sl Int)) (a1:(Sl Int)):AG a0 a1=od a0 a1:=rfl
theorem Ps {g i:Sl Int}{w0 w:Option Nat}{r:Bool}(b:AG g i=some r) (H:ag) :AC Tryz.prog 69 [.d (Sl.d 1 (bE .i64) w0 g),.d (Sl.d 1 (bE .i64) w i)] H fun v h'=>v=.a (.d (.bool r))/\h'=H:=by
 unfold AG od at b;refine AC.oW 26 [.tmp 4] Tryz.call69 Tryz.func69 ?_;refine aa (S As (nil ?_));refine ay fun x m=>?_;refine aa (S Mv ?_);refine sLen (f:=(bE .i64)) (s:=g) (TK rfl) rfl rfl rfl rfl fun L=>?_;refine S Mv ?_;refine sLen (f:=(bE .i64)) (s:=i) (TK rfl) rfl rfl rfl rfl fun M=>?_;refine S BI (nil ?_);refine cE b (fun y b=>?_) (fun y b=>?_)
 ·refine aa (S As (nil ?_));exact rt b
 refine sk m ?_;clear m x;refine aP kN (fun(z:Unit)=>[]) (fun z=>H) (fun z=>(some true)=some r) ?_ ?_
 ·intro N B;refine aa (S As (nil ?_));refine block ?_;obtain⟨o,p,b⟩:=cG b;refine bD (TA 0 (TA 1 kN)) (fun(z:Nat)=>[(5,.a (.d (.int .i64 ((z:Nat):Int))))]) (fun z=>H) (fun z=>g.l.length-z) (fun z=>Option.bind (lK i (g.l.drop z) z ) o=some r) 0 b wA ?_;rintro j b O C;try dsimp only at b
  refine ay fun E q=>?_;refine aa (S Mv (S Mv ?_));refine sLen (f:=(bE .i64)) (s:=g) (TK rfl) rfl rfl rfl rfl fun P=>?_;refine S BI (nil ?_);refine ah.cL (fun l=>Option.bind (lK i l j ) o=some r) b rfl (fun Q t k b=>?_) (fun k b=>?_)
  ·rw [lK] at b;try dsimp only at k
   have R:=oD k;refine sk q ?_;clear q E;refine ay fun F u=>?_;refine block ?_;refine ah.cH (Sd Mv (Sd Mv ?_));obtain⟨U,G,b⟩:=vO t b;refine Sd (ix (bE .i64) j G) ?_;refine Sd Ld (Sd Mv (Sd Mv ?_));obtain⟨W,I,b⟩:=qO rfl b;refine Sd (ix (bE .i64) j I) ?_;refine Sd Ld (Sd BI ?_);refine au.nil (by decide +kernel) ?_;refine cO b (fun J b=>?_) (fun J b=>?_)
   ·refine aa (S As (nil ?_));refine ah.ret ?_;repeat (first|refine bM ?_|refine bN ?_)
    have b:=ku p b;obtain rfl:=oJ b;refine bF.bK H rfl ⟨rfl,rfl⟩ ?_;exact(fun _ _ h=>h)
   refine sk u ?_;clear u F;refine region ?_;refine S Mv ?_;refine SI ?_;refine S As (nil ?_);exact C _ (j+1) wA b (dl t)
  rw [lK] at b;have b:=ku p b;try dsimp only at b
  refine ah.exit ?_;obtain⟨X,K,b⟩:=cC b;have b:=ku K b;exact B _ () wA b
 rintro _ b;try dsimp only at b
 refine aa (S As (nil ?_));exact rt b
def kQ (b:aB) (f:aB):Option Bool:=aQ (((b.ai==f.ai))) (od b.aX f.aX) false fun g=>some (((b.ai==f.ai))&&g)
def AH (b:aB) (f:aB):Option Bool:=kQ b f
theorem wz (a0:aB) (a1:aB):AH a0 a1=kQ a0 a1:=rfl
theorem wC {f g:aB}{r:Bool}(b:AH f g=some r) (H:ag) :AC Tryz.prog 33 [.agg (aB.c f),.agg (aB.c g)] H fun v h'=>v=.a (.d (.bool r))/\h'=H:=by
 unfold AH kQ at b;refine AC.oW 17 [.tmp 4] Tryz.call33 Tryz.func33 ?_;refine aa (S BX (S BX (S As (nil ?_))));refine aa (S Fv (S Ld (S Fv (S Ld (S BS (S Mv (G0 Fv ?_)))))));refine G1 11 rfl Ld ?_;refine G0 Fv ?_;refine G1 13 rfl Ld ?_;obtain⟨j,i,b⟩:=dB (Pr _ _) b;refine fq 12 14 rfl rfl rfl rfl rfl rfl (fun hC=>Ps (i hC)) ?_;refine S PA (S As (nil ?_));exact rt b
def fw (b:aB):Bool:=on (bif (decide ((0:Int)<((b.aX.l.length:Nat):Int))) then((b.aX.l)[0]?.getD (0:Int)) else(0:Int)) fun f=>((decide ((0:Int)<((b.aX.l.length:Nat):Int)))&&(decide (f=(1:Int))))
def AI (b:aB):Option Bool:=some (fw b)
theorem oe (a0:aB):AI a0=some (fw a0):=rfl
theorem og {g:aB}{r:Bool}(b:AI g=some r) (H:ag) :AC Tryz.prog 179 [.agg (aB.c g)] H fun v h'=>v=.a (.d (.bool r))/\h'=H:=by
 unfold AI fw at b;refine AC.oW 14 [.tmp 2] Tryz.call179 Tryz.func179 ?_;refine aa (S BX (S As (nil ?_)));refine aa (S Fv (S Ld ?_));refine sLen (f:=(bE .i64)) (s:=g.aX) (TK rfl) rfl rfl rfl rfl fun j=>?_;refine S BI (S Mv (G0 Fv ?_));refine G1 8 rfl Ld ?_;obtain⟨l,i,b⟩:=mw (fun hc=>Q.getD_some (by simp at hc; omega)) b;refine gC rfl rfl (fun hC=>aI (k:=9) rfl (eO (f:=(bE .i64)) (n:=0) (TK rfl) rfl (TK rfl) rfl rfl rfl (i hC))) rfl ?_
 refine G1 10 rfl Ld ?_;refine G1 11 rfl BI ?_;refine S PA (S As (nil ?_));exact rt b
def mS (b:aB):Option aB:=(nJ b.aX (some (1:Int)) none).bind fun f=>(bp 8 (⟨false,[]⟩:Sl Int) f).bind fun g=>some (aB.mk b.ai g)
def AJ (b:aB):Option aB:=mS b
theorem He (a0:aB):AJ a0=mS a0:=rfl
theorem Hf {g r:aB}(b:AJ g=some r) (H:ag) :AC Tryz.prog 217 [.agg (aB.c g)] H fun v h'=>v=.a (.agg (aB.c r))/\h'=H:=by
 unfold AJ mS at b;refine AC.oW 11 [.cell 2 50] Tryz.call217 Tryz.func217 ?_;refine aa (S BX ?_);refine Sl ?_;refine nil ?_;refine ah.cH (Sd Fv (Sd Ld ?_));refine au.s0 (pG (TK rfl) rfl (TK rfl) rfl rfl rfl rfl rfl rfl) rfl ?_;refine Sd Fv (Sd Ld ?_);obtain⟨k,i,b⟩:=qT rfl b;refine au.s0 (qX (f:=(bE .i64)) (l:=(some (1:Int))) (r:=none) (TK rfl) rfl (TK rfl) rfl rfl rfl trivial i) rfl ?_
 obtain⟨m,j,b⟩:=qT rfl b;refine au.s0 (tI (f:=(bE .i64)) (TK rfl) rfl (TK rfl) (TK rfl) ⟨_,rfl⟩ rfl rfl (by decide) rfl rfl rfl (by intro q h; cases h<;>decide) rfl rfl j) rfl ?_;refine Sd BU ?_;refine au.dU (eA (TK rfl) rfl rfl rfl rfl rfl) ?_;refine au.nil (by decide +kernel) ?_;exact rt b
def jQ (b:aB):Option aB:=on (fw b) fun f=>bif f then((mS b).bind fun g=>some g) else((bp 8 (⟨false,[]⟩:Sl Int) b.aX).bind fun i=>some (aB.mk b.ai i))
def AK (b:aB):Option aB:=jQ b
theorem tY (a0:aB):AK a0=jQ a0:=rfl
theorem tZ {i r:aB}(b:AK i=some r) (H:ag) :AC Tryz.prog 176 [.agg (aB.c i)] H fun v h'=>v=.a (.agg (aB.c r))/\h'=H:=by
 unfold AK jQ at b;refine AC.oW 14 [.cell 2 50] Tryz.call176 Tryz.func176 ?_;refine aa (S BX ?_);refine Sl ?_;refine nil ?_;refine ay fun j g=>?_;refine aa (S Ld ?_);obtain⟨p,k,b⟩:=vT (oe _) b;refine Sc rfl rfl (og k) ?_;refine nil ?_;refine cE b (fun l b=>?_) (fun l b=>?_)
 ·refine aa (S Ld ?_);obtain⟨s,m,b⟩:=qT (He _) b;refine Sc rfl rfl (Hf m) ?_;refine Sf ?_;refine nil ?_;exact rt b
 refine sk g ?_;clear g j;refine ah.cH (Sd Fv (Sd Ld ?_));refine au.s0 (pG (TK rfl) rfl (TK rfl) rfl rfl rfl rfl rfl rfl) rfl ?_;refine Sd Fv (Sd Ld ?_);obtain⟨t,o,b⟩:=qT rfl b;refine au.s0 (tI (f:=(bE .i64)) (TK rfl) rfl (TK rfl) (TK rfl) ⟨_,rfl⟩ rfl rfl (by decide) rfl rfl rfl (by intro q h; cases h<;>decide) rfl rfl o) rfl ?_;refine Sd BU ?_;refine au.dU (eA (TK rfl) rfl rfl rfl rfl rfl) ?_
 refine au.nil (by decide +kernel) ?_;exact rt b
def oh (g:aB):Option Bool:=(jQ g).bind fun b=>on (bif (decide ((0:Int)<((b.aX.l.length:Nat):Int))) then((b.aX.l)[0]?.getD (0:Int)) else(0:Int)) fun f=>some ((decide ((0:Int)<((b.aX.l.length:Nat):Int)))&&(decide (f=(2:Int))))
def AL (b:aB):Option Bool:=oh b
theorem Hg (a0:aB):AL a0=oh a0:=rfl
theorem Hh {g:aB}{r:Bool}(b:AL g=some r) (H:ag) :AC Tryz.prog 116 [.agg (aB.c g)] H fun v h'=>v=.a (.d (.bool r))/\h'=H:=by
 unfold AL oh at b;refine AC.oW 17 [.tmp 2] Tryz.call116 Tryz.func116 ?_;refine aa (S BX (S As (nil ?_)));refine aa (S Ld ?_);obtain⟨i,j,b⟩:=qT (tY _) b;refine Sc rfl rfl (tZ j) ?_;refine Sl ?_;refine Sf ?_;refine nil ?_;refine bH 3 _ rfl aU.nil ?_;refine aa (S Fv (S Ld ?_));refine sLen (f:=(bE .i64)) (s:=i.aX) (TK rfl) rfl rfl rfl rfl fun m=>?_;refine S BI (S Mv (G0 Fv ?_))
 refine G1 11 rfl Ld ?_;obtain⟨o,l,b⟩:=q8 (fun hc=>Q.getD_some (by simp at hc; omega)) b;refine gC rfl rfl (fun hC=>aI (k:=12) rfl (eO (f:=(bE .i64)) (n:=0) (TK rfl) rfl (TK rfl) rfl rfl rfl (l hC))) rfl ?_;refine G1 13 rfl Ld ?_;refine G1 14 rfl BI ?_;refine S PA (S As (nil ?_));exact rt b
def lM (b:aB):Option (aB×Bool):=(oh b).bind fun f=>bif (!f) then(some ((aB.mk ([]:Bs) (Sl.nil:Sl Int)),false)) else((jQ b).bind fun g=>(mS g).bind fun i=>some (i,true))
def AM (b:aB):Option (aB×Bool):=lM b
theorem AN (a0:aB):AM a0=lM a0:=rfl
theorem AO {g:aB}{r:aB×Bool}(b:AM g=some r) (H:ag) :AC Tryz.prog 228 [.agg (aB.c g)] H fun v h'=>v=.dM [.agg (aB.c r.1),.d (.bool r.2)]/\h'=H:=by
 unfold AM lM at b;refine AC.oW 11 [.cell 2 50,.tmp 3] Tryz.call228 Tryz.func228 ?_;refine aa (S BX ?_);refine Sl ?_;refine S As (nil ?_);refine ay fun i f=>?_;refine aa (S Ld ?_);obtain⟨o,j,b⟩:=qT (Hg _) b;refine Sc rfl rfl (Hh j) ?_;refine S NB (nil ?_);refine cE b (fun k b=>?_) (fun k b=>?_)
 ·refine aa (S BU ?_);refine Sf ?_;refine S As (nil ?_);exact rt b
 refine sk f ?_;clear f i;refine aa (S Ld ?_);obtain⟨p,l,b⟩:=qT (tY _) b;refine Sc rfl rfl (tZ l) ?_;obtain⟨q,m,b⟩:=qT (He _) b;refine Sc rfl rfl (Hf m) ?_;refine Sf ?_;refine S As (nil ?_);exact rt b
def AP  :Option Bool:=some true
def ol (f:ar) (g:Int) :Nat->Int->Option Bool
 | 0,_=>none
 | i+1,b=>bif (decide (b<g)) then((cq f.aD.l b).bind fun j=>(cq f.aD.l g).bind fun k=>bif ((j.ai==k.ai)) then(some false) else((bY b (1:Int)).bind fun m=>(ol f g i) m)) else(AP   )
def t_ (b:ar) (f:Int):Option Bool:=ol b f F0 (0:Int)
theorem Pt {i:ar}{j:Int}{r:Bool}(b:t_ i j=some r) (H:ag) :AC Tryz.prog 113 [.agg (ar.c i),.d (.int .i64 j)] H fun v h'=>v=.a (.d (.bool r))/\h'=H:=by
 unfold t_ at b;refine AC.oW 24 [.tmp 4] Tryz.call113 Tryz.func113 ?_;refine aa (S BX (S As (nil ?_)));refine aP kN (fun(z:Unit)=>[]) (fun z=>H) (fun z=>AP =some r) ?_ ?_
 ·intro B m;refine aa (S As (nil ?_));refine block ?_;refine bD (TA 1 (TA 2 kN)) (fun(z:Nat×Int)=>[(5,.a (.d (.int .i64 z.2)))]) (fun z=>H) (fun z=>z.1) (fun z=>ol i j z.1 z.2=some r) (F0,(0:Int)) b wA ?_;rintro ⟨g,C⟩ b E o;try dsimp only at b
  cases g with
  | zero=>cases b
  | succ g =>
    rw [ol] at b;refine ay fun p k=>?_;refine aa (S Mv (S Mv (S BI (nil ?_))));refine cE b (fun q b=>?_) (fun q b=>?_)
    ·refine sk k ?_;clear k p;refine ay fun s l=>?_;refine block ?_;refine ah.cH (Sd Fv (Sd Ld (Sd Mv ?_)));obtain⟨F,t,b⟩:=bO b;refine au.s0 (fI (f:=az.c) (TK rfl) rfl (TK rfl) rfl rfl rfl t) rfl ?_;refine Sd Fv (Sd Ld (Sd Fv (Sd Ld (Sd Mv ?_))));obtain⟨G,u,b⟩:=bO b;refine au.s0 (fI (f:=az.c) (TK rfl) rfl (TK rfl) rfl rfl rfl u) rfl ?_;refine Sd Fv (Sd Ld (Sd BS ?_))
     refine au.nil (by decide +kernel) ?_;refine cE b (fun w b=>?_) (fun w b=>?_)
     ·refine aa (S As (nil ?_));exact rt b
     refine sk l ?_;clear l s;refine region ?_;refine S Mv ?_;obtain⟨x,y,b⟩:=bO b;refine s0 (dc rfl rfl y) rfl ?_;refine S As (nil ?_);exact o _ (g,x) wA b (nS _)
    refine ah.exit ?_;exact m _ () wA b
 rintro _ b;try dsimp only at b
 unfold AP at b;refine aa (S As (nil ?_));exact rt b
def rJ (b:ar) (f:Int):Option Bool:=t_ b f
theorem Pu (a0:ar) (a1:Int):t_ a0 a1=rJ a0 a1:=rfl
def mU (b:Bs):List Z9->Unit ⊕ Bool
 | []=>Sum.inl ()
 | f::g=>on (f) fun i=>bif ((i.ai==b)) then(Sum.inr true) else(mU b (g) )
def lN (g:az) (i:Bs):Bool:=on (mU i g.cm.l ) fun b=>match b with|Sum.inl _=>(on (()) fun _=>false)|Sum.inr f=>(f)
def AR (b:az) (f:Bs):Option Bool:=some (lN b f)
theorem Hi (a0:az) (a1:Bs):AR a0 a1=some (lN a0 a1):=rfl
theorem Hj {g:az}{i:Bs}{r:Bool}(b:AR g i=some r) (H:ag) :AC Tryz.prog 115 [.agg (az.c g),.d (.str i)] H fun v h'=>v=.a (.d (.bool r))/\h'=H:=by
 unfold AR lN at b;refine AC.oW 21 [.tmp 4] Tryz.call115 Tryz.func115 ?_;refine aa (S BX (S As (nil ?_)));refine aP kN (fun(z:Unit)=>[]) (fun z=>H) (fun z=>some (false)=some r) ?_ ?_
 ·intro F u;refine aa (S As (nil ?_));refine block ?_;obtain⟨k,m,b⟩:=fo b;refine bD (TA 1 (TA 2 kN)) (fun(z:Nat)=>[(5,.a (.d (.int .i64 ((z:Nat):Int))))]) (fun z=>H) (fun z=>g.cm.l.length-z) (fun z=>k (mU i (g.cm.l.drop z) )=some r) 0 b wA ?_;rintro o b G w;try dsimp only at b
  refine ay fun x p=>?_;refine aa (S Mv (S Fv (S Ld ?_)));refine sLen (f:=Z9.c) (s:=g.cm) (TK rfl) rfl rfl rfl rfl fun I=>?_;refine S BI (nil ?_);refine ah.cL (fun l=>k (mU i l )=some r) b rfl (fun J q j b=>?_) (fun j b=>?_)
  ·rw [mU] at b;try dsimp only at j
   have K:=oD j;refine sk p ?_;clear p x;refine ay fun y t=>?_;refine block ?_;refine aa (S Fv (S Ld (S Mv ?_)));obtain⟨L,B,b⟩:=vP q b;refine S (ix Z9.c o B) (S Fv (S Ld (S Mv (S BS (nil ?_)))));refine cP b (fun C b=>?_) (fun C b=>?_)
   ·refine aa (S As (nil ?_));refine ah.ret ?_;repeat (first|refine bM ?_|refine bN ?_)
    have b:=ku m b;obtain rfl:=oJ b;refine bF.bK H rfl ⟨rfl,rfl⟩ ?_;exact(fun _ _ h=>h)
   refine sk t ?_;clear t y;refine region ?_;refine S Mv ?_;refine SI ?_;refine S As (nil ?_);exact w _ (o+1) wA b (dl q)
  rw [mU] at b;have b:=ku m b;try dsimp only at b
  refine ah.exit ?_;obtain⟨M,E,b⟩:=fo b;have b:=ku E b;exact u _ () wA b
 rintro _ b;try dsimp only at b
 refine aa (S As (nil ?_));exact rt b
def fD (l:ar) (i:Bs) (b:(az×Bool)):List az->Nat->(Sl Bs)->Option ((Sl Bs))
 | [],j,g=>some g
 | m::o,j,g=>bif b.2 then(on (m) fun f=>aQ (!(!decide (f.ak=(1:Int)))) (rJ l ((j:Nat):Int)) false fun p=>Option.bind (bif ((!decide (f.ak=(1:Int)))||(!p)) then(some g) else(on (bif (!((decide (b.1.ak=(1:Int)))&&((f.ai==i)))&&(decide (b.1.ak=(2:Int)))) then iR f.cw i else false) fun k=>on (bif (!(((decide (b.1.ak=(1:Int)))&&((f.ai==i)))||((decide (b.1.ak=(2:Int)))&&k))&&(decide (b.1.ak=(3:Int)))) then lN b.1 f.ai else false) fun q=>bif ((((decide (b.1.ak=(1:Int)))&&((f.ai==i)))||((decide (b.1.ak=(2:Int)))&&k))||((decide (b.1.ak=(3:Int)))&&q)) then((bp 16 g (⟨false,[f.ai]⟩:Sl Bs)).bind fun r=>some r) else(some g))) fun s=>fD l i b (o) (j+1) s) else(some g)
def kR (b:ar) (f:Bs):Option (Sl Bs):=on (cV b f) fun g=>Option.bind (fD b f g b.aD.l 0 (Sl.nil:Sl Bs)) fun i=>on (i) fun j=>some j
def AS (b:ar) (f:Bs):Option (Sl Bs):=kR b f
theorem Hl (a0:ar) (a1:Bs):AS a0 a1=kR a0 a1:=rfl
theorem Ho {g:ar}{o:Bs}{r:Sl Bs}(b:AS g o=some r) (H:ag) :AC Tryz.prog 66 [.agg (ar.c g),.d (.str o)] H fun v h'=>v=.a (.d (Sl.d 1 aM none r))/\h'=H:=by
 unfold AS kR at b;refine AC.oW 81 [.tmp 4] Tryz.call66 Tryz.func66 ?_;refine ah.tok 1 fun i x=>?_;refine aa (S BX ?_);refine s0 (fJ (k':=1) rfl) rfl ?_;refine nil ?_;refine aa (S As (nil ?_));refine ah.fH 5 1 i rfl aJ ?_;refine aa (S Ld (S Mv ?_));obtain⟨q,F,b⟩:=vT (jj _ _) b;refine Sc rfl rfl (jk F) ?_;refine S Mv (S EX (S EX ?_));refine Sl ?_
 refine Sf ?_;refine S As (nil ?_);refine bH 6 _ rfl (KA 1 (KA 2 (KA 5 (KA 7 aU.nil)))) ?_;refine aP kN (fun(z:(Sl Bs))=>[(5,.a (.d (Sl.d 1 aM (some i) z)))]) (fun z=>(H.set i (some (.tok 1 z.l.length)))) (fun z=>(some z)=some r) ?_ ?_
 ·intro ab G;refine aa (S As (nil ?_));refine block ?_;obtain⟨p,I,b⟩:=cG b;refine bD (TA 1 (TA 2 (TA 6 (TA 7 kN)))) (fun(z:(Sl Bs)×Nat)=>[(5,.a (.d (Sl.d 1 aM (some i) z.1))),(8,.a (.d (.int .i64 ((z.2:Nat):Int))))]) (fun z=>(H.set i (some (.tok 1 z.1.l.length)))) (fun z=>g.aD.l.length-z.2) (fun z=>Option.bind (fD g o q (g.aD.l.drop z.2) z.2 z.1) p=some r) ((Sl.nil:Sl Bs),0) b wA ?_
  rintro ⟨j,m⟩ b ad J;try dsimp only at b
  refine ay fun K y=>?_;refine aa (S Mv (S Fv (S Ld ?_)));refine sLen (f:=az.c) (s:=g.aD) (TK rfl) rfl rfl rfl rfl fun ae=>?_;refine S BI (S Mv (G0 Mv (S PA (nil ?_))));refine ah.iM (fun l=>Option.bind (fD g o q l m j) p=some r) (Option.bind (some j) p=some r) b (fun b=>by rw [fD] at b; exact b) (fun _ L b=>by rw [fD] at b; rw [L] at b; exact b) rfl rfl (fun af B t M b=>?_) (fun t b=>?_)
  ·rw [fD] at b;rw [M,cond_true] at b;try dsimp only at t
   have ai:=oD (and_left t);refine sk y ?_;clear y K;refine aP (TA 1 (TA 2 (TA 6 (TA 7 (TA 8 kN))))) (fun(z:(Sl Bs))=>[(5,.a (.d (Sl.d 1 aM (some i) z)))]) (fun z=>(H.set i (some (.tok 1 z.l.length)))) (fun z=>Option.bind (fD g o q (g.aD.l.drop (m+1)) (m+1) z) p=some r) ?_ ?_
   ·intro aj u;refine block ?_;refine aa (S Fv (S Ld (S Mv ?_)));obtain⟨ak,N,b⟩:=vO B b;refine S (ix az.c m N) (S Ld ?_);refine Sl ?_;refine Sf ?_;refine nil ?_;refine bH 9 _ rfl (KA 1 (KA 2 (KA 5 (KA 6 (KA 7 (KA 8 aU.nil)))))) ?_;refine ay fun O C=>?_;refine aa (S Fv (S Ld (S BI (S Mv (G0 Ld (G0 Mv ?_))))));obtain⟨al,P,b⟩:=eR (Pu _ _) b;refine fq 36 37 rfl rfl rfl rfl rfl rfl (fun hC=>Pt (P hC)) ?_
    refine G1 38 rfl NB ?_;refine S PO (nil ?_);obtain⟨an,w,b⟩:=eG b;refine cO b (fun Q b=>?_) (fun Q b=>?_)
    ·refine ah.exit ?_;have b:=ku w b;exact u _ j wA b
    refine sk C ?_;clear C O;refine aa (S Fv (S Ld (S BI (S Mv (G0 Fv ?_)))));refine G1 45 rfl Ld ?_;refine G0 Mv ?_;refine G2 46 47 rfl rfl BS ?_;refine S PA (S As (nil ?_));refine aa (S Mv (S Mv (G0 Fv ?_)));refine G1 52 rfl Ld ?_;refine G1 53 rfl BI ?_;refine G1 54 rfl Mv ?_;refine G0 Fv ?_;refine G1 56 rfl Ld ?_;refine G0 Mv ?_;obtain⟨ao,R,b⟩:=eV (fun _=>(AD _ _)) b;refine fq 57 58 rfl rfl rfl rfl rfl rfl (fun hC=>AE (R hC)) ?_
    refine gC rfl rfl (fun hC=>aI (k:=55) rfl (gF rfl rfl rfl)) rfl ?_;refine S PO (S As (nil ?_));refine aa (S Mv (S Mv (G0 Fv ?_)));refine G1 64 rfl Ld ?_;refine G1 65 rfl BI ?_;refine G1 66 rfl Mv ?_;refine G0 Ld (G0 Fv ?_);refine G1 69 rfl Ld ?_;obtain⟨ap,U,b⟩:=eV (fun _=>(Hi _ _)) b;refine fq 68 70 rfl rfl rfl rfl rfl rfl (fun hC=>Hj (U hC)) ?_;refine gC rfl rfl (fun hC=>aI (k:=67) rfl (gF rfl rfl rfl)) rfl ?_
    refine S PO (S As (nil ?_));refine aa (S Mv (nil ?_));refine cO b (fun W b=>?_) (fun W b=>?_)
    ·refine region ?_;refine S Mv (S Fv (S Ld (S BV ?_)));obtain⟨E,X,b⟩:=qO rfl b;refine SH (am aM (TK rfl) rfl (TK rfl) (TK rfl) X) ?_;refine hq (H.set i (some (.tok 1 E.l.length))) ?_;refine S As (nil ?_);have b:=ku w b;exact u _ E wA b
    refine ah.skip ?_;have b:=ku w b;exact u _ j wA b
   rintro Y b;try dsimp only at b
   refine region ?_;refine S Mv ?_;refine SI ?_;refine S As (nil ?_);exact J _ (Y,(m+1)) wA b (dl B)
  have b:=ku I b;refine ah.exit ?_;obtain⟨au,Z,b⟩:=cC b;have b:=ku Z b;exact G _ j wA b
 rintro av b;try dsimp only at b
 refine aa (S Mv (S As (nil ?_)));refine ah.f_ 4 rfl ?_;refine ah.ret ?_;repeat (first|refine bM ?_|refine bN ?_)
 obtain rfl:=oJ b;refine bF.bK H rfl ⟨rfl,rfl⟩ ?_
 first|exact ag.bX x|(simp only [ag.set_set]; exact ag.bX x)
def rK (g:ar) (i:Bs) (j:Bs):Option Bool:=(kR g j).bind fun b=>on (iR b i) fun f=>some f
def AT (b:ar) (f:Bs) (g:Bs):Option Bool:=rK b f g
theorem Pv (a0:ar) (a1:Bs) (a2:Bs):AT a0 a1 a2=rK a0 a1 a2:=rfl
theorem Pw {f:ar}{g i:Bs}{r:Bool}(b:AT f g i=some r) (H:ag) :AC Tryz.prog 229 [.agg (ar.c f),.d (.str g),.d (.str i)] H fun v h'=>v=.a (.d (.bool r))/\h'=H:=by
 unfold AT rK at b;refine AC.oW 12 [.tmp 6] Tryz.call229 Tryz.func229 ?_;refine aa (S BX (S As (nil ?_)));refine aa (S Ld (S Mv ?_));obtain⟨l,j,b⟩:=qT (Hl _ _) b;refine Sc rfl rfl (Ho j) ?_;refine S Mv ?_;obtain⟨m,k,b⟩:=vT (AD _ _) b;refine Sc rfl rfl (AE k) ?_;refine S As (nil ?_);exact rt b
def lP:Nat->ar->aB->aB->Option Bool
 | 0,_,_,_=>none
 | n+1,k,b,f=>on (fw f) fun l=>bif l then(on (fw b) fun g=>aQ (g) (jQ b) aB.zero fun m=>aQ (g) (jQ f) aB.zero fun o=>aQ (g) ((lP n) k m o) false fun p=>some (g&&p)) else(on (fw b) fun q=>bif q then((jQ b).bind fun r=>((lP n) k r f).bind fun s=>some s) else((lM b).bind fun i=>(lM f).bind fun j=>bif (i.2&&j.2) then(((lP n) k i.1 j.1).bind fun t=>some t) else(aQ ((((!i.2)&&(!j.2))&&!((b.ai==f.ai)))) (rK k b.ai f.ai) false fun u=>some (((!i.2)&&(!j.2))&&(((b.ai==f.ai))||u)))))
def AU (n:Nat):Prop:=∀{a0:ar}{a1:aB}{a2:aB}   {r:Bool},lP n a0 a1 a2=some r->∀(H:ag),AC Tryz.prog 197 [.agg (ar.c a0),.agg (aB.c a1),.agg (aB.c a2)] H fun v h'=>v=.a (.d (.bool r))/\h'=H
theorem Px (n:Nat) (f:AU (an:=an) n):AU (an:=an) (n+1):=by
 intro X Y Z   r b H;rw [lP] at b;refine AC.oW 69 [.tmp 6] Tryz.call197 Tryz.func197 ?_;refine aa (S BX (S BX (S BX (S As (nil ?_)))));refine ay fun l g=>?_;refine aa (S Ld ?_);obtain⟨I,m,b⟩:=vT (oe _) b;refine Sc rfl rfl (og m) ?_;refine nil ?_;refine cE b (fun o b=>?_) (fun o b=>?_)
 ·refine ah.cH (Sd Ld ?_);obtain⟨J,p,b⟩:=vT (oe _) b;refine cN rfl rfl (og p) ?_;refine Sd Mv (cr Ld (cr Ld ?_));obtain⟨K,q,b⟩:=dB (tY _) b;refine nN 17 rfl rfl rfl rfl rfl (fun hC=>tZ (q hC)) ?_;refine cr Ld ?_;obtain⟨L,s,b⟩:=dB (tY _) b;refine nN 19 rfl rfl rfl rfl rfl (fun hC=>tZ (s hC)) ?_;obtain⟨M,t,b⟩:=dB rfl b;refine au.gC rfl rfl (fun hC=>aI (k:=16) rfl (aI (k:=18) rfl (aI (k:=20) rfl (fh rfl rfl (fun H=>f (t hC) H))))) rfl ?_
  refine Sd PA (Sd As ?_);refine au.nil (by decide +kernel) ?_;exact rt b
 refine sk g ?_;clear g l;refine ay fun u i=>?_;refine aa (S Ld ?_);obtain⟨N,v,b⟩:=vT (oe _) b;refine Sc rfl rfl (og v) ?_;refine nil ?_;refine cE b (fun w b=>?_) (fun w b=>?_)
 ·refine ah.cH (Sd Ld (Sd Ld ?_));obtain⟨O,x,b⟩:=qT (tY _) b;refine cN rfl rfl (tZ x) ?_;refine Sd Ld ?_;obtain⟨P,y,b⟩:=qT rfl b;refine cN rfl rfl (f y) ?_;refine Sd As ?_;refine au.nil (by decide +kernel) ?_;exact rt b
 refine sk i ?_;clear i u;refine aa (S Ld ?_);obtain⟨Q,z,b⟩:=qT (AN _) b;refine Sc rfl rfl (AO z) ?_;refine S Mv (S EX (S EX ?_));refine Sl ?_;refine Sf ?_;refine S As (nil ?_);refine bH 7 _ rfl (KA 3 (KA 4 (KA 5 (KA 8 aU.nil)))) ?_;refine aa (S Ld ?_);obtain⟨R,B,b⟩:=qT (AN _) b;refine Sc rfl rfl (AO B) ?_;refine S Mv (S EX (S EX ?_));refine Sl ?_
 refine Sf ?_;refine S As (nil ?_);refine bH 9 _ rfl (KA 3 (KA 4 (KA 5 (KA 7 (KA 8 (KA 10 aU.nil)))))) ?_;refine ay fun C j=>?_;refine aa (S Mv (S Mv (G0 Mv (S PA (nil ?_)))));refine cE b (fun E b=>?_) (fun E b=>?_)
 ·refine aa (S Ld (S Ld (S Ld ?_)));obtain⟨U,F,b⟩:=qT rfl b;refine Sc rfl rfl (f F) ?_;refine S As (nil ?_);exact rt b
 refine sk j ?_;clear j C;refine aa (S Mv (S NB (S Mv (G0 Mv ?_))));refine G1 51 rfl NB ?_;refine S PA (S Mv (G0 Fv ?_));refine G1 55 rfl Ld ?_;refine G0 Fv ?_;refine G1 57 rfl Ld ?_;refine G2 56 58 rfl rfl BS ?_;refine G1 59 rfl Mv ?_;refine G0 Ld (G0 Fv ?_);refine G1 62 rfl Ld ?_;refine G0 Fv ?_;refine G1 64 rfl Ld ?_;obtain⟨W,G,b⟩:=dB (Pv _ _ _) b;refine gC rfl rfl (fun hC=>aI (k:=61) rfl (aI (k:=63) rfl (aI (k:=65) rfl (fh rfl rfl (fun H=>Pw (G hC) H))))) rfl ?_
 refine gC rfl rfl (fun hC=>aI (k:=60) rfl (pM rfl rfl rfl)) rfl ?_;refine S PA (S As (nil ?_));exact rt b
theorem Hp:∀(n:Nat),(AU (an:=an) n)
 | 0=>fun b=>by first|cases b|(rw [lP] at b; cases b)
 | n+1=>Px n (Hp n)
def Hq (b:ar) (f:aB) (g:aB):Option Bool:=lP F0 b f g
theorem Py {b:ar}{f g:aB}{r:Bool}(i:Hq b f g=some r) (H:ag) :AC Tryz.prog 197 [.agg (ar.c b),.agg (aB.c f),.agg (aB.c g)] H fun v h'=>v=.a (.d (.bool r))/\h'=H:=(Hp F0) i H 
def AV (b:ar) (f:aB) (g:aB):Option Bool:=lP F0 b f g
theorem Pz (a0:ar) (a1:aB) (a2:aB):Hq a0 a1 a2=AV a0 a1 a2:=rfl
def jR (i:Bs) (j:(Z6×Bool)):List Z8->(Sl Z5)->Option ((Sl Z5))
 | [],b=>some b
 | g::k,b=>on (g) fun l=>on (jm j.1.aG l.ai) fun f=>on (bif !(!f.2) then g else Z8.zero) fun m=>aQ (!(!f.2)) (kQ f.1.aO m.aO) false fun o=>Option.bind (bif ((!f.2)||(!o)) then((a_ i ([40]:Bs)).bind fun p=>on (g) fun q=>(a_ p q.ai).bind fun r=>(a_ r ([41]:Bs)).bind fun s=>(bp 24 b (⟨false,[(Z5.mk (22:Int) s)]⟩:Sl Z5)).bind fun t=>some t) else(some b)) fun u=>jR i j (k) u
def js (k:Z6) (i:Bs):List Z8->(Sl Z5)->Option ((Sl Z5))
 | [],b=>some b
 | f::l,b=>on (f) fun m=>on (jm k.aG m.ai) fun g=>on (bif (!g.2) then f else Z8.zero) fun o=>on (bif (!g.2) then fw o.aO else false) fun j=>on (bif ((!g.2)&&j) then f else Z8.zero) fun p=>Option.bind (bif (((!g.2)&&j)&&(!p.dO)) then((a_ i ([40]:Bs)).bind fun q=>on (f) fun r=>(a_ q r.ai).bind fun s=>(a_ s ([41]:Bs)).bind fun t=>(bp 24 b (⟨false,[(Z5.mk (22:Int) t)]⟩:Sl Z5)).bind fun u=>some u) else(some b)) fun v=>js k i (l) v
def rL (t:ar) (i:az) (b:Z6):Option (Sl Z5):=(a_ i.ai ([46]:Bs)).bind fun j=>(a_ j b.ai).bind fun f=>on (gb i b.ai) fun g=>bif (!g.2) then(some (⟨false,[(Z5.mk (20:Int) f)]⟩:Sl Z5)) else((AV t g.1.aO b.aO).bind fun k=>Option.bind (bif (!k) then((bp 24 (Sl.nil:Sl Z5) (⟨false,[(Z5.mk (10:Int) f)]⟩:Sl Z5)).bind fun m=>some m) else(some (Sl.nil:Sl Z5))) fun o=>Option.bind (jR f g b.aG.l o) fun p=>on (p) fun q=>Option.bind (js b f g.1.aG.l q) fun r=>on (r) fun s=>some s)
def AW (b:ar) (f:az) (g:Z6):Option (Sl Z5):=rL b f g
theorem PB (a0:ar) (a1:az) (a2:Z6):AW a0 a1 a2=rL a0 a1 a2:=rfl
theorem PC {X:ar}{Y:az}{i:Z6}{r:Sl Z5}(b:AW X Y i=some r) (H:ag) :AC Tryz.prog 157 [.agg (ar.c X),.agg (az.c Y),.agg (Z6.c i)] H fun v h'=>v=.a (.d (Sl.d 2 Z5.c none r))/\h'=H:=by
 unfold AW rL at b;refine AC.oW 148 [.tmp 6] Tryz.call157 Tryz.func157 ?_;refine ah.tok 2 fun g w=>?_;refine aa (S BX (S BX (S BX ?_)));refine s0 (fJ (k':=2) rfl) rfl ?_;refine nil ?_;refine aa (S Fv (S Ld ?_));obtain⟨a6,Z,b⟩:=qT rfl b;refine s0 (bL rfl rfl Z) rfl ?_;refine S Fv (S Ld ?_);obtain⟨m,ab,b⟩:=qT rfl b;refine s0 (bL rfl rfl ab) rfl ?_;refine S As (nil ?_)
 refine aa (S Ld (S Fv (S Ld ?_)));obtain⟨j,ad,b⟩:=vT (Aw _ _) b;refine Sc rfl rfl (Ax ad) ?_;refine S Mv (S EX (S EX ?_));refine Sl ?_;refine Sf ?_;refine S As (nil ?_);refine bH 8 _ rfl (KA 3 (KA 5 (KA 7 (KA 9 aU.nil)))) ?_;refine ay fun ae I=>?_;refine aa (S Mv (S NB (nil ?_)));refine cE b (fun af b=>?_) (fun af b=>?_)
 ·refine aa (S Mv (S BU (S BV (S As (nil ?_)))));refine ah.ret ?_;repeat (first|refine bM ?_|refine bN ?_)
  obtain rfl:=oJ b;refine bF.bK H rfl ⟨rfl,rfl⟩ ?_
  first|exact ag.bX w|(simp only [ag.set_set]; exact ag.bX w)
 refine sk I ?_;clear I ae;refine aa (S As (nil ?_));refine ah.fH 10 2 g rfl aJ ?_;refine aP (TA 5 (TA 7 (TA 8 kN))) (fun(z:(Sl Z5))=>[(10,.a (.d (Sl.d 2 Z5.c (some g) z)))]) (fun z=>(H.set g (some (.tok 2 z.l.length)))) (fun z=>(Option.bind (jR m j i.aG.l z) fun q=>on (q) fun B=>Option.bind (js i m j.1.aG.l B) fun o=>on (o) fun x=>some x)=some r) ?_ ?_
 ·intro a7 J;refine aa (S Ld (S Fv (S Ld (S Fv (S Ld ?_)))));obtain⟨a8,ai,b⟩:=qT (Pz _ _ _) b;refine Sc rfl rfl (Py ai) ?_;refine S NB (nil ?_);obtain⟨a9,K,b⟩:=cG b;refine cO b (fun aj b=>?_) (fun aj b=>?_)
  ·refine region ?_;refine S Mv (S Mv (S BU (S BV ?_)));obtain⟨L,ak,b⟩:=qO rfl b;refine SH (am Z5.c (TK rfl) rfl (TK rfl) (TK rfl) ak) ?_;refine hq (H.set g (some (.tok 2 L.l.length))) ?_;refine S As (nil ?_);have b:=ku K b;exact J _ L wA b
  refine ah.skip ?_;have b:=ku K b;exact J _ (Sl.nil:Sl Z5) wA b
 rintro al b;try dsimp only at b
 refine aP (TA 5 (TA 7 (TA 8 kN))) (fun(z:(Sl Z5))=>[(10,.a (.d (Sl.d 2 Z5.c (some g) z)))]) (fun z=>(H.set g (some (.tok 2 z.l.length)))) (fun z=>(Option.bind (js i m j.1.aG.l z) fun o=>on (o) fun x=>some x)=some r) ?_ ?_
 ·intro a_ an;refine aa (S As (nil ?_));refine block ?_;obtain⟨C,ao,b⟩:=cG b;refine bD (TA 5 (TA 7 (TA 8 kN))) (fun(z:(Sl Z5)×Nat)=>[(10,.a (.d (Sl.d 2 Z5.c (some g) z.1))),(11,.a (.d (.int .i64 ((z.2:Nat):Int))))]) (fun z=>(H.set g (some (.tok 2 z.1.l.length)))) (fun z=>i.aG.l.length-z.2) (fun z=>Option.bind (jR m j (i.aG.l.drop z.2) z.1) C=some r) (al,0) b wA ?_
  rintro ⟨q,t⟩ b a' ap;try dsimp only at b
  refine ay fun av M=>?_;refine aa (S Mv (S Fv (S Ld ?_)));refine sLen (f:=Z8.c) (s:=i.aG) (TK rfl) rfl rfl rfl rfl fun ba=>?_;refine S BI (nil ?_);refine ah.cL (fun l=>Option.bind (jR m j l q) C=some r) b rfl (fun bb y E b=>?_) (fun E b=>?_)
  ·rw [jR] at b;try dsimp only at E
   have bc:=oD E;refine sk M ?_;clear M av;refine aP (TA 5 (TA 7 (TA 8 (TA 11 kN)))) (fun(z:(Sl Z5))=>[(10,.a (.d (Sl.d 2 Z5.c (some g) z)))]) (fun z=>(H.set g (some (.tok 2 z.l.length)))) (fun z=>Option.bind (jR m j (i.aG.l.drop (t+1)) z) C=some r) ?_ ?_
   ·intro bd N;refine block ?_;refine ah.cH (Sd Fv (Sd Ld (Sd Fv (Sd Ld (Sd Mv ?_)))));obtain⟨be,aw,b⟩:=vO y b;refine Sd (ix Z8.c t aw) (Sd Fv (Sd Ld ?_));obtain⟨bf,ax,b⟩:=vO (wx _ _) b;refine cN rfl rfl (wy ax) ?_;refine Sd Mv (Sd EX (Sd EX ?_));refine au.sB (TK rfl) rfl rfl ?_ (by repeat (first|exact bT.nil|apply bT.cons));refine au.dU (eA (TK rfl) rfl rfl rfl rfl rfl) ?_
    refine Sd As ?_;refine au.nil (by decide +kernel) ?_;refine bH 12 _ rfl (KA 5 (KA 7 (KA 8 (KA 10 (KA 11 (KA 13 aU.nil)))))) ?_;refine ah.cH (Sd Mv (Sd NB (Sd Mv (cr Fv ?_))));refine cK 69 rfl Ld ?_;refine cr Fv ?_;refine cK 71 rfl Ld ?_;refine cr Mv ?_;obtain⟨bg,aA,b⟩:=eV (fun _=>y) b;refine au.gC rfl rfl (fun hC=>aI (k:=72) rfl (aI (k:=73) rfl (eO (f:=Z8.c) (n:=t) (TK rfl) rfl (TK rfl) rfl rfl rfl (aA hC)))) rfl ?_
    refine cK 74 rfl Fv ?_;refine cK 75 rfl Ld ?_;obtain⟨bh,aB,b⟩:=eR (wz _ _) b;refine kG 70 76 rfl rfl rfl rfl rfl rfl (fun hC=>wC (aB hC)) ?_;refine cK 77 rfl NB ?_;refine Sd PO ?_;refine au.nil (by decide +kernel) ?_;obtain⟨bi,O,b⟩:=eG b;refine cO b (fun aC b=>?_) (fun aC b=>?_)
    ·refine region ?_;refine S Mv (S Mv ?_);obtain⟨bj,aD,b⟩:=qO rfl b;refine s0 (bL rfl rfl aD) rfl ?_;refine S Fv (S Ld (S Mv ?_));obtain⟨bk,aE,b⟩:=vO y b;refine S (ix Z8.c t aE) (S Fv (S Ld ?_));obtain⟨bl,aF,b⟩:=qO rfl b;refine s0 (bL rfl rfl aF) rfl ?_;obtain⟨bm,aH,b⟩:=qO rfl b;refine s0 (bL rfl rfl aH) rfl ?_;refine S BU (S BV ?_);obtain⟨P,aK,b⟩:=qO rfl b
     refine SH (am Z5.c (TK rfl) rfl (TK rfl) (TK rfl) aK) ?_;refine hq (H.set g (some (.tok 2 P.l.length))) ?_;refine S As (nil ?_);have b:=ku O b;exact N _ P wA b
    refine ah.skip ?_;have b:=ku O b;exact N _ q wA b
   rintro aL b;try dsimp only at b
   refine region ?_;refine S Mv ?_;refine SI ?_;refine S As (nil ?_);exact ap _ (aL,(t+1)) wA b (dl y)
  rw [jR] at b;have b:=ku ao b;refine ah.exit ?_;obtain⟨bn,aM,b⟩:=cC b;have b:=ku aM b;exact an _ q wA b
 rintro B b;try dsimp only at b
 refine aP kN (fun(z:(Sl Z5))=>[(10,.a (.d (Sl.d 2 Z5.c (some g) z)))]) (fun z=>(H.set g (some (.tok 2 z.l.length)))) (fun z=>(some z)=some r) ?_ ?_
 ·intro bo aN;refine aa (S As (nil ?_));refine block ?_;obtain⟨F,aO,b⟩:=cG b;refine bD (TA 5 (TA 7 (TA 8 kN))) (fun(z:(Sl Z5)×Nat)=>[(10,.a (.d (Sl.d 2 Z5.c (some g) z.1))),(14,.a (.d (.int .i64 ((z.2:Nat):Int))))]) (fun z=>(H.set g (some (.tok 2 z.1.l.length)))) (fun z=>j.1.aG.l.length-z.2) (fun z=>Option.bind (js i m (j.1.aG.l.drop z.2) z.1) F=some r) (B,0) b wA ?_
  rintro ⟨o,p⟩ b bp aQ;try dsimp only at b
  refine ay fun aR Q=>?_;refine aa (S Mv (S Fv (S Ld ?_)));refine sLen (f:=Z8.c) (s:=j.1.aG) (TK rfl) rfl rfl rfl rfl fun bq=>?_;refine S BI (nil ?_);refine ah.cL (fun l=>Option.bind (js i m l o) F=some r) b rfl (fun br u G b=>?_) (fun G b=>?_)
  ·rw [js] at b;try dsimp only at G
   have bs:=oD G;refine sk Q ?_;clear Q aR;refine aP (TA 5 (TA 7 (TA 8 (TA 14 kN)))) (fun(z:(Sl Z5))=>[(10,.a (.d (Sl.d 2 Z5.c (some g) z)))]) (fun z=>(H.set g (some (.tok 2 z.l.length)))) (fun z=>Option.bind (js i m (j.1.aG.l.drop (p+1)) z) F=some r) ?_ ?_
   ·intro bt R;refine block ?_;refine ah.cH (Sd Fv (Sd Ld (Sd Fv (Sd Ld (Sd Mv ?_)))));obtain⟨bu,aS,b⟩:=vO u b;refine Sd (ix Z8.c p aS) (Sd Fv (Sd Ld ?_));obtain⟨bv,aT,b⟩:=vO (wx _ _) b;refine cN rfl rfl (wy aT) ?_;refine Sd Mv (Sd EX (Sd EX ?_));refine au.sB (TK rfl) rfl rfl ?_ (by repeat (first|exact bT.nil|apply bT.cons));refine au.dU (eA (TK rfl) rfl rfl rfl rfl rfl) ?_
    refine Sd As ?_;refine au.nil (by decide +kernel) ?_;refine bH 15 _ rfl (KA 5 (KA 7 (KA 8 (KA 10 (KA 14 (KA 16 aU.nil)))))) ?_;refine aa (S Mv (S NB (S Mv (G0 Fv ?_))));refine G1 116 rfl Ld ?_;refine G0 Mv ?_;obtain⟨bw,aV,b⟩:=eV (fun _=>u) b;refine gC rfl rfl (fun hC=>aI (k:=117) rfl (aI (k:=118) rfl (eO (f:=Z8.c) (n:=p) (TK rfl) rfl (TK rfl) rfl rfl rfl (aV hC)))) rfl ?_
    refine G1 119 rfl Fv ?_;refine G1 120 rfl Ld ?_;obtain⟨bx,aW,b⟩:=eV (fun _=>(oe _)) b;refine dH 121 rfl rfl rfl rfl rfl (fun hC=>og (aW hC)) ?_;refine S PA (S Mv (G0 Fv ?_));refine G1 125 rfl Ld ?_;refine G0 Mv ?_;obtain⟨bz,aX,b⟩:=eV (fun _=>u) b;refine gC rfl rfl (fun hC=>aI (k:=126) rfl (aI (k:=127) rfl (eO (f:=Z8.c) (n:=p) (TK rfl) rfl (TK rfl) rfl rfl rfl (aX hC)))) rfl ?_
    refine G1 128 rfl Fv ?_;refine G1 129 rfl Ld ?_;refine G1 130 rfl NB ?_;refine S PA (nil ?_);obtain⟨bA,U,b⟩:=eG b;refine cO b (fun aY b=>?_) (fun aY b=>?_)
    ·refine region ?_;refine S Mv (S Mv ?_);obtain⟨bB,aZ,b⟩:=qO rfl b;refine s0 (bL rfl rfl aZ) rfl ?_;refine S Fv (S Ld (S Mv ?_));obtain⟨bC,a0,b⟩:=vO u b;refine S (ix Z8.c p a0) (S Fv (S Ld ?_));obtain⟨bE,a1,b⟩:=qO rfl b;refine s0 (bL rfl rfl a1) rfl ?_;obtain⟨bG,a2,b⟩:=qO rfl b;refine s0 (bL rfl rfl a2) rfl ?_;refine S BU (S BV ?_);obtain⟨W,a3,b⟩:=qO rfl b
     refine SH (am Z5.c (TK rfl) rfl (TK rfl) (TK rfl) a3) ?_;refine hq (H.set g (some (.tok 2 W.l.length))) ?_;refine S As (nil ?_);have b:=ku U b;exact R _ W wA b
    refine ah.skip ?_;have b:=ku U b;exact R _ o wA b
   rintro a4 b;try dsimp only at b
   refine region ?_;refine S Mv ?_;refine SI ?_;refine S As (nil ?_);exact aQ _ (a4,(p+1)) wA b (dl u)
  rw [js] at b;have b:=ku aO b;refine ah.exit ?_;obtain⟨bI,a5,b⟩:=cC b;have b:=ku a5 b;exact aN _ o wA b
 rintro x b;try dsimp only at b
 refine aa (S Mv (S As (nil ?_)));refine ah.f_ 6 rfl ?_;refine ah.ret ?_;repeat (first|refine bM ?_|refine bN ?_)
 obtain rfl:=oJ b;refine bF.bK H rfl ⟨rfl,rfl⟩ ?_
 first|exact ag.bX w|(simp only [ag.set_set]; exact ag.bX w)
def lQ (f:ar) (g:az):List Z6->(Sl Z5)->Option ((Sl Z5))
 | [],b=>some b
 | i::j,b=>on (i) fun k=>(rL f g k).bind fun l=>(bp 24 b l).bind fun m=>lQ f g (j) m
def jS (i:ar) (f:az):List Bs->Nat->(Sl Z5)->Option ((Sl Z5))
 | [],j,g=>some g
 | k::o,j,g=>on (k) fun p=>on (tX i p (2:Int)) fun b=>on (bif (decide (b=(0:Int))) then(⟨f.cw.nl,f.cw.l.take j⟩:Sl Bs) else(Sl.nil:Sl Bs)) fun q=>on (bif (decide (b=(0:Int))) then k else([]:Bs)) fun r=>on (bif (decide (b=(0:Int))) then iR q r else false) fun s=>on (bif ((decide (b=(0:Int)))&&s) then((7:Int)) else(b)) fun m=>Option.bind (bif (!decide (m=(0:Int))) then((bp 24 g (⟨false,[(Z5.mk m f.ai)]⟩:Sl Z5)).bind fun t=>some t) else(on (k) fun u=>on (cV i u) fun v=>Option.bind (lQ i f v.1.br.l g) fun w=>some w)) fun x=>jS i f (o) (j+1) x
def p_ (i:ar) (b:az):Option (Sl Z5):=Option.bind (jS i b b.cw.l 0 (Sl.nil:Sl Z5)) fun f=>on (f) fun g=>some g
def AX (b:ar) (f:az):Option (Sl Z5):=p_ b f
theorem PD (a0:ar) (a1:az):AX a0 a1=p_ a0 a1:=rfl
theorem PF {m:ar}{g:az}{r:Sl Z5}(b:AX m g=some r) (H:ag) :AC Tryz.prog 100 [.agg (ar.c m),.agg (az.c g)] H fun v h'=>v=.a (.d (Sl.d 2 Z5.c none r))/\h'=H:=by
 unfold AX p_ at b;refine AC.oW 76 [.tmp 4] Tryz.call100 Tryz.func100 ?_;refine ah.tok 2 fun i C=>?_;refine aa (S BX (S BX ?_));refine s0 (fJ (k':=2) rfl) rfl ?_;refine nil ?_;refine aa (S As (nil ?_));refine ah.fH 5 2 i rfl aJ ?_;refine aP kN (fun(z:(Sl Z5))=>[(5,.a (.d (Sl.d 2 Z5.c (some i) z)))]) (fun z=>(H.set i (some (.tok 2 z.l.length)))) (fun z=>(some z)=some r) ?_ ?_
 ·intro aK W;refine aa (S As (nil ?_));refine block ?_;obtain⟨q,X,b⟩:=cG b;refine bD (TA 2 (TA 3 kN)) (fun(z:(Sl Z5)×Nat)=>[(5,.a (.d (Sl.d 2 Z5.c (some i) z.1))),(6,.a (.d (.int .i64 ((z.2:Nat):Int))))]) (fun z=>(H.set i (some (.tok 2 z.1.l.length)))) (fun z=>g.cw.l.length-z.2) (fun z=>Option.bind (jS m g (g.cw.l.drop z.2) z.2 z.1) q=some r) ((Sl.nil:Sl Z5),0) b wA ?_
  rintro ⟨o,j⟩ b aL Y;try dsimp only at b
  refine ay fun Z E=>?_;refine aa (S Mv (S Fv (S Ld ?_)));refine sLen (f:=aM) (s:=g.cw) (TK rfl) rfl rfl rfl rfl fun aN=>?_;refine S BI (nil ?_);refine ah.cL (fun l=>Option.bind (jS m g l j o) q=some r) b rfl (fun ab t x b=>?_) (fun x b=>?_)
  ·rw [jS] at b;try dsimp only at x
   have aO:=oD x;refine sk E ?_;clear E Z;refine aP (TA 2 (TA 3 (TA 6 kN))) (fun(z:(Sl Z5))=>[(5,.a (.d (Sl.d 2 Z5.c (some i) z)))]) (fun z=>(H.set i (some (.tok 2 z.l.length)))) (fun z=>Option.bind (jS m g (g.cw.l.drop (j+1)) (j+1) z) q=some r) ?_ ?_
   ·intro aQ F;refine block ?_;refine ah.cH (Sd Ld (Sd Fv (Sd Ld (Sd Mv ?_))));obtain⟨aR,ad,b⟩:=vO t b;refine Sd (ix aM j ad) (Sd Ld ?_);obtain⟨ae,af,b⟩:=vO (G9 _ _ _) b;refine cN rfl rfl (G_ af) ?_;refine Sd As ?_;refine au.nil (by decide +kernel) ?_;refine aP (TA 2 (TA 3 (TA 5 (TA 6 kN)))) (fun(z:Int)=>[(7,.a (.d (.int .i64 z)))]) (fun z=>(H.set i (some (.tok 2 o.l.length)))) (fun z=>Option.bind (Option.bind (bif (!decide (z=(0:Int))) then((bp 24 o (⟨false,[(Z5.mk z g.ai)]⟩:Sl Z5)).bind fun u=>some u) else(on (ab) fun G=>on (cV m G) fun p=>Option.bind (lQ m g p.1.br.l o) fun w=>some w)) fun y=>jS m g (g.cw.l.drop (j+1)) (j+1) y) q=some r) ?_ ?_
    ·intro aS I;refine ah.cH (Sd Mv (Sd BI (Sd Mv (cr Fv ?_))));refine cK 28 rfl Ld ?_;refine cr Mv ?_;obtain⟨aT,aj,b⟩:=eV (fun _=>(Q.vM (by omega))) b;refine au.gC rfl rfl (fun hC=>aI (k:=29) rfl (aI (k:=30) rfl (qX (f:=aM) (l:=none) (r:=(some ((j:Nat):Int))) (TK rfl) rfl (TK rfl) rfl rfl trivial rfl (aj hC)))) rfl ?_;refine cr Fv ?_;refine cK 32 rfl Ld ?_
     refine cr Mv ?_;obtain⟨aV,ak,b⟩:=eV (fun _=>t) b;refine au.gC rfl rfl (fun hC=>aI (k:=33) rfl (aI (k:=34) rfl (eO (f:=aM) (n:=j) (TK rfl) rfl (TK rfl) rfl rfl rfl (ak hC)))) rfl ?_;refine cK 35 rfl Ld ?_;obtain⟨aW,al,b⟩:=eV (fun _=>(AD _ _)) b;refine kG 31 36 rfl rfl rfl rfl rfl rfl (fun hC=>AE (al hC)) ?_;refine Sd PA ?_;refine au.nil (by decide +kernel) ?_
     obtain⟨aX,J,b⟩:=gP b;refine cP b (fun an b=>?_) (fun an b=>?_)
     ·refine region ?_;refine S As (nil ?_);have b:=ku J b;exact I _ (7:Int) wA b
     refine ah.skip ?_;have b:=ku J b;exact I _ ae wA b
    rintro aY b;try dsimp only at b
    refine ay fun ao K=>?_;refine aa (S Mv (S BI (nil ?_)));obtain⟨aZ,L,b⟩:=eG b;refine cO b (fun ap b=>?_) (fun ap b=>?_)
    ·refine aa (S Mv (S Mv (S Fv (S Ld (S BU (S BV ?_))))));obtain⟨u,av,b⟩:=qO rfl b;refine SH (am Z5.c (TK rfl) rfl (TK rfl) (TK rfl) av) ?_;refine hq (H.set i (some (.tok 2 u.l.length))) ?_;refine S As (nil ?_);refine ah.exit ?_;have b:=ku L b;exact F _ u wA b
    refine sk K ?_;clear K ao;refine ah.cH (Sd Ld (Sd Fv (Sd Ld (Sd Mv ?_))));obtain⟨G,aw,b⟩:=vO t b;refine Sd (ix aM j aw) (Sd Ld ?_);obtain⟨p,ax,b⟩:=vO (jj _ _) b;refine cN rfl rfl (jk ax) ?_;refine Sd Mv (Sd EX (Sd EX ?_));refine au.sB (TK rfl) rfl rfl ?_ (by repeat (first|exact bT.nil|apply bT.cons));refine au.dU (eA (TK rfl) rfl rfl rfl rfl rfl) ?_
    refine Sd As ?_;refine au.nil (by decide +kernel) ?_;refine bH 8 _ rfl (KA 2 (KA 3 (KA 5 (KA 6 aU.nil)))) ?_;refine aa (S As (nil ?_));refine block ?_;obtain⟨M,aA,b⟩:=eG b;refine bD (TA 2 (TA 3 (TA 6 (TA 8 kN)))) (fun(z:(Sl Z5)×Nat)=>[(5,.a (.d (Sl.d 2 Z5.c (some i) z.1))),(10,.a (.d (.int .i64 ((z.2:Nat):Int))))]) (fun z=>(H.set i (some (.tok 2 z.1.l.length)))) (fun z=>p.1.br.l.length-z.2) (fun z=>Option.bind (lQ m g (p.1.br.l.drop z.2) z.1) M=some r) (o,0) b wA ?_
    rintro ⟨w,N⟩ b a0 aB;try dsimp only at b
    refine ay fun aC O=>?_;refine aa (S Mv (S Fv (S Ld ?_)));refine sLen (f:=Z6.c) (s:=p.1.br) (TK rfl) rfl rfl rfl rfl fun a1=>?_;refine S BI (nil ?_);refine ah.cL (fun l=>Option.bind (lQ m g l w) M=some r) b rfl (fun a2 P B b=>?_) (fun B b=>?_)
    ·rw [lQ] at b;try dsimp only at B
     have a3:=oD B;refine sk O ?_;clear O aC;refine ay fun aD R=>?_;refine block ?_;refine ah.draw rfl ?_;refine Sd Mv (Sd Ld (Sd Ld (Sd Fv (Sd Ld (Sd Mv ?_)))));obtain⟨a4,aE,b⟩:=vO P b;refine Sd (ix Z6.c N aE) (Sd Ld ?_);obtain⟨a5,aF,b⟩:=qO (PB _ _ _) b;refine cN rfl rfl (PC aF) ?_;obtain⟨U,aG,b⟩:=qO rfl b;refine au.sH (pL (f:=Z5.c) (TK rfl) rfl (TK rfl) (TK rfl) ⟨_,rfl⟩ rfl rfl (by decide) rfl rfl rfl rfl aJ rfl aG) rfl ?_
     refine au.Dh (H.set i (some (.tok 2 U.l.length))) ?_;refine Sd As ?_;refine au.nil (by decide +kernel) ?_;refine R _ ?_;clear R aD;refine region ?_;refine S Mv ?_;refine SI ?_;refine S As (nil ?_);exact aB _ (U,(N+1)) wA b (dl P)
    rw [lQ] at b;have b:=ku aA b;refine ah.exit ?_;have b:=ku L b;exact F _ w wA b
   rintro y b;try dsimp only at b
   refine region ?_;refine S Mv ?_;refine SI ?_;refine S As (nil ?_);exact Y _ (y,(j+1)) wA b (dl t)
  rw [jS] at b;have b:=ku X b;refine ah.exit ?_;obtain⟨a6,aH,b⟩:=cC b;have b:=ku aH b;exact W _ o wA b
 rintro a7 b;try dsimp only at b
 refine aa (S Mv (S As (nil ?_)));refine ah.f_ 4 rfl ?_;refine ah.ret ?_;repeat (first|refine bM ?_|refine bN ?_)
 obtain rfl:=oJ b;refine bF.bK H rfl ⟨rfl,rfl⟩ ?_
 first|exact ag.bX C|(simp only [ag.set_set]; exact ag.bX C)
def jU (m:ar) (g:az):List Z9->Nat->(Sl Z5)->Option ((Sl Z5))
 | [],i,b=>some b
 | o::p,i,b=>on (o) fun j=>on (tX m j.ai (1:Int)) fun f=>on (bif (decide (f=(0:Int))) then(⟨g.cm.nl,g.cm.l.take i⟩:Sl Z9) else(Sl.nil:Sl Z9)) fun q=>on (bif (decide (f=(0:Int))) then lN (az.mk (0:Int) ([]:Bs) (Sl.nil:Sl Bs) (Sl.nil:Sl aN) (Sl.nil:Sl Z6) q (Sl.nil:Sl Z8)) j.ai else false) fun r=>on (bif ((decide (f=(0:Int)))&&r) then((7:Int)) else(f)) fun k=>Option.bind (bif (!decide (k=(0:Int))) then((a_ g.ai ([46]:Bs)).bind fun s=>(a_ s j.ai).bind fun t=>(bp 24 b (⟨false,[(Z5.mk k t)]⟩:Sl Z5)).bind fun u=>some u) else(some b)) fun v=>jU m g (p) (i+1) v
def qa (i:ar) (b:az):Option (Sl Z5):=Option.bind (jU i b b.cm.l 0 (Sl.nil:Sl Z5)) fun f=>on (f) fun g=>some g
def AY (b:ar) (f:az):Option (Sl Z5):=qa b f
theorem PG (a0:ar) (a1:az):AY a0 a1=qa a0 a1:=rfl
theorem PI {o:ar}{g:az}{r:Sl Z5}(b:AY o g=some r) (H:ag) :AC Tryz.prog 101 [.agg (ar.c o),.agg (az.c g)] H fun v h'=>v=.a (.d (Sl.d 2 Z5.c none r))/\h'=H:=by
 unfold AY qa at b;refine AC.oW 49 [.tmp 4] Tryz.call101 Tryz.func101 ?_;refine ah.tok 2 fun i w=>?_;refine aa (S BX (S BX ?_));refine s0 (fJ (k':=2) rfl) rfl ?_;refine nil ?_;refine aa (S As (nil ?_));refine ah.fH 5 2 i rfl aJ ?_;refine aP kN (fun(z:(Sl Z5))=>[(5,.a (.d (Sl.d 2 Z5.c (some i) z)))]) (fun z=>(H.set i (some (.tok 2 z.l.length)))) (fun z=>(some z)=some r) ?_ ?_
 ·intro af J;refine aa (S As (nil ?_));refine block ?_;obtain⟨p,K,b⟩:=cG b;refine bD (TA 2 (TA 3 kN)) (fun(z:(Sl Z5)×Nat)=>[(5,.a (.d (Sl.d 2 Z5.c (some i) z.1))),(6,.a (.d (.int .i64 ((z.2:Nat):Int))))]) (fun z=>(H.set i (some (.tok 2 z.1.l.length)))) (fun z=>g.cm.l.length-z.2) (fun z=>Option.bind (jU o g (g.cm.l.drop z.2) z.2 z.1) p=some r) ((Sl.nil:Sl Z5),0) b wA ?_
  rintro ⟨m,j⟩ b aj L;try dsimp only at b
  refine ay fun M x=>?_;refine aa (S Mv (S Fv (S Ld ?_)));refine sLen (f:=Z9.c) (s:=g.cm) (TK rfl) rfl rfl rfl rfl fun ak=>?_;refine S BI (nil ?_);refine ah.cL (fun l=>Option.bind (jU o g l j m) p=some r) b rfl (fun al y t b=>?_) (fun t b=>?_)
  ·rw [jU] at b;try dsimp only at t
   have an:=oD t;refine sk x ?_;clear x M;refine aP (TA 2 (TA 3 (TA 6 kN))) (fun(z:(Sl Z5))=>[(5,.a (.d (Sl.d 2 Z5.c (some i) z)))]) (fun z=>(H.set i (some (.tok 2 z.l.length)))) (fun z=>Option.bind (jU o g (g.cm.l.drop (j+1)) (j+1) z) p=some r) ?_ ?_
   ·intro ao B;refine block ?_;refine aa (S Fv (S Ld (S Mv ?_)));obtain⟨N,O,b⟩:=vO y b;refine S (ix Z9.c j O) (S Fv (S Ld (S As (nil ?_))));refine aa (S Ld (S Mv ?_));obtain⟨P,R,b⟩:=vO (G9 _ _ _) b;refine Sc rfl rfl (G_ R) ?_;refine S As (nil ?_);refine aP (TA 2 (TA 3 (TA 5 (TA 6 (TA 7 kN))))) (fun(z:Int)=>[(8,.a (.d (.int .i64 z)))]) (fun z=>(H.set i (some (.tok 2 m.l.length)))) (fun z=>Option.bind (Option.bind (bif (!decide (z=(0:Int))) then((a_ g.ai ([46]:Bs)).bind fun C=>(a_ C N.ai).bind fun E=>(bp 24 m (⟨false,[(Z5.mk z E)]⟩:Sl Z5)).bind fun q=>some q) else(some m)) fun u=>jU o g (g.cm.l.drop (j+1)) (j+1) u) p=some r) ?_ ?_
    ·intro ap F;refine aa (S Mv (S BI (S Mv (G0 Fv ?_))));refine G1 28 rfl Ld ?_;refine G0 Mv ?_;obtain⟨au,U,b⟩:=eV (fun _=>(Q.vM (by omega))) b;refine gC rfl rfl (fun hC=>aI (k:=29) rfl (aI (k:=30) rfl (qX (f:=Z9.c) (l:=none) (r:=(some ((j:Nat):Int))) (TK rfl) rfl (TK rfl) rfl rfl trivial rfl (U hC)))) rfl ?_;refine G1 31 rfl BU ?_;refine G0 Mv ?_;obtain⟨av,W,b⟩:=eV (fun _=>(Hi _ _)) b
     refine fq 32 33 rfl rfl rfl rfl rfl rfl (fun hC=>Hj (W hC)) ?_;refine S PA (nil ?_);obtain⟨aw,G,b⟩:=gP b;refine cP b (fun X b=>?_) (fun X b=>?_)
     ·refine region ?_;refine S As (nil ?_);have b:=ku G b;exact F _ (7:Int) wA b
     refine ah.skip ?_;have b:=ku G b;exact F _ P wA b
    rintro ax b;try dsimp only at b
    refine aa (S Mv (S BI (nil ?_)));obtain⟨aA,I,b⟩:=eG b;refine cO b (fun Y b=>?_) (fun Y b=>?_)
    ·refine region ?_;refine S Mv (S Mv (S Fv (S Ld ?_)));obtain⟨C,Z,b⟩:=qO rfl b;refine s0 (bL rfl rfl Z) rfl ?_;refine S Mv ?_;obtain⟨E,ab,b⟩:=qO rfl b;refine s0 (bL rfl rfl ab) rfl ?_;refine S BU (S BV ?_);obtain⟨q,ad,b⟩:=qO rfl b;refine SH (am Z5.c (TK rfl) rfl (TK rfl) (TK rfl) ad) ?_;refine hq (H.set i (some (.tok 2 q.l.length))) ?_;refine S As (nil ?_);have b:=ku I b
     exact B _ q wA b
    refine ah.skip ?_;have b:=ku I b;exact B _ m wA b
   rintro u b;try dsimp only at b
   refine region ?_;refine S Mv ?_;refine SI ?_;refine S As (nil ?_);exact L _ (u,(j+1)) wA b (dl y)
  rw [jU] at b;have b:=ku K b;refine ah.exit ?_;obtain⟨aB,ae,b⟩:=cC b;have b:=ku ae b;exact J _ m wA b
 rintro aC b;try dsimp only at b
 refine aa (S Mv (S As (nil ?_)));refine ah.f_ 4 rfl ?_;refine ah.ret ?_;repeat (first|refine bM ?_|refine bN ?_)
 obtain rfl:=oJ b;refine bF.bK H rfl ⟨rfl,rfl⟩ ?_
 first|exact ag.bX w|(simp only [ag.set_set]; exact ag.bX w)
def kS (g:ar):List az->(Sl Z5)->Option ((Sl Z5))
 | [],b=>some b
 | f::j,b=>on (f) fun i=>Option.bind (bif (decide (i.ak=(1:Int))) then(on (f) fun k=>(p_ g k).bind fun l=>(bp 24 b l).bind fun m=>some m) else(bif (decide (i.ak=(3:Int))) then(on (f) fun o=>(qa g o).bind fun p=>(bp 24 b p).bind fun q=>some q) else(some b))) fun r=>kS g (j) r
def rM (b:ar):Option (Sl Z5):=Option.bind (kS b b.aD.l (Sl.nil:Sl Z5)) fun f=>on (f) fun g=>some g
def AZ (b:ar):Option (Sl Z5):=rM b
theorem PJ (a0:ar):AZ a0=rM a0:=rfl
theorem PK {i:ar}{r:Sl Z5}(b:AZ i=some r) (H:ag) :AC Tryz.prog 55 [.agg (ar.c i)] H fun v h'=>v=.a (.d (Sl.d 2 Z5.c none r))/\h'=H:=by
 unfold AZ rM at b;refine AC.oW 41 [.tmp 2] Tryz.call55 Tryz.func55 ?_;refine ah.tok 2 fun g u=>?_;refine aa (S BX ?_);refine s0 (fJ (k':=2) rfl) rfl ?_;refine nil ?_;refine aa (S As (nil ?_));refine ah.fH 3 2 g rfl aJ ?_;refine aP kN (fun(z:(Sl Z5))=>[(3,.a (.d (Sl.d 2 Z5.c (some g) z)))]) (fun z=>(H.set g (some (.tok 2 z.l.length)))) (fun z=>(some z)=some r) ?_ ?_
 ·intro U B;refine aa (S As (nil ?_));refine block ?_;obtain⟨m,C,b⟩:=cG b;refine bD (TA 1 kN) (fun(z:(Sl Z5)×Nat)=>[(3,.a (.d (Sl.d 2 Z5.c (some g) z.1))),(4,.a (.d (.int .i64 ((z.2:Nat):Int))))]) (fun z=>(H.set g (some (.tok 2 z.1.l.length)))) (fun z=>i.aD.l.length-z.2) (fun z=>Option.bind (kS i (i.aD.l.drop z.2) z.1) m=some r) ((Sl.nil:Sl Z5),0) b wA ?_
  rintro ⟨o,j⟩ b W E;try dsimp only at b
  refine ay fun F w=>?_;refine aa (S Mv (S Fv (S Ld ?_)));refine sLen (f:=az.c) (s:=i.aD) (TK rfl) rfl rfl rfl rfl fun X=>?_;refine S BI (nil ?_);refine ah.cL (fun l=>Option.bind (kS i l o) m=some r) b rfl (fun Y k p b=>?_) (fun p b=>?_)
  ·rw [kS] at b;try dsimp only at p
   have Z:=oD p;refine sk w ?_;clear w F;refine aP (TA 1 (TA 4 kN)) (fun(z:(Sl Z5))=>[(3,.a (.d (Sl.d 2 Z5.c (some g) z)))]) (fun z=>(H.set g (some (.tok 2 z.l.length)))) (fun z=>Option.bind (kS i (i.aD.l.drop (j+1)) z) m=some r) ?_ ?_
   ·intro ab q;refine block ?_;refine aa (S Fv (S Ld (S Mv ?_)));obtain⟨ad,G,b⟩:=vO k b;refine S (ix az.c j G) (S Fv (S Ld (nil ?_)));refine block ?_;refine aa (S BI (S As (nil ?_)));obtain⟨ae,t,b⟩:=eG b;refine cO b (fun I b=>?_) (fun I b=>?_)
    ·refine ah.draw rfl ?_;refine Sd Mv (Sd Ld (Sd Fv (Sd Ld (Sd Mv ?_))));obtain⟨af,J,b⟩:=vO k b;refine Sd (ix az.c j J) (Sd Ld ?_);obtain⟨ai,K,b⟩:=qO (PD _ _) b;refine cN rfl rfl (PF K) ?_;obtain⟨x,L,b⟩:=qO rfl b;refine au.sH (pL (f:=Z5.c) (TK rfl) rfl (TK rfl) (TK rfl) ⟨_,rfl⟩ rfl rfl (by decide) rfl rfl rfl rfl aJ rfl L) rfl ?_;refine au.Dh (H.set g (some (.tok 2 x.l.length))) ?_
     refine Sd As ?_;refine au.nil (by decide +kernel) ?_;have b:=ku t b;exact q _ x wA b
    refine aa (S BI (S As (nil ?_)));refine cO b (fun M b=>?_) (fun M b=>?_)
    ·refine ah.draw rfl ?_;refine Sd Mv (Sd Ld (Sd Fv (Sd Ld (Sd Mv ?_))));obtain⟨aj,N,b⟩:=vO k b;refine Sd (ix az.c j N) (Sd Ld ?_);obtain⟨ak,O,b⟩:=qO (PG _ _) b;refine cN rfl rfl (PI O) ?_;obtain⟨y,P,b⟩:=qO rfl b;refine au.sH (pL (f:=Z5.c) (TK rfl) rfl (TK rfl) (TK rfl) ⟨_,rfl⟩ rfl rfl (by decide) rfl rfl rfl rfl aJ rfl P) rfl ?_;refine au.Dh (H.set g (some (.tok 2 y.l.length))) ?_
     refine Sd As ?_;refine au.nil (by decide +kernel) ?_;have b:=ku t b;exact q _ y wA b
    refine ah.skip ?_;have b:=ku t b;exact q _ o wA b
   rintro Q b;try dsimp only at b
   refine region ?_;refine S Mv ?_;refine SI ?_;refine S As (nil ?_);exact E _ (Q,(j+1)) wA b (dl k)
  rw [kS] at b;have b:=ku C b;refine ah.exit ?_;obtain⟨al,R,b⟩:=cC b;have b:=ku R b;exact B _ o wA b
 rintro am b;try dsimp only at b
 refine aa (S Mv (S As (nil ?_)));refine ah.f_ 2 rfl ?_;refine ah.ret ?_;repeat (first|refine bM ?_|refine bN ?_)
 obtain rfl:=oJ b;refine bF.bK H rfl ⟨rfl,rfl⟩ ?_
 first|exact ag.bX u|(simp only [ag.set_set]; exact ag.bX u)
def kT (f:af->Option af):List af->(Sl af)->Option ((Sl af))
 | [],b=>some b
 | g::i,b=>on (g) fun j=>(f j).bind fun k=>(bp 80 b (⟨false,[k]⟩:Sl af)).bind fun l=>kT f (i) l
mutual
def iS:Nat->af->Option af
 | 0,_=>none
 | n+1,b=>((rN n) b.av).bind fun f=>(bp 16 (⟨false,[]⟩:Sl Bs) b.aF).bind fun g=>some (af.mk b.ak b.bl b.aV f.nl f.l g)
def rN:Nat->(Sl af)->Option (Sl af)
 | 0,_=>none
 | n+1,g=>Option.bind (kT (iS n) g.l (Sl.nil:Sl af)) fun b=>on (b) fun f=>some f
end
def wD (n:Nat):Prop:=∀{a0:af}   {r:af},iS n a0=some r->∀(H:ag),AC Tryz.prog 255 [.agg (af.c a0)] H fun v h'=>v=.a (.agg (af.c r))/\h'=H
def wE (n:Nat):Prop:=∀{a0:(Sl af)}{w0:Option Nat}  {r:(Sl af)},rN n a0=some r->∀(H:ag),AC Tryz.prog 272 [.d (Sl.d 5 af.c w0 a0)] H fun v h'=>v=.a (.d (Sl.d 5 af.c none r))/\h'=H
theorem PL (n:Nat) (s:wD (an:=an) n) (k:wE (an:=an) n):wD (an:=an) (n+1):=by
 intro g   r b H;rw [iS] at b;refine AC.oW 17 [.cell 2 58] Tryz.call255 Tryz.func255 ?_;refine aa (S BX ?_);refine Sl ?_;refine nil ?_;refine ah.cH (Sd Fv (Sd Ld (Sd Fv (Sd Ld (Sd Fv (Sd Ld (Sd Fv ?_)))))));refine au.s0 (ck (TK rfl) rfl rfl (congrArg (fun x=>some (A.d x)) (af.di _))) rfl ?_;obtain⟨i,m,b⟩:=qT rfl b;refine cN rfl rfl (k m) ?_;refine au.s0 (pG (TK rfl) rfl (TK rfl) rfl rfl rfl rfl rfl rfl) rfl ?_
 refine Sd Fv (Sd Ld ?_);obtain⟨o,p,b⟩:=qT rfl b;refine au.s0 (tI (f:=aM) (TK rfl) rfl (TK rfl) (TK rfl) ⟨_,rfl⟩ rfl rfl (by decide) rfl rfl rfl (by intro q h; cases h<;>decide) rfl rfl p) rfl ?_;refine Sd BU ?_;refine au.dU (eA (TK rfl) rfl rfl rfl rfl rfl) ?_;refine au.nil (by decide +kernel) ?_;refine ah.dX 0 (af.c (af.mk g.ak g.bl g.aV i.nl i.l o)) rfl (fun j w cs hh hx=>by rw [af.gm]; exact hx) ?_
 exact rt b
theorem PM (n:Nat) (w:wD (an:=an) n) (K:wE (an:=an) n):wE (an:=an) (n+1):=by
 intro j w0  r b H;rw [rN] at b;refine AC.oW 20 [.tmp 2] Tryz.call272 Tryz.func272 ?_;refine ah.tok 5 fun g k=>?_;refine aa ?_;refine s0 (fJ (k':=5) rfl) rfl ?_;refine nil ?_;refine aa (S As (nil ?_));refine ah.fH 3 5 g rfl aJ ?_;refine aP kN (fun(z:(Sl af))=>[(3,.a (.d (Sl.d 5 af.c (some g) z)))]) (fun z=>(H.set g (some (.tok 5 z.l.length)))) (fun z=>(some z)=some r) ?_ ?_
 ·intro L x;refine aa (S As (nil ?_));refine block ?_;obtain⟨m,y,b⟩:=cG b;refine bD (TA 0 kN) (fun(z:(Sl af)×Nat)=>[(3,.a (.d (Sl.d 5 af.c (some g) z.1))),(4,.a (.d (.int .i64 ((z.2:Nat):Int))))]) (fun z=>(H.set g (some (.tok 5 z.1.l.length)))) (fun z=>j.l.length-z.2) (fun z=>Option.bind (kT (iS n) (j.l.drop z.2) z.1) m=some r) ((Sl.nil:Sl af),0) b wA ?_
  rintro ⟨o,p⟩ b M B;try dsimp only at b
  refine ay fun C q=>?_;refine aa (S Mv (S Mv ?_));refine sLen (f:=af.c) (s:=j) (TK rfl) rfl rfl rfl rfl fun N=>?_;refine S BI (nil ?_);refine ah.cL (fun l=>Option.bind (kT (iS n) l o) m=some r) b rfl (fun O t i b=>?_) (fun i b=>?_)
  ·rw [kT] at b;try dsimp only at i
   have P:=oD i;refine sk q ?_;clear q C;refine ay fun E u=>?_;refine block ?_;refine region ?_;refine S Mv (S Mv (S Mv ?_));obtain⟨Q,F,b⟩:=vO t b;refine S (ix af.c p F) (S Ld ?_);obtain⟨R,G,b⟩:=qO rfl b;refine Sc rfl rfl (w G) ?_;refine S BV ?_;obtain⟨v,I,b⟩:=qO rfl b;refine SH (am af.c (TK rfl) rfl (TK rfl) (TK rfl) I) ?_
   refine hq (H.set g (some (.tok 5 v.l.length))) ?_;refine S As (nil ?_);refine u _ ?_;clear u E;refine region ?_;refine S Mv ?_;refine SI ?_;refine S As (nil ?_);exact B _ (v,(p+1)) wA b (dl t)
  rw [kT] at b;have b:=ku y b;refine ah.exit ?_;obtain⟨U,J,b⟩:=cC b;have b:=ku J b;exact x _ o wA b
 rintro W b;try dsimp only at b
 refine aa (S Mv (S As (nil ?_)));refine ah.f_ 2 rfl ?_;refine ah.ret ?_;repeat (first|refine bM ?_|refine bN ?_)
 obtain rfl:=oJ b;refine bF.bK H rfl ⟨rfl,rfl⟩ ?_
 first|exact ag.bX k|(simp only [ag.set_set]; exact ag.bX k)
theorem ua:∀(n:Nat),(wD (an:=an) n)/\(wE (an:=an) n)
 | 0=>⟨fun b=>by first|cases b|(rw [iS] at b; cases b),fun b=>by first|cases b|(rw [rN] at b; cases b)⟩
 | n+1=>⟨PL n (ua n).1 (ua n).2,PM n (ua n).1 (ua n).2⟩
def Hr (a0:af):Option af:=iS F0 a0
theorem PN {b r:af}(f:Hr b=some r) (H:ag) :AC Tryz.prog 255 [.agg (af.c b)] H fun v h'=>v=.a (.agg (af.c r))/\h'=H:=(ua F0).1 f H 
def A3 (b:af):Option af:=iS F0 b
theorem PP (a0:af):Hr a0=A3 a0:=rfl
def kU (f:af) (g:Bs):List Bs->Nat->Option (Unit ⊕ ((af×Bool)))
 | [],b=>some (Sum.inl ())
 | i::j,b=>on (i) fun k=>bif ((k==g)) then(bif (decide (((f.av.l.length:Nat):Int)<=((b:Nat):Int))) then(some (Sum.inr ((af.mk (0:Int) (0:Int) ([]:Bs) true ([]) (Sl.nil:Sl Bs)),false))) else((f.av.l[b]?).bind fun m=>(A3 m).bind fun o=>some (Sum.inr (o,true)))) else(kU f g (j) (b+1) )
def jV (b:af) (i:Bs):Option (af×Bool):=bif (!decide (b.ak=(6:Int))) then(some ((af.mk (0:Int) (0:Int) ([]:Bs) true ([]) (Sl.nil:Sl Bs)),false)) else(Option.bind (kU b i b.aF.l 0 ) fun f=>match f with|Sum.inl _=>(on (()) fun _=>some ((af.mk (0:Int) (0:Int) ([]:Bs) true ([]) (Sl.nil:Sl Bs)),false))|Sum.inr g=>(some g))
def A4 (b:af) (f:Bs):Option (af×Bool):=jV b f
theorem A5 (a0:af) (a1:Bs):A4 a0 a1=jV a0 a1:=rfl
theorem A6 {g:af}{j:Bs}{r:af×Bool}(b:A4 g j=some r) (H:ag) :AC Tryz.prog 230 [.agg (af.c g),.d (.str j)] H fun v h'=>v=.dM [.agg (af.c r.1),.d (.bool r.2)]/\h'=H:=by
 unfold A4 jV at b;refine AC.oW 38 [.cell 4 58,.tmp 5] Tryz.call230 Tryz.func230 ?_;refine aa (S BX ?_);refine Sl ?_;refine S As (nil ?_);refine ay fun B o=>?_;refine aa (S Fv (S Ld (S BI (nil ?_))));refine cE b (fun C b=>?_) (fun C b=>?_)
 ·refine aa (S BU ?_);refine Sf ?_;refine S As (nil ?_);exact rt b
 refine sk o ?_;clear o B;refine fO (TA 4 kN) (fun(z:af)=>[]) (fun z=>[af.c z]) (fun z=>H) (fun z=>(some ((af.mk (0:Int) (0:Int) ([]:Bs) true ([]) (Sl.nil:Sl Bs)),false))=some r) ?_ ?_
 ·intro Q E;refine aa (S As (nil ?_));refine block ?_;obtain⟨p,k,b⟩:=cG b;refine jf (TA 1 (TA 2 (TA 4 kN))) (fun(z:Nat×af)=>[(6,.a (.d (.int .i64 ((z.1:Nat):Int))))]) (fun z=>[af.c z.2]) (fun z=>H) (fun z=>g.aF.l.length-z.1) (fun z=>Option.bind (kU g j (g.aF.l.drop z.1) z.1 ) p=some r) (0,af.zero) b wA ?_;rintro ⟨i,q⟩ b R F;try dsimp only at b
  refine ay fun G t=>?_;refine aa (S Mv (S Fv (S Ld ?_)));refine sLen (f:=aM) (s:=g.aF) (TK rfl) rfl rfl rfl rfl fun U=>?_;refine S BI (nil ?_);refine ah.cL (fun l=>Option.bind (kU g j l i ) p=some r) b rfl (fun W u m b=>?_) (fun m b=>?_)
  ·rw [kU] at b;try dsimp only at m
   have X:=oD m;refine sk t ?_;clear t G;refine ay fun I w=>?_;refine block ?_;refine aa (S Fv (S Ld (S Mv ?_)));obtain⟨Y,J,b⟩:=vO u b;refine S (ix aM i J) (S Ld (S Mv (S BS (nil ?_))));refine cO b (fun K b=>?_) (fun K b=>?_)
   ·refine ay fun L y=>?_;refine aa (S Mv (S Fv ?_));refine s0 (ck (TK rfl) rfl rfl (congrArg (fun x=>some (A.d x)) (af.di _))) rfl ?_;refine sLen (f:=af.c) (s:=g.av) (TK rfl) rfl rfl rfl rfl fun Z=>?_;refine S BI (nil ?_);refine cO b (fun M b=>?_) (fun M b=>?_)
    ·refine aa (S BU ?_);refine Sf ?_;refine S As (nil ?_);refine ah.ret ?_;repeat (first|refine bM ?_|refine bN ?_)
     have b:=ku k b;obtain rfl:=oJ b;refine bF.bK H rfl ⟨rfl,rfl⟩ ?_;exact(fun _ _ h=>h)
    refine sk y ?_;clear y L;refine aa (S Fv ?_);refine s0 (ck (TK rfl) rfl rfl (congrArg (fun x=>some (A.d x)) (af.di _))) rfl ?_;refine S Mv ?_;obtain⟨ab,N,b⟩:=qO rfl b;refine S (ix af.c i N) (S Ld ?_);obtain⟨ad,O,b⟩:=qO (PP _) b;refine Sc rfl rfl (PN O) ?_;refine Sf ?_;refine S As (nil ?_);refine ah.ret ?_;repeat (first|refine bM ?_|refine bN ?_)
    have b:=ku k b;obtain rfl:=oJ b;refine bF.bK H rfl ⟨rfl,rfl⟩ ?_;exact(fun _ _ h=>h)
   refine sk w ?_;clear w I;refine region ?_;refine S Mv ?_;refine SI ?_;refine S As (nil ?_);exact F _ ((i+1),q) wA b (dl u)
  rw [kU] at b;have b:=ku k b;try dsimp only at b
  refine ah.exit ?_;obtain⟨ae,P,b⟩:=cC b;have b:=ku P b;exact E _ q wA b
 rintro ai b;try dsimp only at b
 refine aa (S BU ?_);refine Sf ?_;refine S As (nil ?_);exact rt b
def mV (b:Z4) (f:af):Option Bool:=bif ((!b.fC)||(!decide (f.ak=(7:Int)))) then(some false) else((jV b.en f.aV).bind fun g=>some (!g.2))
def A7 (b:Z4) (f:af):Option Bool:=mV b f
theorem Hs (a0:Z4) (a1:af):A7 a0 a1=mV a0 a1:=rfl
theorem Ht {i:Z4}{j:af}{f:Nat}{r:Bool}(b:A7 i j=some r) (H:ag) (o:H f=some (.cells (Z4.c i))):AC Tryz.prog 198 [.d (.ptr f 0),.agg (af.c j)] H fun v h'=>v=.a (.d (.bool r))/\h'=H:=by
 unfold A7 mV at b;refine AC.oW 29 [.tmp 4] Tryz.call198 Tryz.func198 ?_;refine aa (S BX (S As (nil ?_)));refine ay fun k g=>?_;refine aa (S Mv (S NP ?_));refine s0 (dr (TK rfl) rfl rfl (TK rfl) rfl rfl) rfl ?_;refine s0 (ew (TK rfl) rfl rfl aJ rfl) rfl ?_;refine S NB (S Mv (G0 Fv ?_));refine G1 13 rfl Ld ?_;refine G1 14 rfl BI ?_;refine S PO (nil ?_);refine cE b (fun l b=>?_) (fun l b=>?_)
 ·refine aa (S As (nil ?_));exact rt b
 refine sk g ?_;clear g k;refine ah.cH (Sd Mv (Sd NP ?_));refine au.s0 (dr (TK rfl) rfl rfl (TK rfl) rfl rfl) rfl ?_;refine au.s0 (ew (TK rfl) rfl rfl aJ rfl) rfl ?_;refine Sd Fv (Sd Ld ?_);obtain⟨p,m,b⟩:=qT (A5 _ _) b;refine cN rfl rfl (A6 m) ?_;refine Sd Mv (Sd EX (Sd EX ?_));refine au.sB (TK rfl) rfl rfl ?_ (by repeat (first|exact bT.nil|apply bT.cons))
 refine au.dU (eA (TK rfl) rfl rfl rfl rfl rfl) ?_;refine Sd As ?_;refine au.nil (by decide +kernel) ?_;refine bH 5 _ rfl (KA 6 aU.nil) ?_;refine aa (S Mv (S NB (S As (nil ?_))));exact rt b
def fE (b:Z4) (f:Int):Z4:=bif (decide (b.dz=(0:Int))) then((Z4.mk b.Fd b.en b.fC b.eW f)) else(b)
def A8 (b:Z4) (f:Int):Option Z4:=some (fE b f)
theorem mW (a0:Z4) (a1:Int):A8 a0 a1=some (fE a0 a1):=rfl
theorem mX {b:Z4}{i:Int}{f:Nat}{r:Z4}(g:A8 b i=some r) (H:ag) (o:H f=some (.cells (Z4.c b))):AC Tryz.prog 256 [.d (.ptr f 0),.d (.int .i64 i)] H fun v h'=>v=.dM []/\h'=(H.set f (some (.cells (Z4.c r)))):=by
 unfold A8 fE at g;refine AC.oW 13 [] Tryz.call256 Tryz.func256 ?_;refine ah.ga (h':=(H.set f (some (.cells (Z4.c b))))) (by funext n_; simp only [ag.set]; (repeat' split)<;>simp_all) ?_;refine aa (S Mv (S NP ?_));refine s0 (dr (TK rfl) rfl rfl (TK rfl) rfl rfl) rfl ?_;refine s0 (ew (TK rfl) rfl rfl aJ rfl) rfl ?_;refine S BI (nil ?_);refine cP g (fun j g=>?_) (fun j g=>?_)
 ·refine region ?_;refine S Mv (S Mv (S NP ?_));refine s0 (dr (TK rfl) rfl rfl (TK rfl) rfl rfl) rfl ?_;refine iK (qP (TK rfl) rfl rfl aJ rfl (by repeat (first|exact dG.zero|apply dG.succ))) rfl rfl ?_;refine hq (H.set f (some (.cells (Z4.c (Z4.mk b.Fd b.en b.fC b.eW i))))) ?_;refine nil ?_;repeat (first|refine k ?_|refine l ?_|refine m ?_)
  obtain rfl:=oJ g;refine bF.vv (H.set f (some (.cells (Z4.c (Z4.mk b.Fd b.en b.fC b.eW i))))) (xs:=[]) rfl ⟨rfl,rfl⟩ ?_;exact(fun _ _ h=>h)
 refine ah.skip ?_;repeat (first|refine k ?_|refine l ?_|refine m ?_)
 obtain rfl:=oJ g;refine bF.vv (H.set f (some (.cells (Z4.c b)))) (xs:=[]) rfl ⟨rfl,rfl⟩ ?_;exact(fun _ _ h=>h)
def kV (g:Z4) (k:Int):Option Z4:=on (bif (decide ((24:Int)<k)) then(on (fE g (5:Int)) fun i=>i) else(g)) fun b=>(bY b.eW (1:Int)).bind fun f=>bif (decide ((4096:Int)<f)) then(on (fE (Z4.mk b.Fd b.en b.fC f b.dz) (4:Int)) fun j=>some j) else(some (Z4.mk b.Fd b.en b.fC f b.dz))
def A9 (b:Z4) (f:Int):Option Z4:=kV b f
theorem Hu (a0:Z4) (a1:Int):A9 a0 a1=kV a0 a1:=rfl
theorem Hv {i:Z4}{o:Int}{f:Nat}{r:Z4}(b:A9 i o=some r) (H:ag) (E:H f=some (.cells (Z4.c i))):AC Tryz.prog 258 [.d (.ptr f 0),.d (.int .i64 o)] H fun v h'=>v=.dM []/\h'=(H.set f (some (.cells (Z4.c r)))):=by
 unfold A9 kV at b;refine AC.oW 22 [] Tryz.call258 Tryz.func258 ?_;refine ah.ga (h':=(H.set f (some (.cells (Z4.c i))))) (by funext n_; simp only [ag.set]; (repeat' split)<;>simp_all) ?_;obtain⟨p,q,b⟩:=cC b;refine aP (TA 0 kN) (fun(z:Z4)=>[]) (fun z=>(H.set f (some (.cells (Z4.c z))))) (fun z=>p z=some r) ?_ ?_
 ·intro F j;refine aa (S Mv (S BI (nil ?_)));refine cP b (fun s b=>?_) (fun s b=>?_)
  ·refine region ?_;refine S Mv ?_;obtain⟨k,t,b⟩:=vP (mW _ _) b;refine sH (cU rfl rfl (mX t _ aJ)) rfl ?_;refine hq (H.set f (some (.cells (Z4.c k)))) ?_;refine nil ?_;exact j _ k wA b
  refine ah.skip ?_;exact j _ i wA b
 rintro g b;try dsimp only at b
 have b:=ku q b;refine aa (S Mv (S NP ?_));refine s0 (dr (TK rfl) rfl rfl (TK rfl) rfl rfl) rfl ?_;refine s0 (ew (TK rfl) rfl rfl aJ rfl) rfl ?_;obtain⟨l,u,b⟩:=qT rfl b;refine s0 (dc rfl rfl u) rfl ?_;refine S NP ?_;refine s0 (dr (TK rfl) rfl rfl (TK rfl) rfl rfl) rfl ?_;refine iK (qP (TK rfl) rfl rfl aJ rfl (by repeat (first|exact dG.zero|apply dG.succ))) rfl rfl ?_
 refine hq (H.set f (some (.cells (Z4.c (Z4.mk g.Fd g.en g.fC l g.dz))))) ?_;refine nil ?_;refine aa (S Mv (S NP ?_));refine s0 (dr (TK rfl) rfl rfl (TK rfl) rfl rfl) rfl ?_;refine s0 (ew (TK rfl) rfl rfl aJ rfl) rfl ?_;refine S BI (nil ?_);refine cE b (fun w b=>?_) (fun w b=>?_)
 ·refine region ?_;refine S Mv ?_;obtain⟨m,x,b⟩:=vT (mW _ _) b;refine sH (cU rfl rfl (mX x _ aJ)) rfl ?_;refine hq (H.set f (some (.cells (Z4.c m)))) ?_;refine nil ?_;repeat (first|refine y ?_|refine B ?_|refine C ?_)
  obtain rfl:=oJ b;refine bF.vv (H.set f (some (.cells (Z4.c m)))) (xs:=[]) rfl ⟨rfl,rfl⟩ ?_;exact(fun _ _ h=>h)
 refine ah.skip ?_;repeat (first|refine y ?_|refine B ?_|refine C ?_)
 obtain rfl:=oJ b;refine bF.vv (H.set f (some (.cells (Z4.c (Z4.mk g.Fd g.en g.fC l g.dz))))) (xs:=[]) rfl ⟨rfl,rfl⟩ ?_;exact(fun _ _ h=>h)
def qb (k:Int) (g:Z4->af->Int->Option (af×Z4)):List af->Z4->af->Option ((Z4×af))
 | [],f,b=>some (f,b)
 | m::o,f,b=>bif (decide (f.dz=(0:Int))) then(on (m) fun p=>(bY k (1:Int)).bind fun q=>(g f p q).bind fun i=>(bp 80 b.av (⟨false,[i.1]⟩:Sl af)).bind fun j=>qb k g (o) i.2 (af.mk b.ak b.bl b.aV j.nl j.l b.aF)) else(some (f,b))
def oo:Nat->Z4->af->Int->Option (af×Z4)
 | 0,_,_,_=>none
 | n+1,k,b,g=>(kV k g).bind fun i=>(bp 16 ((af.mk b.ak b.bl b.aV true ([]) (Sl.nil:Sl Bs)).aF) b.aF).bind fun j=>Option.bind (qb g (oo n) b.av.l i (af.mk ((af.mk b.ak b.bl b.aV true ([]) (Sl.nil:Sl Bs)).ak) ((af.mk b.ak b.bl b.aV true ([]) (Sl.nil:Sl Bs)).bl) ((af.mk b.ak b.bl b.aV true ([]) (Sl.nil:Sl Bs)).aV) ((af.mk b.ak b.bl b.aV true ([]) (Sl.nil:Sl Bs)).av).nl ((af.mk b.ak b.bl b.aV true ([]) (Sl.nil:Sl Bs)).av).l j)) fun f=>on ((f.1,f.2)) fun z9=>some (z9.2,z9.1)
def A_ (n:Nat):Prop:=∀{a0:Z4}{a1:af}{a2:Int}  {b:Nat}{r:(af×Z4)},oo n a0 a1 a2=some r->∀(H:ag) (f:H b=some (.cells (Z4.c a0))),AC Tryz.prog 257 [.d (.ptr b 0),.agg (af.c a1),.d (.int .i64 a2)] H fun v h'=>v=.a (.agg (af.c r.1))/\h'=(H.set b (some (.cells (Z4.c r.2))))
theorem PS (n:Nat) (R:A_ (an:=an) n):A_ (an:=an) (n+1):=by
 intro az g Q  p r b H aA;rw [oo] at b;refine AC.oW 56 [.cell 6 58] Tryz.call257 Tryz.func257 ?_;refine ah.ga (h':=(H.set p (some (.cells (Z4.c az))))) (by funext n_; simp only [ag.set]; (repeat' split)<;>simp_all) ?_;refine aa (S BX ?_);refine Sl ?_;refine nil ?_;refine aa (S Mv (S Mv ?_));obtain⟨u,U,b⟩:=qT (Hu _ _) b;refine sH (cU rfl rfl (Hv U _ aJ)) rfl ?_
 refine hq (H.set p (some (.cells (Z4.c u)))) ?_;refine nil ?_;refine aa (S Fv (S Ld (S Fv (S Ld (S Fv (S Ld (S BU ?_)))))));refine Sl ?_;refine aS.tok 5 fun i G=>?_;obtain⟨aB,G⟩:=ag.hG G;refine aS.dX 1 _ rfl (fun j w cs hh hx=>tok_cell 3 5 5 hh (t:=i) aJ hx rfl) ?_;refine aS.tok 1 fun m q=>?_;obtain⟨aC,q⟩:=ag.hG q
 obtain⟨aD,q⟩:=ag.hG q;refine aS.dX 1 _ rfl (fun j w cs hh hx=>tok_cell 4 1 1 hh (t:=m) aJ hx rfl) ?_;refine Sf ?_;refine aS.dX 1 _ rfl (fun j w cs hh hx=>tok_cell 3 5 5 hh (t:=i) aJ hx rfl) ?_;refine aS.dX 1 _ rfl (fun j w cs hh hx=>tok_cell 4 1 1 hh (t:=m) aJ hx rfl) ?_;refine nil ?_;refine aa (S FL (S LL (S Fv (S Ld ?_))));obtain⟨I,W,b⟩:=qT rfl b
 refine SH (am aM (TK rfl) rfl (TK rfl) (TK rfl) W) ?_;refine hq (((H.set p (some (.cells (Z4.c u)))).set i (some (.tok 5 0))).set m (some (.tok 1 I.l.length))) ?_;refine S FL ?_;refine Sf ?_;refine nil ?_;refine fO (TA 6 (TA 7 kN)) (fun(z:Z4×af)=>[]) (fun z=>[af.c af.zero,((bE .i64) z.2.ak++(bE .i64) z.2.bl++aM z.2.aV++[Sl.d 5 af.c (some i) z.2.av]++[Sl.d 1 aM (some m) z.2.aF])]) (fun z=>(((H.set p (some (.cells (Z4.c z.1)))).set i (some (.tok 5 z.2.av.l.length))).set m (some (.tok 1 z.2.aF.l.length)))) (fun z=>(some (z.2,z.1))=some r) ?_ ?_
 ·intro aE X;refine aa (S As (nil ?_));refine block ?_;obtain⟨v,Y,b⟩:=cG b;refine jf (TA 0 (TA 2 (TA 4 (TA 6 (TA 7 kN))))) (fun(z:Nat×Z4×af)=>[(8,.a (.d (.int .i64 ((z.1:Nat):Int))))]) (fun z=>[af.c af.zero,((bE .i64) z.2.2.ak++(bE .i64) z.2.2.bl++aM z.2.2.aV++[Sl.d 5 af.c (some i) z.2.2.av]++[Sl.d 1 aM (some m) z.2.2.aF])]) (fun z=>(((H.set p (some (.cells (Z4.c z.2.1)))).set i (some (.tok 5 z.2.2.av.l.length))).set m (some (.tok 1 z.2.2.aF.l.length)))) (fun z=>g.av.l.length-z.1) (fun z=>Option.bind (qb Q (oo n) (g.av.l.drop z.1) z.2.1 z.2.2) v=some r) (0,u,(af.mk ((af.mk g.ak g.bl g.aV true ([]) (Sl.nil:Sl Bs)).ak) ((af.mk g.ak g.bl g.aV true ([]) (Sl.nil:Sl Bs)).bl) ((af.mk g.ak g.bl g.aV true ([]) (Sl.nil:Sl Bs)).aV) ((af.mk g.ak g.bl g.aV true ([]) (Sl.nil:Sl Bs)).av).nl ((af.mk g.ak g.bl g.aV true ([]) (Sl.nil:Sl Bs)).av).l I)) b wA ?_
  rintro ⟨J,y,o⟩ b aG Z;try dsimp only at b
  refine ay fun ab K=>?_;refine aa (S Mv (S Fv ?_));refine s0 (ck (TK rfl) rfl rfl (congrArg (fun x=>some (A.d x)) (af.di _))) rfl ?_;refine sLen (f:=af.c) (s:=g.av) (TK rfl) rfl rfl rfl rfl fun aH=>?_;refine S BI (S Mv (G0 Mv ?_));refine G1 32 rfl NP ?_;refine gC rfl rfl (fun hC=>aI (k:=33) rfl (dr (TK rfl) rfl rfl (TK rfl) rfl rfl)) rfl ?_;refine gC rfl rfl (fun hC=>aI (k:=34) rfl (ew (TK rfl) rfl rfl aJ rfl)) rfl ?_
  refine G1 35 rfl BI ?_;refine S PA (nil ?_);refine ah.iM (fun l=>Option.bind (qb Q (oo n) l y o) v=some r) (Option.bind (some (y,o)) v=some r) b (fun b=>by rw [qb] at b; exact b) (fun _ ad b=>by rw [qb] at b; rw [ad] at b; exact b) rfl rfl (fun aK L B ae b=>?_) (fun B b=>?_)
  ·rw [qb] at b;rw [ae,cond_true] at b;try dsimp only at B
   have aL:=oD (and_left B);refine sk K ?_;clear K ab;refine ay fun ai M=>?_;refine block ?_;refine aa (S Mv (S Fv ?_));refine s0 (ck (TK rfl) rfl rfl (congrArg (fun x=>some (A.d x)) (af.di _))) rfl ?_;refine S Mv ?_;obtain⟨aN,aj,b⟩:=vO L b;refine S (ix af.c J aj) (S Ld (S Mv ?_));obtain⟨aO,al,b⟩:=qO rfl b;refine s0 (dc rfl rfl al) rfl ?_
   obtain⟨C,ao,b⟩:=qO rfl b;refine sH (cU rfl rfl (R ao _ aJ)) rfl ?_;refine hq (((H.set p (some (.cells (Z4.c C.2)))).set i (some (.tok 5 o.av.l.length))).set m (some (.tok 1 o.aF.l.length))) ?_;refine Sl ?_;refine Sf ?_;refine nil ?_;refine bH 9 _ rfl (KA 0 (KA 2 (KA 4 (KA 6 (KA 7 (KA 8 aU.nil)))))) ?_;refine region ?_;refine S FL (S LL (S Ld (S BV ?_)))
   obtain⟨E,ap,b⟩:=qO rfl b;refine SH (am af.c (TK rfl) rfl (TK rfl) (TK rfl) ap) ?_;refine hq (((H.set p (some (.cells (Z4.c C.2)))).set i (some (.tok 5 E.l.length))).set m (some (.tok 1 o.aF.l.length))) ?_;refine S FL ?_;refine Sf ?_;refine nil ?_;refine M _ ?_;clear M ai;refine region ?_;refine S Mv ?_;refine SI ?_;refine S As (nil ?_);exact Z _ ((J+1),C.2,(af.mk o.ak o.bl o.aV E.nl E.l o.aF)) wA b (dl L)
  have b:=ku Y b;try dsimp only at b
  refine ah.exit ?_;obtain⟨aP,ar,b⟩:=cC b;have b:=ku ar b;exact X _ (y,o) wA b
 rintro ⟨au,aw⟩ b;try dsimp only at b
 refine ay fun ax N=>?_;refine ah.dX 1 _ rfl (fun j w cs hh hx=>qY 3 hx rfl) ?_;refine ah.dX 1 _ rfl (fun j w cs hh hx=>qY 4 hx rfl) ?_;refine ah.dX 1 (af.c aw) rfl (fun j w cs hh hx=>by rw [af.gm]; exact hx) ?_;refine region ?_;refine S LL ?_;refine Sf ?_;refine nil ?_;refine N _ ?_;clear N ax;refine ah.ret ?_;repeat (first|refine bM ?_|refine bN ?_)
 obtain rfl:=oJ b;refine bF.bK (H.set p (some (.cells (Z4.c au)))) rfl ⟨rfl,rfl⟩ ?_;intro O aQ P;have aR:O≠i:=fun F=>by subst F; simp_all [ag.set]
 have aT:O≠m:=fun F=>by subst F; simp_all [ag.set]
 rw [<- P];simp only [ag.set] at P ⊢
 (repeat' split)<;>simp_all
theorem Hw:∀(n:Nat),(A_ (an:=an) n)
 | 0=>fun b=>by first|cases b|(rw [oo] at b; cases b)
 | n+1=>PS n (Hw n)
def Hx (b:Z4) (f:af) (g:Int):Option (af×Z4):=oo F0 b f g
theorem PT {f:Z4}{g:af}{i:Int}{b:Nat}{r:af×Z4}(j:Hx f g i=some r) (H:ag) (k:H b=some (.cells (Z4.c f))):AC Tryz.prog 257 [.d (.ptr b 0),.agg (af.c g),.d (.int .i64 i)] H fun v h'=>v=.a (.agg (af.c r.1))/\h'=(H.set b (some (.cells (Z4.c r.2)))):=(Hw F0) j H k
def Hy (b:Z4) (f:af) (g:Int):Option (af×Z4):=oo F0 b f g
theorem PU (a0:Z4) (a1:af) (a2:Int):Hx a0 a1 a2=Hy a0 a1 a2:=rfl
def mY:Nat->Int->Option Bs
 | 0,_=>none
 | n+1,b=>(pJ (48:Int) (Int.tmod b (10:Int))).bind fun f=>bif (decide ((-10:Int)<b)) then(some (fK (⟨false,[(IntKind.wrap .u8 f)]⟩:Sl Int))) else(((mY n) (IntKind.wrap .i64 (Int.tdiv b (10:Int)))).bind fun g=>(a_ g (fK (⟨false,[(IntKind.wrap .u8 f)]⟩:Sl Int))).bind fun i=>some i)
def Ba (n:Nat):Prop:=∀{a0:Int}   {r:Bs},mY n a0=some r->∀(H:ag),AC Tryz.prog 135 [.d (.int .i64 a0)] H fun v h'=>v=.a (.d (.str r))/\h'=H
theorem PV (n:Nat) (g:Ba (an:=an) n):Ba (an:=an) (n+1):=by
 intro s   r b H;rw [mY] at b;refine AC.oW 18 [.tmp 2] Tryz.call135 Tryz.func135 ?_;refine aa (S As (nil ?_));refine aa (S Mv ?_);refine s0 (FI rfl rfl (by decide)) rfl ?_;obtain⟨i,j,b⟩:=qT rfl b;refine s0 (Fj rfl rfl j) rfl ?_;refine s0 (NF (TK rfl) (TK rfl) rfl rfl) rfl ?_;refine S BV ?_;refine s0 (zo (y:=(⟨false,[(IntKind.wrap .u8 i)]⟩:Sl Int)) (TK rfl) rfl (TK rfl) rfl (TK rfl) rfl rfl) rfl ?_
 refine S As (nil ?_);refine ay fun k f=>?_;refine aa (S Mv (S BI (nil ?_)));refine cE b (fun l b=>?_) (fun l b=>?_)
 ·refine aa (S Mv (S As (nil ?_)));exact rt b
 refine sk f ?_;clear f k;refine aa (S Mv ?_);refine s0 (FH rfl rfl (by decide)) rfl ?_;obtain⟨p,m,b⟩:=qT rfl b;refine Sc rfl rfl (g m) ?_;refine S Mv ?_;obtain⟨q,o,b⟩:=qT rfl b;refine s0 (bL rfl rfl o) rfl ?_;refine S As (nil ?_);exact rt b
theorem Hz:∀(n:Nat),(Ba (an:=an) n)
 | 0=>fun b=>by first|cases b|(rw [mY] at b; cases b)
 | n+1=>PV n (Hz n)
def HA (b:Int):Option Bs:=mY F0 b
theorem HB {b:Int}{r:Bs}(f:HA b=some r) (H:ag) :AC Tryz.prog 135 [.d (.int .i64 b)] H fun v h'=>v=.a (.d (.str r))/\h'=H:=(Hz F0) f H 
def wF (b:Int):Option Bs:=mY F0 b
theorem HC (a0:Int):HA a0=wF a0:=rfl
def jW (b:Int):Option Bs:=bif (decide (b<(0:Int))) then((wF b).bind fun f=>(a_ ([45]:Bs) f).bind fun g=>some g) else((wF (IntKind.wrap .i64 (0-b))).bind fun i=>some i)
def Bb (b:Int):Option Bs:=jW b
theorem wG (a0:Int):Bb a0=jW a0:=rfl
theorem wH {g:Int}{r:Bs}(b:Bb g=some r) (H:ag) :AC Tryz.prog 80 [.d (.int .i64 g)] H fun v h'=>v=.a (.d (.str r))/\h'=H:=by
 unfold Bb jW at b;refine AC.oW 11 [.tmp 2] Tryz.call80 Tryz.func80 ?_;refine aa (S As (nil ?_));refine ay fun i f=>?_;refine aa (S Mv (S BI (nil ?_)));refine cE b (fun j b=>?_) (fun j b=>?_)
 ·refine aa (S Mv ?_);obtain⟨o,k,b⟩:=qT (HC _) b;refine Sc rfl rfl (HB k) ?_;obtain⟨p,l,b⟩:=qT rfl b;refine s0 (bL rfl rfl l) rfl ?_;refine S As (nil ?_);exact rt b
 refine sk f ?_;clear f i;refine aa (S Mv ?_);refine s0 (Mq rfl) rfl ?_;obtain⟨q,m,b⟩:=qT (HC _) b;refine Sc rfl rfl (HB m) ?_;refine S As (nil ?_);exact rt b
def lR (g:Z4) (f:Bs) (b:af):Option (af×Z4):=bif (((((f==([73,110,116]:Bs)))&&(decide (b.ak=(2:Int))))&&(decide ((-2147483648:Int)<=b.bl)))&&(decide (b.bl<(2147483648:Int)))) then(some (b,g)) else(on (bif (((f==([83,116,114,105,110,103]:Bs)))&&(decide (b.ak=(3:Int)))) then((((f==([83,116,114,105,110,103]:Bs)))&&(decide (b.ak=(3:Int))))) else(bif (((f==([66,111,111,108,101,97,110]:Bs)))&&(decide (b.ak=(1:Int)))) then((((f==([66,111,111,108,101,97,110]:Bs)))&&(decide (b.ak=(1:Int))))) else((((f==([73,68]:Bs)))&&(decide (b.ak=(3:Int))))))) fun i=>bif i then(some (b,g)) else(bif (((f==([73,68]:Bs)))&&(decide (b.ak=(2:Int)))) then((jW b.bl).bind fun j=>some ((af.mk (3:Int) (0:Int) j true ([]) (Sl.nil:Sl Bs)),g)) else(on (()) fun _=>on (fE g (23:Int)) fun k=>some ((af.mk (0:Int) (0:Int) ([]:Bs) true ([]) (Sl.nil:Sl Bs)),k))))
def Bc (b:Z4) (f:Bs) (g:af):Option (af×Z4):=lR b f g
theorem PW (a0:Z4) (a1:Bs) (a2:af):Bc a0 a1 a2=lR a0 a1 a2:=rfl
theorem PX {g:Z4}{i:Bs}{j:af}{f:Nat}{r:af×Z4}(b:Bc g i j=some r) (H:ag) (C:H f=some (.cells (Z4.c g))):AC Tryz.prog 260 [.d (.ptr f 0),.d (.str i),.agg (af.c j)] H fun v h'=>v=.a (.agg (af.c r.1))/\h'=(H.set f (some (.cells (Z4.c r.2)))):=by
 unfold Bc lR at b;refine AC.oW 64 [.cell 6 58] Tryz.call260 Tryz.func260 ?_;refine ah.ga (h':=(H.set f (some (.cells (Z4.c g))))) (by funext n_; simp only [ag.set]; (repeat' split)<;>simp_all) ?_;refine aa (S BX ?_);refine Sl ?_;refine nil ?_;refine fO (TA 0 (TA 6 kN)) (fun(z:af)=>[]) (fun z=>[af.c z]) (fun z=>(H.set f (some (.cells (Z4.c g))))) (fun z=>(on (fE g (23:Int)) fun k=>some ((af.mk (0:Int) (0:Int) ([]:Bs) true ([]) (Sl.nil:Sl Bs)),k))=some r) ?_ ?_
 ·intro E m;refine block ?_;refine aa (S Mv (S BS (S Mv (G0 Fv ?_))));refine G1 11 rfl Ld ?_;refine G1 12 rfl BI ?_;refine S PA (S Mv (G0 Fv ?_));refine G1 16 rfl Ld ?_;refine G1 17 rfl BI ?_;refine S PA (S Mv (G0 Fv ?_));refine G1 21 rfl Ld ?_;refine G1 22 rfl BI ?_;refine S PA (S As (nil ?_));refine cE b (fun o b=>?_) (fun o b=>?_)
  ·refine aa (S Ld ?_);refine Sf ?_;refine nil ?_;exact rt b
  obtain⟨p,q,b⟩:=cC b;refine aP (TA 0 (TA 1 (TA 5 (TA 6 kN)))) (fun(z:Bool)=>[(26,.a (.d (.bool z)))]) (fun z=>(H.set f (some (.cells (Z4.c g))))) (fun z=>p z=some r) ?_ ?_
  ·intro F l;refine aa (S Mv (S BS (S Mv (G0 Fv ?_))));refine G1 30 rfl Ld ?_;refine G1 31 rfl BI ?_;refine S PA (S As (nil ?_));refine cP b (fun s b=>?_) (fun s b=>?_)
   ·refine ah.skip ?_;exact l _ (((i==([83,116,114,105,110,103]:Bs)))&&(decide (j.ak=(3:Int)))) wA b
   refine aa (S Mv (S BS (S Mv (G0 Fv ?_))));refine G1 37 rfl Ld ?_;refine G1 38 rfl BI ?_;refine S PA (S As (nil ?_));refine cP b (fun t b=>?_) (fun t b=>?_)
   ·refine ah.skip ?_;exact l _ (((i==([66,111,111,108,101,97,110]:Bs)))&&(decide (j.ak=(1:Int)))) wA b
   refine region ?_;refine S Mv (S BS (S Mv (G0 Fv ?_)));refine G1 44 rfl Ld ?_;refine G1 45 rfl BI ?_;refine S PA (S As (nil ?_));exact l _ (((i==([73,68]:Bs)))&&(decide (j.ak=(3:Int)))) wA b
  rintro G b;try dsimp only at b
  have b:=ku q b;refine cE b (fun u b=>?_) (fun u b=>?_)
  ·refine aa (S Ld ?_);refine Sf ?_;refine nil ?_;exact rt b
  refine aa (S Mv (S BS (S Mv (G0 Fv ?_))));refine G1 53 rfl Ld ?_;refine G1 54 rfl BI ?_;refine S PA (S As (nil ?_));refine cE b (fun w b=>?_) (fun w b=>?_)
  ·refine aa (S Fv (S Ld ?_));obtain⟨I,x,b⟩:=qT (wG _) b;refine Sc rfl rfl (wH x) ?_;refine S BU ?_;refine Sf ?_;refine nil ?_;exact rt b
  refine ah.skip ?_;obtain⟨J,y,b⟩:=cC b;have b:=ku y b;exact m _ af.zero wA b
 rintro K b;try dsimp only at b
 refine aa (S Mv ?_);obtain⟨k,B,b⟩:=vT (mW _ _) b;refine sH (cU rfl rfl (mX B _ aJ)) rfl ?_;refine hq (H.set f (some (.cells (Z4.c k)))) ?_;refine nil ?_;refine aa (S BU ?_);refine Sf ?_;refine nil ?_;exact rt b
def jX (f:Z4) (b:af):List Z9->Unit ⊕ ((af×Z4))
 | []=>Sum.inl ()
 | g::i=>on (g) fun j=>bif ((j.ai==b.aV)) then(Sum.inr ((af.mk (4:Int) (0:Int) b.aV true ([]) (Sl.nil:Sl Bs)),f)) else(jX f b (i) )
def jt (b:Z4) (m:az) (f:af):(af×Z4):=on (fun(_:Unit)=>on (fE b (23:Int)) fun i=>((af.mk (0:Int) (0:Int) ([]:Bs) true ([]) (Sl.nil:Sl Bs)),i)) fun g=>bif ((decide (f.ak=(4:Int)))||((decide (f.ak=(3:Int)))&&(!b.fC))) then(on (jX b f m.cm.l ) fun j=>match j with|Sum.inl _=>(g ())|Sum.inr k=>(k)) else(g ())
def Bd (b:Z4) (f:az) (g:af):Option (af×Z4):=some (jt b f g)
theorem PY (a0:Z4) (a1:az) (a2:af):Bd a0 a1 a2=some (jt a0 a1 a2):=rfl
theorem PZ {i:Z4}{j:az}{m:af}{g:Nat}{r:af×Z4}(b:Bd i j m=some r) (H:ag) (O:H g=some (.cells (Z4.c i))):AC Tryz.prog 261 [.d (.ptr g 0),.agg (az.c j),.agg (af.c m)] H fun v h'=>v=.a (.agg (af.c r.1))/\h'=(H.set g (some (.cells (Z4.c r.2)))):=by
 unfold Bd jt at b;refine AC.oW 45 [.cell 6 58] Tryz.call261 Tryz.func261 ?_;refine ah.ga (h':=(H.set g (some (.cells (Z4.c i))))) (by funext n_; simp only [ag.set]; (repeat' split)<;>simp_all) ?_;refine aa (S BX (S BX ?_));refine Sl ?_;refine nil ?_;obtain⟨C,E,b⟩:=mP b;refine fO (TA 0 (TA 6 kN)) (fun(z:af)=>[]) (fun z=>[af.c z]) (fun z=>(H.set g (some (.cells (Z4.c i))))) (fun z=>some (C ())=some r) ?_ ?_
 ·intro P p;refine aa (S Fv (S Ld (S BI (S Mv (G0 Fv ?_)))));refine G1 12 rfl Ld ?_;refine G1 13 rfl BI ?_;refine G1 14 rfl Mv ?_;refine G0 Mv ?_;refine G1 16 rfl NP ?_;refine gC rfl rfl (fun hC=>aI (k:=17) rfl (dr (TK rfl) rfl rfl (TK rfl) rfl rfl)) rfl ?_;refine gC rfl rfl (fun hC=>aI (k:=18) rfl (ew (TK rfl) rfl rfl aJ rfl)) rfl ?_;refine G1 19 rfl NB ?_;refine gC rfl rfl (fun hC=>aI (k:=15) rfl (gF rfl rfl rfl)) rfl ?_
  refine S PO (nil ?_);refine cP b (fun F b=>?_) (fun F b=>?_)
  ·refine aa (S As (nil ?_));refine block ?_;obtain⟨q,t,b⟩:=fo b;refine jf (TA 0 (TA 4 (TA 5 (TA 6 kN)))) (fun(z:Nat×af)=>[(7,.a (.d (.int .i64 ((z.1:Nat):Int))))]) (fun z=>[af.c z.2]) (fun z=>(H.set g (some (.cells (Z4.c i))))) (fun z=>j.cm.l.length-z.1) (fun z=>q (jX i m (j.cm.l.drop z.1) )=some r) (0,af.zero) b wA ?_;rintro ⟨u,w⟩ b Q G
   try dsimp only at b
   refine ay fun I x=>?_;refine aa (S Mv (S Fv (S Ld ?_)));refine sLen (f:=Z9.c) (s:=j.cm) (TK rfl) rfl rfl rfl rfl fun R=>?_;refine S BI (nil ?_);refine ah.cL (fun l=>q (jX i m l )=some r) b rfl (fun U y o b=>?_) (fun o b=>?_)
   ·rw [jX] at b;try dsimp only at o
    have W:=oD o;refine sk x ?_;clear x I;refine ay fun J B=>?_;refine block ?_;refine ah.cH (Sd Fv (Sd Ld (Sd Mv ?_)));obtain⟨X,K,b⟩:=vP y b;refine Sd (ix Z9.c u K) (Sd Fv (Sd Ld (Sd Fv (Sd Ld (Sd BS ?_)))));refine au.nil (by decide +kernel) ?_;refine cP b (fun L b=>?_) (fun L b=>?_)
    ·refine aa (S Fv (S Ld (S BU ?_)));refine Sf ?_;refine nil ?_;refine ah.ret ?_;repeat (first|refine bM ?_|refine bN ?_)
     have b:=ku t b;obtain rfl:=oJ b;refine bF.bK (H.set g (some (.cells (Z4.c i)))) rfl ⟨rfl,rfl⟩ ?_;exact(fun _ _ h=>h)
    refine sk B ?_;clear B J;refine region ?_;refine S Mv ?_;refine SI ?_;refine S As (nil ?_);exact G _ ((u+1),w) wA b (dl y)
   rw [jX] at b;have b:=ku t b;try dsimp only at b
   refine ah.exit ?_;exact p _ w wA b
  refine ah.skip ?_;exact p _ af.zero wA b
 rintro Y b;try dsimp only at b
 rw [E] at b;try dsimp only at b
 refine aa (S Mv ?_);obtain⟨M,N,b⟩:=vP (mW _ _) b;refine sH (cU rfl rfl (mX N _ aJ)) rfl ?_;refine hq (H.set g (some (.cells (Z4.c M)))) ?_;refine nil ?_;refine aa (S BU ?_);refine Sf ?_;refine nil ?_;exact rt b
def wI  :Option Bool:=some false
def rO (f:(Sl Z8)) (g:Int) :Nat->Int->Option Bool
 | 0,_=>none
 | i+1,b=>bif (decide (b<g)) then((cq f.l b).bind fun j=>(cq f.l g).bind fun k=>bif ((j.ai==k.ai)) then(some true) else((bY b (1:Int)).bind fun m=>(rO f g i) m)) else(wI   )
def uc (b:(Sl Z8)) (f:Int):Option Bool:=rO b f F0 (0:Int)
theorem P0 {i:Sl Z8}{j:Int}{w0:Option Nat}{r:Bool}(b:uc i j=some r) (H:ag) :AC Tryz.prog 273 [.d (Sl.d 10 Z8.c w0 i),.d (.int .i64 j)] H fun v h'=>v=.a (.d (.bool r))/\h'=H:=by
 unfold uc at b;refine AC.oW 22 [.tmp 4] Tryz.call273 Tryz.func273 ?_;refine aa (S As (nil ?_));refine aP kN (fun(z:Unit)=>[]) (fun z=>H) (fun z=>wI =some r) ?_ ?_
 ·intro B m;refine aa (S As (nil ?_));refine block ?_;refine bD (TA 0 (TA 1 kN)) (fun(z:Nat×Int)=>[(5,.a (.d (.int .i64 z.2)))]) (fun z=>H) (fun z=>z.1) (fun z=>rO i j z.1 z.2=some r) (F0,(0:Int)) b wA ?_;rintro ⟨g,C⟩ b E o;try dsimp only at b
  cases g with
  | zero=>cases b
  | succ g =>
    rw [rO] at b;refine ay fun p k=>?_;refine aa (S Mv (S Mv (S BI (nil ?_))));refine cE b (fun q b=>?_) (fun q b=>?_)
    ·refine sk k ?_;clear k p;refine ay fun s l=>?_;refine block ?_;refine ah.cH (Sd Mv (Sd Mv ?_));obtain⟨F,t,b⟩:=bO b;refine au.s0 (fI (f:=Z8.c) (TK rfl) rfl (TK rfl) rfl rfl rfl t) rfl ?_;refine Sd Fv (Sd Ld (Sd Mv (Sd Mv ?_)));obtain⟨G,u,b⟩:=bO b;refine au.s0 (fI (f:=Z8.c) (TK rfl) rfl (TK rfl) rfl rfl rfl u) rfl ?_;refine Sd Fv (Sd Ld (Sd BS ?_));refine au.nil (by decide +kernel) ?_
     refine cE b (fun w b=>?_) (fun w b=>?_)
     ·refine aa (S As (nil ?_));exact rt b
     refine sk l ?_;clear l s;refine region ?_;refine S Mv ?_;obtain⟨x,y,b⟩:=bO b;refine s0 (dc rfl rfl y) rfl ?_;refine S As (nil ?_);exact o _ (g,x) wA b (nS _)
    refine ah.exit ?_;exact m _ () wA b
 rintro _ b;try dsimp only at b
 unfold wI at b;refine aa (S As (nil ?_));exact rt b
def wJ (b:(Sl Z8)) (f:Int):Option Bool:=uc b f
theorem P3 (a0:(Sl Z8)) (a1:Int):uc a0 a1=wJ a0 a1:=rfl
end Go.Proofs
