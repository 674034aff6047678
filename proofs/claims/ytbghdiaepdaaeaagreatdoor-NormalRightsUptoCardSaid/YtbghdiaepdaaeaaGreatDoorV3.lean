import Derived.Test.YtbghdiaepdaaeaaGreatDoorV2
set_option maxRecDepth 100000
set_option maxHeartbeats 2000000
set_option linter.unusedVariables false
set_option linter.unusedSimpArgs false
namespace Go.Proofs
open Go Go.Ab
open aQ ar ag aS dY
variable {ak:bf}
def lY (f:(Sl Int)):List Int->Nat->Option (Unit ⊕ Bool)
 | [],b=>some (Sum.inl ())
 | g::i,b=>on (g) fun j=>(f.l[b]?).bind fun k=>bif (!decide (j=k)) then(some (Sum.inr false)) else(lY f (i) (b+1) )
def oZ (b:(Sl Int)) (f:(Sl Int)):Option Bool:=bif (!decide (((b.l.length:Nat):Int)=((f.l.length:Nat):Int))) then(some false) else(Option.bind (lY f b.l 0 ) fun g=>match g with|Sum.inl _=>(on (()) fun _=>some true)|Sum.inr i=>(some i))
def Bg (b:(Sl Int)) (f:(Sl Int)):Option Bool:=oZ b f
theorem Qn (a0:(Sl Int)) (a1:(Sl Int)):Bg a0 a1=oZ a0 a1:=rfl
theorem Qo {g i:Sl Int}{w0 w:Option Nat}{r:Bool}(b:Bg g i=some r) (H:ah) :AC Tryz.prog 69 [.d (Sl.d 1 (bp .i64) w0 g),.d (Sl.d 1 (bp .i64) w i)] H fun v h'=>v=.a (.d (.bool r))/\h'=H:=by
 unfold Bg oZ at b;refine AC.oW 26 [.tmp 4] Tryz.call69 Tryz.func69 ?_;refine af (S As (nil ?_));refine ay fun x m=>?_;refine af (S Mv ?_);refine sLen (f:=(bp .i64)) (s:=g) (TK rfl) rfl rfl rfl rfl fun L=>?_;refine S Mv ?_;refine sLen (f:=(bp .i64)) (s:=i) (TK rfl) rfl rfl rfl rfl fun M=>?_;refine S BI (nil ?_);refine cE b (fun y b=>?_) (fun y b=>?_)
 ·refine af (S As (nil ?_));exact rt b
 refine sk m ?_;clear m x;refine aT kN (fun(z:Unit)=>[]) (fun z=>H) (fun z=>(some true)=some r) ?_ ?_
 ·intro N B;refine af (S As (nil ?_));refine block ?_;obtain⟨o,p,b⟩:=cB b;refine bx (TA 0 (TA 1 kN)) (fun(z:Nat)=>[(5,.a (.d (.int .i64 ((z:Nat):Int))))]) (fun z=>H) (fun z=>g.l.length-z) (fun z=>Option.bind (lY i (g.l.drop z) z ) o=some r) 0 b wA ?_;rintro j b O C;try dsimp only at b
  refine ay fun E q=>?_;refine af (S Mv (S Mv ?_));refine sLen (f:=(bp .i64)) (s:=g) (TK rfl) rfl rfl rfl rfl fun P=>?_;refine S BI (nil ?_);refine ag.cA (fun l=>Option.bind (lY i l j ) o=some r) b rfl (fun Q t k b=>?_) (fun k b=>?_)
  ·rw [lY] at b;try dsimp only at k
   have R:=oD k;refine sk q ?_;clear q E;refine ay fun F u=>?_;refine block ?_;refine ag.bY (Sd Mv (Sd Mv ?_));obtain⟨U,G,b⟩:=vO t b;refine Sd (ix (bp .i64) j G) ?_;refine Sd Ld (Sd Mv (Sd Mv ?_));obtain⟨W,I,b⟩:=qO rfl b;refine Sd (ix (bp .i64) j I) ?_;refine Sd Ld (Sd BI ?_);refine au.nil (by decide +kernel) ?_;refine cO b (fun J b=>?_) (fun J b=>?_)
   ·refine af (S As (nil ?_));refine ag.ret ?_;repeat (first|refine bK ?_|refine bL ?_)
    have b:=ku p b;obtain rfl:=oJ b;refine bz.bJ H rfl ⟨rfl,rfl⟩ ?_;exact(fun _ _ h=>h)
   refine sk u ?_;clear u F;refine region ?_;refine S Mv ?_;refine SI ?_;refine S As (nil ?_);exact C _ (j+1) wA b (dl t)
  rw [lY] at b;have b:=ku p b;try dsimp only at b
  refine ag.exit ?_;obtain⟨X,K,b⟩:=bW b;have b:=ku K b;exact B _ () wA b
 rintro _ b;try dsimp only at b
 refine af (S As (nil ?_));exact rt b
def lZ (b:az) (f:az):Option Bool:=aN (((b.ai==f.ai))) (oZ b.aK f.aK) false fun g=>some (((b.ai==f.ai))&&g)
def xC (b:az) (f:az):Option Bool:=lZ b f
theorem Bh (a0:az) (a1:az):xC a0 a1=lZ a0 a1:=rfl
theorem xD {f g:az}{r:Bool}(b:xC f g=some r) (H:ah) :AC Tryz.prog 33 [.agg (az.c f),.agg (az.c g)] H fun v h'=>v=.a (.d (.bool r))/\h'=H:=by
 unfold xC lZ at b;refine AC.oW 17 [.tmp 4] Tryz.call33 Tryz.func33 ?_;refine af (S BX (S BX (S As (nil ?_))));refine af (S Fv (S Ld (S Fv (S Ld (S BS (S Mv (G0 Fv ?_)))))));refine G1 11 rfl Ld ?_;refine G0 Fv ?_;refine G1 13 rfl Ld ?_;obtain⟨j,i,b⟩:=dx (Qn _ _) b;refine fI 12 14 rfl rfl rfl rfl rfl rfl (fun hC=>Qo (i hC)) ?_;refine S PA (S As (nil ?_));exact rt b
def fh (b:az):Bool:=on (bif (decide ((0:Int)<((b.aK.l.length:Nat):Int))) then((b.aK.l)[0]?.getD (0:Int)) else(0:Int)) fun f=>((decide ((0:Int)<((b.aK.l.length:Nat):Int)))&&(decide (f=(1:Int))))
def Bi (b:az):Option Bool:=some (fh b)
theorem o3 (a0:az):Bi a0=some (fh a0):=rfl
theorem o4 {g:az}{r:Bool}(b:Bi g=some r) (H:ah) :AC Tryz.prog 179 [.agg (az.c g)] H fun v h'=>v=.a (.d (.bool r))/\h'=H:=by
 unfold Bi fh at b;refine AC.oW 14 [.tmp 2] Tryz.call179 Tryz.func179 ?_;refine af (S BX (S As (nil ?_)));refine af (S Fv (S Ld ?_));refine sLen (f:=(bp .i64)) (s:=g.aK) (TK rfl) rfl rfl rfl rfl fun j=>?_;refine S BI (S Mv (G0 Fv ?_));refine G1 8 rfl Ld ?_;obtain⟨l,i,b⟩:=lP (fun hc=>Q.getD_some (by simp at hc; omega)) b;refine gC rfl rfl (fun hC=>aG (k:=9) rfl (eR (f:=(bp .i64)) (n:=0) (TK rfl) rfl (TK rfl) rfl rfl rfl (i hC))) rfl ?_
 refine G1 10 rfl Ld ?_;refine G1 11 rfl BI ?_;refine S PA (S As (nil ?_));exact rt b
def nG (b:az):Option az:=(mR b.aK (some (1:Int)) none).bind fun f=>(aZ 8 (⟨false,[]⟩:Sl Int) f).bind fun g=>some (az.mk b.ai g)
def Bj (b:az):Option az:=nG b
theorem HN (a0:az):Bj a0=nG a0:=rfl
theorem HO {g r:az}(b:Bj g=some r) (H:ah) :AC Tryz.prog 217 [.agg (az.c g)] H fun v h'=>v=.a (.agg (az.c r))/\h'=H:=by
 unfold Bj nG at b;refine AC.oW 11 [.cell 2 50] Tryz.call217 Tryz.func217 ?_;refine af (S BX ?_);refine Sl ?_;refine nil ?_;refine ag.bY (Sd Fv (Sd Ld ?_));refine au.s0 (ov (TK rfl) rfl (TK rfl) rfl rfl rfl rfl rfl rfl) rfl ?_;refine Sd Fv (Sd Ld ?_);obtain⟨k,i,b⟩:=qT rfl b;refine au.s0 (lJ (f:=(bp .i64)) (l:=(some (1:Int))) (r:=none) (TK rfl) rfl (TK rfl) rfl rfl rfl trivial i) rfl ?_
 obtain⟨m,j,b⟩:=qT rfl b;refine au.s0 (rR (f:=(bp .i64)) (TK rfl) rfl (TK rfl) (TK rfl) ⟨_,rfl⟩ rfl rfl (by decide) rfl rfl rfl (by intro q h; cases h<;>decide) rfl rfl j) rfl ?_;refine Sd BU ?_;refine au.dh (dH (TK rfl) rfl rfl rfl rfl rfl) ?_;refine au.nil (by decide +kernel) ?_;exact rt b
def kf (b:az):Option az:=on (fh b) fun f=>bif f then((nG b).bind fun g=>some g) else((aZ 8 (⟨false,[]⟩:Sl Int) b.aK).bind fun i=>some (az.mk b.ai i))
def Bk (b:az):Option az:=kf b
theorem uU (a0:az):Bk a0=kf a0:=rfl
theorem uV {i r:az}(b:Bk i=some r) (H:ah) :AC Tryz.prog 176 [.agg (az.c i)] H fun v h'=>v=.a (.agg (az.c r))/\h'=H:=by
 unfold Bk kf at b;refine AC.oW 14 [.cell 2 50] Tryz.call176 Tryz.func176 ?_;refine af (S BX ?_);refine Sl ?_;refine nil ?_;refine ay fun j g=>?_;refine af (S Ld ?_);obtain⟨p,k,b⟩:=vT (o3 _) b;refine Sc rfl rfl (o4 k) ?_;refine nil ?_;refine cE b (fun l b=>?_) (fun l b=>?_)
 ·refine af (S Ld ?_);obtain⟨s,m,b⟩:=qT (HN _) b;refine Sc rfl rfl (HO m) ?_;refine Sf ?_;refine nil ?_;exact rt b
 refine sk g ?_;clear g j;refine ag.bY (Sd Fv (Sd Ld ?_));refine au.s0 (ov (TK rfl) rfl (TK rfl) rfl rfl rfl rfl rfl rfl) rfl ?_;refine Sd Fv (Sd Ld ?_);obtain⟨t,o,b⟩:=qT rfl b;refine au.s0 (rR (f:=(bp .i64)) (TK rfl) rfl (TK rfl) (TK rfl) ⟨_,rfl⟩ rfl rfl (by decide) rfl rfl rfl (by intro q h; cases h<;>decide) rfl rfl o) rfl ?_;refine Sd BU ?_;refine au.dh (dH (TK rfl) rfl rfl rfl rfl rfl) ?_
 refine au.nil (by decide +kernel) ?_;exact rt b
def pe (g:az):Option Bool:=(kf g).bind fun b=>on (bif (decide ((0:Int)<((b.aK.l.length:Nat):Int))) then((b.aK.l)[0]?.getD (0:Int)) else(0:Int)) fun f=>some ((decide ((0:Int)<((b.aK.l.length:Nat):Int)))&&(decide (f=(2:Int))))
def Bl (b:az):Option Bool:=pe b
theorem HP (a0:az):Bl a0=pe a0:=rfl
theorem HQ {g:az}{r:Bool}(b:Bl g=some r) (H:ah) :AC Tryz.prog 116 [.agg (az.c g)] H fun v h'=>v=.a (.d (.bool r))/\h'=H:=by
 unfold Bl pe at b;refine AC.oW 17 [.tmp 2] Tryz.call116 Tryz.func116 ?_;refine af (S BX (S As (nil ?_)));refine af (S Ld ?_);obtain⟨i,j,b⟩:=qT (uU _) b;refine Sc rfl rfl (uV j) ?_;refine Sl ?_;refine Sf ?_;refine nil ?_;refine bu 3 _ rfl aS.nil ?_;refine af (S Fv (S Ld ?_));refine sLen (f:=(bp .i64)) (s:=i.aK) (TK rfl) rfl rfl rfl rfl fun m=>?_;refine S BI (S Mv (G0 Fv ?_))
 refine G1 11 rfl Ld ?_;obtain⟨o,l,b⟩:=lN (fun hc=>Q.getD_some (by simp at hc; omega)) b;refine gC rfl rfl (fun hC=>aG (k:=12) rfl (eR (f:=(bp .i64)) (n:=0) (TK rfl) rfl (TK rfl) rfl rfl rfl (l hC))) rfl ?_;refine G1 13 rfl Ld ?_;refine G1 14 rfl BI ?_;refine S PA (S As (nil ?_));exact rt b
def kg (b:az):Option (az×Bool):=(pe b).bind fun f=>bif (!f) then(some ((az.mk ([]:Bs) (Sl.nil:Sl Int)),false)) else((kf b).bind fun g=>(nG g).bind fun i=>some (i,true))
def Bm (b:az):Option (az×Bool):=kg b
theorem Bn (a0:az):Bm a0=kg a0:=rfl
theorem Bo {g:az}{r:az×Bool}(b:Bm g=some r) (H:ah) :AC Tryz.prog 228 [.agg (az.c g)] H fun v h'=>v=.cS [.agg (az.c r.1),.d (.bool r.2)]/\h'=H:=by
 unfold Bm kg at b;refine AC.oW 11 [.cell 2 50,.tmp 3] Tryz.call228 Tryz.func228 ?_;refine af (S BX ?_);refine Sl ?_;refine S As (nil ?_);refine ay fun i f=>?_;refine af (S Ld ?_);obtain⟨o,j,b⟩:=qT (HP _) b;refine Sc rfl rfl (HQ j) ?_;refine S NB (nil ?_);refine cE b (fun k b=>?_) (fun k b=>?_)
 ·refine af (S BU ?_);refine Sf ?_;refine S As (nil ?_);exact rt b
 refine sk f ?_;clear f i;refine af (S Ld ?_);obtain⟨p,l,b⟩:=qT (uU _) b;refine Sc rfl rfl (uV l) ?_;obtain⟨q,m,b⟩:=qT (HN _) b;refine Sc rfl rfl (HO m) ?_;refine Sf ?_;refine S As (nil ?_);exact rt b
def Bp  :Option Bool:=some true
def pg (f:aq) (g:Int) :Nat->Int->Option Bool
 | 0,_=>none
 | i+1,b=>bif (decide (b<g)) then((bV f.aA.l b).bind fun j=>(bV f.aA.l g).bind fun k=>bif ((j.ai==k.ai)) then(some false) else((bG b (1:Int)).bind fun m=>(pg f g i) m)) else(Bp   )
def uW (b:aq) (f:Int):Option Bool:=pg b f F0 (0:Int)
theorem Qp {i:aq}{j:Int}{r:Bool}(b:uW i j=some r) (H:ah) :AC Tryz.prog 113 [.agg (aq.c i),.d (.int .i64 j)] H fun v h'=>v=.a (.d (.bool r))/\h'=H:=by
 unfold uW at b;refine AC.oW 24 [.tmp 4] Tryz.call113 Tryz.func113 ?_;refine af (S BX (S As (nil ?_)));refine aT kN (fun(z:Unit)=>[]) (fun z=>H) (fun z=>Bp =some r) ?_ ?_
 ·intro B m;refine af (S As (nil ?_));refine block ?_;refine bx (TA 1 (TA 2 kN)) (fun(z:Nat×Int)=>[(5,.a (.d (.int .i64 z.2)))]) (fun z=>H) (fun z=>z.1) (fun z=>pg i j z.1 z.2=some r) (F0,(0:Int)) b wA ?_;rintro ⟨g,C⟩ b E o;try dsimp only at b
  cases g with
  | zero=>cases b
  | succ g =>
    rw [pg] at b;refine ay fun p k=>?_;refine af (S Mv (S Mv (S BI (nil ?_))));refine cE b (fun q b=>?_) (fun q b=>?_)
    ·refine sk k ?_;clear k p;refine ay fun s l=>?_;refine block ?_;refine ag.bY (Sd Fv (Sd Ld (Sd Mv ?_)));obtain⟨F,t,b⟩:=bO b;refine au.s0 (fu (f:=ax.c) (TK rfl) rfl (TK rfl) rfl rfl rfl t) rfl ?_;refine Sd Fv (Sd Ld (Sd Fv (Sd Ld (Sd Mv ?_))));obtain⟨G,u,b⟩:=bO b;refine au.s0 (fu (f:=ax.c) (TK rfl) rfl (TK rfl) rfl rfl rfl u) rfl ?_;refine Sd Fv (Sd Ld (Sd BS ?_))
     refine au.nil (by decide +kernel) ?_;refine cE b (fun w b=>?_) (fun w b=>?_)
     ·refine af (S As (nil ?_));exact rt b
     refine sk l ?_;clear l s;refine region ?_;refine S Mv ?_;obtain⟨x,y,b⟩:=bO b;refine s0 (cI rfl rfl y) rfl ?_;refine S As (nil ?_);exact o _ (g,x) wA b (nS _)
    refine ag.exit ?_;exact m _ () wA b
 rintro _ b;try dsimp only at b
 unfold Bp at b;refine af (S As (nil ?_));exact rt b
def sN (b:aq) (f:Int):Option Bool:=uW b f
theorem Qq (a0:aq) (a1:Int):uW a0 a1=sN a0 a1:=rfl
def nH (b:Bs):List Z9->Unit ⊕ Bool
 | []=>Sum.inl ()
 | f::g=>on (f) fun i=>bif ((i.ai==b)) then(Sum.inr true) else(nH b (g) )
def l5 (g:ax) (i:Bs):Bool:=on (nH i g.bI.l ) fun b=>match b with|Sum.inl _=>(on (()) fun _=>false)|Sum.inr f=>(f)
def Bq (b:ax) (f:Bs):Option Bool:=some (l5 b f)
theorem HR (a0:ax) (a1:Bs):Bq a0 a1=some (l5 a0 a1):=rfl
theorem HS {g:ax}{i:Bs}{r:Bool}(b:Bq g i=some r) (H:ah) :AC Tryz.prog 115 [.agg (ax.c g),.d (.str i)] H fun v h'=>v=.a (.d (.bool r))/\h'=H:=by
 unfold Bq l5 at b;refine AC.oW 21 [.tmp 4] Tryz.call115 Tryz.func115 ?_;refine af (S BX (S As (nil ?_)));refine aT kN (fun(z:Unit)=>[]) (fun z=>H) (fun z=>some (false)=some r) ?_ ?_
 ·intro F u;refine af (S As (nil ?_));refine block ?_;obtain⟨k,m,b⟩:=eB b;refine bx (TA 1 (TA 2 kN)) (fun(z:Nat)=>[(5,.a (.d (.int .i64 ((z:Nat):Int))))]) (fun z=>H) (fun z=>g.bI.l.length-z) (fun z=>k (nH i (g.bI.l.drop z) )=some r) 0 b wA ?_;rintro o b G w;try dsimp only at b
  refine ay fun x p=>?_;refine af (S Mv (S Fv (S Ld ?_)));refine sLen (f:=Z9.c) (s:=g.bI) (TK rfl) rfl rfl rfl rfl fun I=>?_;refine S BI (nil ?_);refine ag.cA (fun l=>k (nH i l )=some r) b rfl (fun J q j b=>?_) (fun j b=>?_)
  ·rw [nH] at b;try dsimp only at j
   have K:=oD j;refine sk p ?_;clear p x;refine ay fun y t=>?_;refine block ?_;refine af (S Fv (S Ld (S Mv ?_)));obtain⟨L,B,b⟩:=vP q b;refine S (ix Z9.c o B) (S Fv (S Ld (S Mv (S BS (nil ?_)))));refine cP b (fun C b=>?_) (fun C b=>?_)
   ·refine af (S As (nil ?_));refine ag.ret ?_;repeat (first|refine bK ?_|refine bL ?_)
    have b:=ku m b;obtain rfl:=oJ b;refine bz.bJ H rfl ⟨rfl,rfl⟩ ?_;exact(fun _ _ h=>h)
   refine sk t ?_;clear t y;refine region ?_;refine S Mv ?_;refine SI ?_;refine S As (nil ?_);exact w _ (o+1) wA b (dl q)
  rw [nH] at b;have b:=ku m b;try dsimp only at b
  refine ag.exit ?_;obtain⟨M,E,b⟩:=eB b;have b:=ku E b;exact u _ () wA b
 rintro _ b;try dsimp only at b
 refine af (S As (nil ?_));exact rt b
def fw (l:aq) (i:Bs) (b:(ax×Bool)):List ax->Nat->(Sl Bs)->Option ((Sl Bs))
 | [],j,g=>some g
 | m::o,j,g=>bif b.2 then(on (m) fun f=>aN (!(!decide (f.an=(1:Int)))) (sN l ((j:Nat):Int)) false fun p=>Option.bind (bif ((!decide (f.an=(1:Int)))||(!p)) then(some g) else(on (bif (!((decide (b.1.an=(1:Int)))&&((f.ai==i)))&&(decide (b.1.an=(2:Int)))) then iT f.bU i else false) fun k=>on (bif (!(((decide (b.1.an=(1:Int)))&&((f.ai==i)))||((decide (b.1.an=(2:Int)))&&k))&&(decide (b.1.an=(3:Int)))) then l5 b.1 f.ai else false) fun q=>bif ((((decide (b.1.an=(1:Int)))&&((f.ai==i)))||((decide (b.1.an=(2:Int)))&&k))||((decide (b.1.an=(3:Int)))&&q)) then((aZ 16 g (⟨false,[f.ai]⟩:Sl Bs)).bind fun r=>some r) else(some g))) fun s=>fw l i b (o) (j+1) s) else(some g)
def kn (b:aq) (f:Bs):Option (Sl Bs):=on (cU b f) fun g=>Option.bind (fw b f g b.aA.l 0 (Sl.nil:Sl Bs)) fun i=>on (i) fun j=>some j
def Br (b:aq) (f:Bs):Option (Sl Bs):=kn b f
theorem HT (a0:aq) (a1:Bs):Br a0 a1=kn a0 a1:=rfl
theorem HU {g:aq}{o:Bs}{r:Sl Bs}(b:Br g o=some r) (H:ah) :AC Tryz.prog 66 [.agg (aq.c g),.d (.str o)] H fun v h'=>v=.a (.d (Sl.d 1 aP none r))/\h'=H:=by
 unfold Br kn at b;refine AC.oW 81 [.tmp 4] Tryz.call66 Tryz.func66 ?_;refine ag.tok 1 fun i x=>?_;refine af (S BX ?_);refine s0 (fK (k':=1) rfl) rfl ?_;refine nil ?_;refine af (S As (nil ?_));refine ag.fU 5 1 i rfl aI ?_;refine af (S Ld (S Mv ?_));obtain⟨q,F,b⟩:=vT (jv _ _) b;refine Sc rfl rfl (jw F) ?_;refine S Mv (S EX (S EX ?_));refine Sl ?_
 refine Sf ?_;refine S As (nil ?_);refine bu 6 _ rfl (KA 1 (KA 2 (KA 5 (KA 7 aS.nil)))) ?_;refine aT kN (fun(z:(Sl Bs))=>[(5,.a (.d (Sl.d 1 aP (some i) z)))]) (fun z=>(H.set i (some (.tok 1 z.l.length)))) (fun z=>(some z)=some r) ?_ ?_
 ·intro aa G;refine af (S As (nil ?_));refine block ?_;obtain⟨p,I,b⟩:=cB b;refine bx (TA 1 (TA 2 (TA 6 (TA 7 kN)))) (fun(z:(Sl Bs)×Nat)=>[(5,.a (.d (Sl.d 1 aP (some i) z.1))),(8,.a (.d (.int .i64 ((z.2:Nat):Int))))]) (fun z=>(H.set i (some (.tok 1 z.1.l.length)))) (fun z=>g.aA.l.length-z.2) (fun z=>Option.bind (fw g o q (g.aA.l.drop z.2) z.2 z.1) p=some r) ((Sl.nil:Sl Bs),0) b wA ?_
  rintro ⟨j,m⟩ b ab J;try dsimp only at b
  refine ay fun K y=>?_;refine af (S Mv (S Fv (S Ld ?_)));refine sLen (f:=ax.c) (s:=g.aA) (TK rfl) rfl rfl rfl rfl fun ad=>?_;refine S BI (S Mv (G0 Mv (S PA (nil ?_))));refine ag.jk (fun l=>Option.bind (fw g o q l m j) p=some r) (Option.bind (some j) p=some r) b (fun b=>by rw [fw] at b; exact b) (fun _ L b=>by rw [fw] at b; rw [L] at b; exact b) rfl rfl (fun ae B t M b=>?_) (fun t b=>?_)
  ·rw [fw] at b;rw [M,cond_true] at b;try dsimp only at t
   have ai:=oD (and_left t);refine sk y ?_;clear y K;refine aT (TA 1 (TA 2 (TA 6 (TA 7 (TA 8 kN))))) (fun(z:(Sl Bs))=>[(5,.a (.d (Sl.d 1 aP (some i) z)))]) (fun z=>(H.set i (some (.tok 1 z.l.length)))) (fun z=>Option.bind (fw g o q (g.aA.l.drop (m+1)) (m+1) z) p=some r) ?_ ?_
   ·intro aj u;refine block ?_;refine af (S Fv (S Ld (S Mv ?_)));obtain⟨ak,N,b⟩:=vO B b;refine S (ix ax.c m N) (S Ld ?_);refine Sl ?_;refine Sf ?_;refine nil ?_;refine bu 9 _ rfl (KA 1 (KA 2 (KA 5 (KA 6 (KA 7 (KA 8 aS.nil)))))) ?_;refine ay fun O C=>?_;refine af (S Fv (S Ld (S BI (S Mv (G0 Ld (G0 Mv ?_))))));obtain⟨al,P,b⟩:=eA (Qq _ _) b;refine fI 36 37 rfl rfl rfl rfl rfl rfl (fun hC=>Qp (P hC)) ?_
    refine G1 38 rfl NB ?_;refine S PO (nil ?_);obtain⟨an,w,b⟩:=gE b;refine cO b (fun Q b=>?_) (fun Q b=>?_)
    ·refine ag.exit ?_;have b:=ku w b;exact u _ j wA b
    refine sk C ?_;clear C O;refine af (S Fv (S Ld (S BI (S Mv (G0 Fv ?_)))));refine G1 45 rfl Ld ?_;refine G0 Mv ?_;refine G2 46 47 rfl rfl BS ?_;refine S PA (S As (nil ?_));refine af (S Mv (S Mv (G0 Fv ?_)));refine G1 52 rfl Ld ?_;refine G1 53 rfl BI ?_;refine G1 54 rfl Mv ?_;refine G0 Fv ?_;refine G1 56 rfl Ld ?_;refine G0 Mv ?_;obtain⟨ao,R,b⟩:=fc (fun _=>(Bd _ _)) b;refine fI 57 58 rfl rfl rfl rfl rfl rfl (fun hC=>Be (R hC)) ?_
    refine gC rfl rfl (fun hC=>aG (k:=55) rfl (fV rfl rfl rfl)) rfl ?_;refine S PO (S As (nil ?_));refine af (S Mv (S Mv (G0 Fv ?_)));refine G1 64 rfl Ld ?_;refine G1 65 rfl BI ?_;refine G1 66 rfl Mv ?_;refine G0 Ld (G0 Fv ?_);refine G1 69 rfl Ld ?_;obtain⟨ap,U,b⟩:=fc (fun _=>(HR _ _)) b;refine fI 68 70 rfl rfl rfl rfl rfl rfl (fun hC=>HS (U hC)) ?_;refine gC rfl rfl (fun hC=>aG (k:=67) rfl (fV rfl rfl rfl)) rfl ?_
    refine S PO (S As (nil ?_));refine af (S Mv (nil ?_));refine cO b (fun W b=>?_) (fun W b=>?_)
    ·refine region ?_;refine S Mv (S Fv (S Ld (S BV ?_)));obtain⟨E,X,b⟩:=qO rfl b;refine SH (am aP (TK rfl) rfl (TK rfl) (TK rfl) X) ?_;refine hq (H.set i (some (.tok 1 E.l.length))) ?_;refine S As (nil ?_);have b:=ku w b;exact u _ E wA b
    refine ag.skip ?_;have b:=ku w b;exact u _ j wA b
   rintro Y b;try dsimp only at b
   refine region ?_;refine S Mv ?_;refine SI ?_;refine S As (nil ?_);exact J _ (Y,(m+1)) wA b (dl B)
  have b:=ku I b;refine ag.exit ?_;obtain⟨au,Z,b⟩:=bW b;have b:=ku Z b;exact G _ j wA b
 rintro av b;try dsimp only at b
 refine af (S Mv (S As (nil ?_)));refine ag.gb 4 rfl ?_;refine ag.ret ?_;repeat (first|refine bK ?_|refine bL ?_)
 obtain rfl:=oJ b;refine bz.bJ H rfl ⟨rfl,rfl⟩ ?_
 first|exact ah.cG x|(simp only [ah.set_set]; exact ah.cG x)
def sO (g:aq) (i:Bs) (j:Bs):Option Bool:=(kn g j).bind fun b=>on (iT b i) fun f=>some f
def Bt (b:aq) (f:Bs) (g:Bs):Option Bool:=sO b f g
theorem Qr (a0:aq) (a1:Bs) (a2:Bs):Bt a0 a1 a2=sO a0 a1 a2:=rfl
theorem Qt {f:aq}{g i:Bs}{r:Bool}(b:Bt f g i=some r) (H:ah) :AC Tryz.prog 229 [.agg (aq.c f),.d (.str g),.d (.str i)] H fun v h'=>v=.a (.d (.bool r))/\h'=H:=by
 unfold Bt sO at b;refine AC.oW 12 [.tmp 6] Tryz.call229 Tryz.func229 ?_;refine af (S BX (S As (nil ?_)));refine af (S Ld (S Mv ?_));obtain⟨l,j,b⟩:=qT (HT _ _) b;refine Sc rfl rfl (HU j) ?_;refine S Mv ?_;obtain⟨m,k,b⟩:=vT (Bd _ _) b;refine Sc rfl rfl (Be k) ?_;refine S As (nil ?_);exact rt b
def l6:Nat->aq->az->az->Option Bool
 | 0,_,_,_=>none
 | n+1,k,b,f=>on (fh f) fun l=>bif l then(on (fh b) fun g=>aN (g) (kf b) az.zero fun m=>aN (g) (kf f) az.zero fun o=>aN (g) ((l6 n) k m o) false fun p=>some (g&&p)) else(on (fh b) fun q=>bif q then((kf b).bind fun r=>((l6 n) k r f).bind fun s=>some s) else((kg b).bind fun i=>(kg f).bind fun j=>bif (i.2&&j.2) then(((l6 n) k i.1 j.1).bind fun t=>some t) else(aN ((((!i.2)&&(!j.2))&&!((b.ai==f.ai)))) (sO k b.ai f.ai) false fun u=>some (((!i.2)&&(!j.2))&&(((b.ai==f.ai))||u)))))
def Bu (n:Nat):Prop:=∀{a0:aq}{a1:az}{a2:az}   {r:Bool},l6 n a0 a1 a2=some r->∀(H:ah),AC Tryz.prog 197 [.agg (aq.c a0),.agg (az.c a1),.agg (az.c a2)] H fun v h'=>v=.a (.d (.bool r))/\h'=H
theorem Qu (n:Nat) (f:Bu (ak:=ak) n):Bu (ak:=ak) (n+1):=by
 intro X Y Z   r b H;rw [l6] at b;refine AC.oW 69 [.tmp 6] Tryz.call197 Tryz.func197 ?_;refine af (S BX (S BX (S BX (S As (nil ?_)))));refine ay fun l g=>?_;refine af (S Ld ?_);obtain⟨I,m,b⟩:=vT (o3 _) b;refine Sc rfl rfl (o4 m) ?_;refine nil ?_;refine cE b (fun o b=>?_) (fun o b=>?_)
 ·refine ag.bY (Sd Ld ?_);obtain⟨J,p,b⟩:=vT (o3 _) b;refine cq rfl rfl (o4 p) ?_;refine Sd Mv (b_ Ld (b_ Ld ?_));obtain⟨K,q,b⟩:=dx (uU _) b;refine qs 17 rfl rfl rfl rfl rfl (fun hC=>uV (q hC)) ?_;refine b_ Ld ?_;obtain⟨L,s,b⟩:=dx (uU _) b;refine qs 19 rfl rfl rfl rfl rfl (fun hC=>uV (s hC)) ?_;obtain⟨M,t,b⟩:=dx rfl b;refine au.gC rfl rfl (fun hC=>aG (k:=16) rfl (aG (k:=18) rfl (aG (k:=20) rfl (en rfl rfl (fun H=>f (t hC) H))))) rfl ?_
  refine Sd PA (Sd As ?_);refine au.nil (by decide +kernel) ?_;exact rt b
 refine sk g ?_;clear g l;refine ay fun u i=>?_;refine af (S Ld ?_);obtain⟨N,v,b⟩:=vT (o3 _) b;refine Sc rfl rfl (o4 v) ?_;refine nil ?_;refine cE b (fun w b=>?_) (fun w b=>?_)
 ·refine ag.bY (Sd Ld (Sd Ld ?_));obtain⟨O,x,b⟩:=qT (uU _) b;refine cq rfl rfl (uV x) ?_;refine Sd Ld ?_;obtain⟨P,y,b⟩:=qT rfl b;refine cq rfl rfl (f y) ?_;refine Sd As ?_;refine au.nil (by decide +kernel) ?_;exact rt b
 refine sk i ?_;clear i u;refine af (S Ld ?_);obtain⟨Q,z,b⟩:=qT (Bn _) b;refine Sc rfl rfl (Bo z) ?_;refine S Mv (S EX (S EX ?_));refine Sl ?_;refine Sf ?_;refine S As (nil ?_);refine bu 7 _ rfl (KA 3 (KA 4 (KA 5 (KA 8 aS.nil)))) ?_;refine af (S Ld ?_);obtain⟨R,B,b⟩:=qT (Bn _) b;refine Sc rfl rfl (Bo B) ?_;refine S Mv (S EX (S EX ?_));refine Sl ?_
 refine Sf ?_;refine S As (nil ?_);refine bu 9 _ rfl (KA 3 (KA 4 (KA 5 (KA 7 (KA 8 (KA 10 aS.nil)))))) ?_;refine ay fun C j=>?_;refine af (S Mv (S Mv (G0 Mv (S PA (nil ?_)))));refine cE b (fun E b=>?_) (fun E b=>?_)
 ·refine af (S Ld (S Ld (S Ld ?_)));obtain⟨U,F,b⟩:=qT rfl b;refine Sc rfl rfl (f F) ?_;refine S As (nil ?_);exact rt b
 refine sk j ?_;clear j C;refine af (S Mv (S NB (S Mv (G0 Mv ?_))));refine G1 51 rfl NB ?_;refine S PA (S Mv (G0 Fv ?_));refine G1 55 rfl Ld ?_;refine G0 Fv ?_;refine G1 57 rfl Ld ?_;refine G2 56 58 rfl rfl BS ?_;refine G1 59 rfl Mv ?_;refine G0 Ld (G0 Fv ?_);refine G1 62 rfl Ld ?_;refine G0 Fv ?_;refine G1 64 rfl Ld ?_;obtain⟨W,G,b⟩:=dx (Qr _ _ _) b;refine gC rfl rfl (fun hC=>aG (k:=61) rfl (aG (k:=63) rfl (aG (k:=65) rfl (en rfl rfl (fun H=>Qt (G hC) H))))) rfl ?_
 refine gC rfl rfl (fun hC=>aG (k:=60) rfl (qk rfl rfl rfl)) rfl ?_;refine S PA (S As (nil ?_));exact rt b
theorem HV:∀(n:Nat),(Bu (ak:=ak) n)
 | 0=>fun b=>by first|cases b|(rw [l6] at b; cases b)
 | n+1=>Qu n (HV n)
def HW (b:aq) (f:az) (g:az):Option Bool:=l6 F0 b f g
theorem Qv {b:aq}{f g:az}{r:Bool}(i:HW b f g=some r) (H:ah) :AC Tryz.prog 197 [.agg (aq.c b),.agg (az.c f),.agg (az.c g)] H fun v h'=>v=.a (.d (.bool r))/\h'=H:=(HV F0) i H 
def Bv (b:aq) (f:az) (g:az):Option Bool:=l6 F0 b f g
theorem Qw (a0:aq) (a1:az) (a2:az):HW a0 a1 a2=Bv a0 a1 a2:=rfl
def ko (i:Bs) (j:(Z6×Bool)):List Z8->(Sl Z5)->Option ((Sl Z5))
 | [],b=>some b
 | g::k,b=>on (g) fun l=>on (iI j.1.aO l.ai) fun f=>on (bif !(!f.2) then g else Z8.zero) fun m=>aN (!(!f.2)) (lZ f.1.aJ m.aJ) false fun o=>Option.bind (bif ((!f.2)||(!o)) then((cR i ([40]:Bs)).bind fun p=>on (g) fun q=>(cR p q.ai).bind fun r=>(cR r ([41]:Bs)).bind fun s=>(aZ 24 b (⟨false,[(Z5.mk (22:Int) s)]⟩:Sl Z5)).bind fun t=>some t) else(some b)) fun u=>ko i j (k) u
def jA (k:Z6) (i:Bs):List Z8->(Sl Z5)->Option ((Sl Z5))
 | [],b=>some b
 | f::l,b=>on (f) fun m=>on (iI k.aO m.ai) fun g=>on (bif (!g.2) then f else Z8.zero) fun o=>on (bif (!g.2) then fh o.aJ else false) fun j=>on (bif ((!g.2)&&j) then f else Z8.zero) fun p=>Option.bind (bif (((!g.2)&&j)&&(!p.c_)) then((cR i ([40]:Bs)).bind fun q=>on (f) fun r=>(cR q r.ai).bind fun s=>(cR s ([41]:Bs)).bind fun t=>(aZ 24 b (⟨false,[(Z5.mk (22:Int) t)]⟩:Sl Z5)).bind fun u=>some u) else(some b)) fun v=>jA k i (l) v
def sP (t:aq) (i:ax) (b:Z6):Option (Sl Z5):=(cR i.ai ([46]:Bs)).bind fun j=>(cR j b.ai).bind fun f=>on (gm i b.ai) fun g=>bif (!g.2) then(some (⟨false,[(Z5.mk (20:Int) f)]⟩:Sl Z5)) else((Bv t g.1.aJ b.aJ).bind fun k=>Option.bind (bif (!k) then((aZ 24 (Sl.nil:Sl Z5) (⟨false,[(Z5.mk (10:Int) f)]⟩:Sl Z5)).bind fun m=>some m) else(some (Sl.nil:Sl Z5))) fun o=>Option.bind (ko f g b.aO.l o) fun p=>on (p) fun q=>Option.bind (jA b f g.1.aO.l q) fun r=>on (r) fun s=>some s)
def Bw (b:aq) (f:ax) (g:Z6):Option (Sl Z5):=sP b f g
theorem Qx (a0:aq) (a1:ax) (a2:Z6):Bw a0 a1 a2=sP a0 a1 a2:=rfl
theorem Qy {X:aq}{Y:ax}{i:Z6}{r:Sl Z5}(b:Bw X Y i=some r) (H:ah) :AC Tryz.prog 157 [.agg (aq.c X),.agg (ax.c Y),.agg (Z6.c i)] H fun v h'=>v=.a (.d (Sl.d 2 Z5.c none r))/\h'=H:=by
 unfold Bw sP at b;refine AC.oW 148 [.tmp 6] Tryz.call157 Tryz.func157 ?_;refine ag.tok 2 fun g w=>?_;refine af (S BX (S BX (S BX ?_)));refine s0 (fK (k':=2) rfl) rfl ?_;refine nil ?_;refine af (S Fv (S Ld ?_));obtain⟨a6,Z,b⟩:=qT rfl b;refine s0 (ez rfl rfl Z) rfl ?_;refine S Fv (S Ld ?_);obtain⟨m,aa,b⟩:=qT rfl b;refine s0 (ez rfl rfl aa) rfl ?_;refine S As (nil ?_)
 refine af (S Ld (S Fv (S Ld ?_)));obtain⟨j,ab,b⟩:=vT (A8 _ _) b;refine Sc rfl rfl (A9 ab) ?_;refine S Mv (S EX (S EX ?_));refine Sl ?_;refine Sf ?_;refine S As (nil ?_);refine bu 8 _ rfl (KA 3 (KA 5 (KA 7 (KA 9 aS.nil)))) ?_;refine ay fun ad I=>?_;refine af (S Mv (S NB (nil ?_)));refine cE b (fun ae b=>?_) (fun ae b=>?_)
 ·refine af (S Mv (S BU (S BV (S As (nil ?_)))));refine ag.ret ?_;repeat (first|refine bK ?_|refine bL ?_)
  obtain rfl:=oJ b;refine bz.bJ H rfl ⟨rfl,rfl⟩ ?_
  first|exact ah.cG w|(simp only [ah.set_set]; exact ah.cG w)
 refine sk I ?_;clear I ad;refine af (S As (nil ?_));refine ag.fU 10 2 g rfl aI ?_;refine aT (TA 5 (TA 7 (TA 8 kN))) (fun(z:(Sl Z5))=>[(10,.a (.d (Sl.d 2 Z5.c (some g) z)))]) (fun z=>(H.set g (some (.tok 2 z.l.length)))) (fun z=>(Option.bind (ko m j i.aO.l z) fun q=>on (q) fun B=>Option.bind (jA i m j.1.aO.l B) fun o=>on (o) fun x=>some x)=some r) ?_ ?_
 ·intro a7 J;refine af (S Ld (S Fv (S Ld (S Fv (S Ld ?_)))));obtain⟨a8,ai,b⟩:=qT (Qw _ _ _) b;refine Sc rfl rfl (Qv ai) ?_;refine S NB (nil ?_);obtain⟨a9,K,b⟩:=cB b;refine cO b (fun aj b=>?_) (fun aj b=>?_)
  ·refine region ?_;refine S Mv (S Mv (S BU (S BV ?_)));obtain⟨L,ak,b⟩:=qO rfl b;refine SH (am Z5.c (TK rfl) rfl (TK rfl) (TK rfl) ak) ?_;refine hq (H.set g (some (.tok 2 L.l.length))) ?_;refine S As (nil ?_);have b:=ku K b;exact J _ L wA b
  refine ag.skip ?_;have b:=ku K b;exact J _ (Sl.nil:Sl Z5) wA b
 rintro al b;try dsimp only at b
 refine aT (TA 5 (TA 7 (TA 8 kN))) (fun(z:(Sl Z5))=>[(10,.a (.d (Sl.d 2 Z5.c (some g) z)))]) (fun z=>(H.set g (some (.tok 2 z.l.length)))) (fun z=>(Option.bind (jA i m j.1.aO.l z) fun o=>on (o) fun x=>some x)=some r) ?_ ?_
 ·intro a_ an;refine af (S As (nil ?_));refine block ?_;obtain⟨C,ao,b⟩:=cB b;refine bx (TA 5 (TA 7 (TA 8 kN))) (fun(z:(Sl Z5)×Nat)=>[(10,.a (.d (Sl.d 2 Z5.c (some g) z.1))),(11,.a (.d (.int .i64 ((z.2:Nat):Int))))]) (fun z=>(H.set g (some (.tok 2 z.1.l.length)))) (fun z=>i.aO.l.length-z.2) (fun z=>Option.bind (ko m j (i.aO.l.drop z.2) z.1) C=some r) (al,0) b wA ?_
  rintro ⟨q,t⟩ b a' ap;try dsimp only at b
  refine ay fun av M=>?_;refine af (S Mv (S Fv (S Ld ?_)));refine sLen (f:=Z8.c) (s:=i.aO) (TK rfl) rfl rfl rfl rfl fun ba=>?_;refine S BI (nil ?_);refine ag.cA (fun l=>Option.bind (ko m j l q) C=some r) b rfl (fun bb y E b=>?_) (fun E b=>?_)
  ·rw [ko] at b;try dsimp only at E
   have bc:=oD E;refine sk M ?_;clear M av;refine aT (TA 5 (TA 7 (TA 8 (TA 11 kN)))) (fun(z:(Sl Z5))=>[(10,.a (.d (Sl.d 2 Z5.c (some g) z)))]) (fun z=>(H.set g (some (.tok 2 z.l.length)))) (fun z=>Option.bind (ko m j (i.aO.l.drop (t+1)) z) C=some r) ?_ ?_
   ·intro bd N;refine block ?_;refine ag.bY (Sd Fv (Sd Ld (Sd Fv (Sd Ld (Sd Mv ?_)))));obtain⟨be,aw,b⟩:=vO y b;refine Sd (ix Z8.c t aw) (Sd Fv (Sd Ld ?_));obtain⟨bf,az,b⟩:=vO (xA _ _) b;refine cq rfl rfl (xB az) ?_;refine Sd Mv (Sd EX (Sd EX ?_));refine au.sB (TK rfl) rfl rfl ?_ (by repeat (first|exact bA.nil|apply bA.cons));refine au.dh (dH (TK rfl) rfl rfl rfl rfl rfl) ?_
    refine Sd As ?_;refine au.nil (by decide +kernel) ?_;refine bu 12 _ rfl (KA 5 (KA 7 (KA 8 (KA 10 (KA 11 (KA 13 aS.nil)))))) ?_;refine ag.bY (Sd Mv (Sd NB (Sd Mv (b_ Fv ?_))));refine cm 69 rfl Ld ?_;refine b_ Fv ?_;refine cm 71 rfl Ld ?_;refine b_ Mv ?_;obtain⟨bg,aA,b⟩:=fc (fun _=>y) b;refine au.gC rfl rfl (fun hC=>aG (k:=72) rfl (aG (k:=73) rfl (eR (f:=Z8.c) (n:=t) (TK rfl) rfl (TK rfl) rfl rfl rfl (aA hC)))) rfl ?_
    refine cm 74 rfl Fv ?_;refine cm 75 rfl Ld ?_;obtain⟨bh,aB,b⟩:=eA (Bh _ _) b;refine oA 70 76 rfl rfl rfl rfl rfl rfl (fun hC=>xD (aB hC)) ?_;refine cm 77 rfl NB ?_;refine Sd PO ?_;refine au.nil (by decide +kernel) ?_;obtain⟨bi,O,b⟩:=gE b;refine cO b (fun aC b=>?_) (fun aC b=>?_)
    ·refine region ?_;refine S Mv (S Mv ?_);obtain⟨bj,aD,b⟩:=qO rfl b;refine s0 (ez rfl rfl aD) rfl ?_;refine S Fv (S Ld (S Mv ?_));obtain⟨bk,aE,b⟩:=vO y b;refine S (ix Z8.c t aE) (S Fv (S Ld ?_));obtain⟨bl,aF,b⟩:=qO rfl b;refine s0 (ez rfl rfl aF) rfl ?_;obtain⟨bm,aH,b⟩:=qO rfl b;refine s0 (ez rfl rfl aH) rfl ?_;refine S BU (S BV ?_);obtain⟨P,aJ,b⟩:=qO rfl b
     refine SH (am Z5.c (TK rfl) rfl (TK rfl) (TK rfl) aJ) ?_;refine hq (H.set g (some (.tok 2 P.l.length))) ?_;refine S As (nil ?_);have b:=ku O b;exact N _ P wA b
    refine ag.skip ?_;have b:=ku O b;exact N _ q wA b
   rintro aK b;try dsimp only at b
   refine region ?_;refine S Mv ?_;refine SI ?_;refine S As (nil ?_);exact ap _ (aK,(t+1)) wA b (dl y)
  rw [ko] at b;have b:=ku ao b;refine ag.exit ?_;obtain⟨bn,aL,b⟩:=bW b;have b:=ku aL b;exact an _ q wA b
 rintro B b;try dsimp only at b
 refine aT kN (fun(z:(Sl Z5))=>[(10,.a (.d (Sl.d 2 Z5.c (some g) z)))]) (fun z=>(H.set g (some (.tok 2 z.l.length)))) (fun z=>(some z)=some r) ?_ ?_
 ·intro bo aM;refine af (S As (nil ?_));refine block ?_;obtain⟨F,aN,b⟩:=cB b;refine bx (TA 5 (TA 7 (TA 8 kN))) (fun(z:(Sl Z5)×Nat)=>[(10,.a (.d (Sl.d 2 Z5.c (some g) z.1))),(14,.a (.d (.int .i64 ((z.2:Nat):Int))))]) (fun z=>(H.set g (some (.tok 2 z.1.l.length)))) (fun z=>j.1.aO.l.length-z.2) (fun z=>Option.bind (jA i m (j.1.aO.l.drop z.2) z.1) F=some r) (B,0) b wA ?_
  rintro ⟨o,p⟩ b bp aP;try dsimp only at b
  refine ay fun aQ Q=>?_;refine af (S Mv (S Fv (S Ld ?_)));refine sLen (f:=Z8.c) (s:=j.1.aO) (TK rfl) rfl rfl rfl rfl fun bq=>?_;refine S BI (nil ?_);refine ag.cA (fun l=>Option.bind (jA i m l o) F=some r) b rfl (fun br u G b=>?_) (fun G b=>?_)
  ·rw [jA] at b;try dsimp only at G
   have bs:=oD G;refine sk Q ?_;clear Q aQ;refine aT (TA 5 (TA 7 (TA 8 (TA 14 kN)))) (fun(z:(Sl Z5))=>[(10,.a (.d (Sl.d 2 Z5.c (some g) z)))]) (fun z=>(H.set g (some (.tok 2 z.l.length)))) (fun z=>Option.bind (jA i m (j.1.aO.l.drop (p+1)) z) F=some r) ?_ ?_
   ·intro bt R;refine block ?_;refine ag.bY (Sd Fv (Sd Ld (Sd Fv (Sd Ld (Sd Mv ?_)))));obtain⟨bv,aR,b⟩:=vO u b;refine Sd (ix Z8.c p aR) (Sd Fv (Sd Ld ?_));obtain⟨bw,aU,b⟩:=vO (xA _ _) b;refine cq rfl rfl (xB aU) ?_;refine Sd Mv (Sd EX (Sd EX ?_));refine au.sB (TK rfl) rfl rfl ?_ (by repeat (first|exact bA.nil|apply bA.cons));refine au.dh (dH (TK rfl) rfl rfl rfl rfl rfl) ?_
    refine Sd As ?_;refine au.nil (by decide +kernel) ?_;refine bu 15 _ rfl (KA 5 (KA 7 (KA 8 (KA 10 (KA 14 (KA 16 aS.nil)))))) ?_;refine af (S Mv (S NB (S Mv (G0 Fv ?_))));refine G1 116 rfl Ld ?_;refine G0 Mv ?_;obtain⟨bB,aV,b⟩:=fc (fun _=>u) b;refine gC rfl rfl (fun hC=>aG (k:=117) rfl (aG (k:=118) rfl (eR (f:=Z8.c) (n:=p) (TK rfl) rfl (TK rfl) rfl rfl rfl (aV hC)))) rfl ?_
    refine G1 119 rfl Fv ?_;refine G1 120 rfl Ld ?_;obtain⟨bC,aW,b⟩:=fc (fun _=>(o3 _)) b;refine dA 121 rfl rfl rfl rfl rfl (fun hC=>o4 (aW hC)) ?_;refine S PA (S Mv (G0 Fv ?_));refine G1 125 rfl Ld ?_;refine G0 Mv ?_;obtain⟨bD,aX,b⟩:=fc (fun _=>u) b;refine gC rfl rfl (fun hC=>aG (k:=126) rfl (aG (k:=127) rfl (eR (f:=Z8.c) (n:=p) (TK rfl) rfl (TK rfl) rfl rfl rfl (aX hC)))) rfl ?_
    refine G1 128 rfl Fv ?_;refine G1 129 rfl Ld ?_;refine G1 130 rfl NB ?_;refine S PA (nil ?_);obtain⟨bE,U,b⟩:=gE b;refine cO b (fun aY b=>?_) (fun aY b=>?_)
    ·refine region ?_;refine S Mv (S Mv ?_);obtain⟨bF,aZ,b⟩:=qO rfl b;refine s0 (ez rfl rfl aZ) rfl ?_;refine S Fv (S Ld (S Mv ?_));obtain⟨bG,a0,b⟩:=vO u b;refine S (ix Z8.c p a0) (S Fv (S Ld ?_));obtain⟨bH,a1,b⟩:=qO rfl b;refine s0 (ez rfl rfl a1) rfl ?_;obtain⟨bI,a2,b⟩:=qO rfl b;refine s0 (ez rfl rfl a2) rfl ?_;refine S BU (S BV ?_);obtain⟨W,a3,b⟩:=qO rfl b
     refine SH (am Z5.c (TK rfl) rfl (TK rfl) (TK rfl) a3) ?_;refine hq (H.set g (some (.tok 2 W.l.length))) ?_;refine S As (nil ?_);have b:=ku U b;exact R _ W wA b
    refine ag.skip ?_;have b:=ku U b;exact R _ o wA b
   rintro a4 b;try dsimp only at b
   refine region ?_;refine S Mv ?_;refine SI ?_;refine S As (nil ?_);exact aP _ (a4,(p+1)) wA b (dl u)
  rw [jA] at b;have b:=ku aN b;refine ag.exit ?_;obtain⟨bM,a5,b⟩:=bW b;have b:=ku a5 b;exact aM _ o wA b
 rintro x b;try dsimp only at b
 refine af (S Mv (S As (nil ?_)));refine ag.gb 6 rfl ?_;refine ag.ret ?_;repeat (first|refine bK ?_|refine bL ?_)
 obtain rfl:=oJ b;refine bz.bJ H rfl ⟨rfl,rfl⟩ ?_
 first|exact ah.cG w|(simp only [ah.set_set]; exact ah.cG w)
def l7 (f:aq) (g:ax):List Z6->(Sl Z5)->Option ((Sl Z5))
 | [],b=>some b
 | i::j,b=>on (i) fun k=>(sP f g k).bind fun l=>(aZ 24 b l).bind fun m=>l7 f g (j) m
def kq (i:aq) (f:ax):List Bs->Nat->(Sl Z5)->Option ((Sl Z5))
 | [],j,g=>some g
 | k::o,j,g=>on (k) fun p=>on (uT i p (2:Int)) fun b=>on (bif (decide (b=(0:Int))) then(⟨f.bU.nl,f.bU.l.take j⟩:Sl Bs) else(Sl.nil:Sl Bs)) fun q=>on (bif (decide (b=(0:Int))) then k else([]:Bs)) fun r=>on (bif (decide (b=(0:Int))) then iT q r else false) fun s=>on (bif ((decide (b=(0:Int)))&&s) then((7:Int)) else(b)) fun m=>Option.bind (bif (!decide (m=(0:Int))) then((aZ 24 g (⟨false,[(Z5.mk m f.ai)]⟩:Sl Z5)).bind fun t=>some t) else(on (k) fun u=>on (cU i u) fun v=>Option.bind (l7 i f v.1.bC.l g) fun w=>some w)) fun x=>kq i f (o) (j+1) x
def qI (i:aq) (b:ax):Option (Sl Z5):=Option.bind (kq i b b.bU.l 0 (Sl.nil:Sl Z5)) fun f=>on (f) fun g=>some g
def Bx (b:aq) (f:ax):Option (Sl Z5):=qI b f
theorem Qz (a0:aq) (a1:ax):Bx a0 a1=qI a0 a1:=rfl
theorem QA {m:aq}{g:ax}{r:Sl Z5}(b:Bx m g=some r) (H:ah) :AC Tryz.prog 100 [.agg (aq.c m),.agg (ax.c g)] H fun v h'=>v=.a (.d (Sl.d 2 Z5.c none r))/\h'=H:=by
 unfold Bx qI at b;refine AC.oW 76 [.tmp 4] Tryz.call100 Tryz.func100 ?_;refine ag.tok 2 fun i C=>?_;refine af (S BX (S BX ?_));refine s0 (fK (k':=2) rfl) rfl ?_;refine nil ?_;refine af (S As (nil ?_));refine ag.fU 5 2 i rfl aI ?_;refine aT kN (fun(z:(Sl Z5))=>[(5,.a (.d (Sl.d 2 Z5.c (some i) z)))]) (fun z=>(H.set i (some (.tok 2 z.l.length)))) (fun z=>(some z)=some r) ?_ ?_
 ·intro aK W;refine af (S As (nil ?_));refine block ?_;obtain⟨q,X,b⟩:=cB b;refine bx (TA 2 (TA 3 kN)) (fun(z:(Sl Z5)×Nat)=>[(5,.a (.d (Sl.d 2 Z5.c (some i) z.1))),(6,.a (.d (.int .i64 ((z.2:Nat):Int))))]) (fun z=>(H.set i (some (.tok 2 z.1.l.length)))) (fun z=>g.bU.l.length-z.2) (fun z=>Option.bind (kq m g (g.bU.l.drop z.2) z.2 z.1) q=some r) ((Sl.nil:Sl Z5),0) b wA ?_
  rintro ⟨o,j⟩ b aL Y;try dsimp only at b
  refine ay fun Z E=>?_;refine af (S Mv (S Fv (S Ld ?_)));refine sLen (f:=aP) (s:=g.bU) (TK rfl) rfl rfl rfl rfl fun aM=>?_;refine S BI (nil ?_);refine ag.cA (fun l=>Option.bind (kq m g l j o) q=some r) b rfl (fun aa t x b=>?_) (fun x b=>?_)
  ·rw [kq] at b;try dsimp only at x
   have aN:=oD x;refine sk E ?_;clear E Z;refine aT (TA 2 (TA 3 (TA 6 kN))) (fun(z:(Sl Z5))=>[(5,.a (.d (Sl.d 2 Z5.c (some i) z)))]) (fun z=>(H.set i (some (.tok 2 z.l.length)))) (fun z=>Option.bind (kq m g (g.bU.l.drop (j+1)) (j+1) z) q=some r) ?_ ?_
   ·intro aO F;refine block ?_;refine ag.bY (Sd Ld (Sd Fv (Sd Ld (Sd Mv ?_))));obtain⟨aQ,ab,b⟩:=vO t b;refine Sd (ix aP j ab) (Sd Ld ?_);obtain⟨ad,ae,b⟩:=vO (HK _ _ _) b;refine cq rfl rfl (HM ae) ?_;refine Sd As ?_;refine au.nil (by decide +kernel) ?_;refine aT (TA 2 (TA 3 (TA 5 (TA 6 kN)))) (fun(z:Int)=>[(7,.a (.d (.int .i64 z)))]) (fun z=>(H.set i (some (.tok 2 o.l.length)))) (fun z=>Option.bind (Option.bind (bif (!decide (z=(0:Int))) then((aZ 24 o (⟨false,[(Z5.mk z g.ai)]⟩:Sl Z5)).bind fun u=>some u) else(on (aa) fun G=>on (cU m G) fun p=>Option.bind (l7 m g p.1.bC.l o) fun w=>some w)) fun y=>kq m g (g.bU.l.drop (j+1)) (j+1) y) q=some r) ?_ ?_
    ·intro aR I;refine ag.bY (Sd Mv (Sd BI (Sd Mv (b_ Fv ?_))));refine cm 28 rfl Ld ?_;refine b_ Mv ?_;obtain⟨aU,aj,b⟩:=fc (fun _=>(Q.qq (by omega))) b;refine au.gC rfl rfl (fun hC=>aG (k:=29) rfl (aG (k:=30) rfl (lJ (f:=aP) (l:=none) (r:=(some ((j:Nat):Int))) (TK rfl) rfl (TK rfl) rfl rfl trivial rfl (aj hC)))) rfl ?_;refine b_ Fv ?_;refine cm 32 rfl Ld ?_
     refine b_ Mv ?_;obtain⟨aV,ak,b⟩:=fc (fun _=>t) b;refine au.gC rfl rfl (fun hC=>aG (k:=33) rfl (aG (k:=34) rfl (eR (f:=aP) (n:=j) (TK rfl) rfl (TK rfl) rfl rfl rfl (ak hC)))) rfl ?_;refine cm 35 rfl Ld ?_;obtain⟨aW,al,b⟩:=fc (fun _=>(Bd _ _)) b;refine oA 31 36 rfl rfl rfl rfl rfl rfl (fun hC=>Be (al hC)) ?_;refine Sd PA ?_;refine au.nil (by decide +kernel) ?_
     obtain⟨aX,J,b⟩:=jR b;refine cP b (fun an b=>?_) (fun an b=>?_)
     ·refine region ?_;refine S As (nil ?_);have b:=ku J b;exact I _ (7:Int) wA b
     refine ag.skip ?_;have b:=ku J b;exact I _ ad wA b
    rintro aY b;try dsimp only at b
    refine ay fun ao K=>?_;refine af (S Mv (S BI (nil ?_)));obtain⟨a0,L,b⟩:=gE b;refine cO b (fun ap b=>?_) (fun ap b=>?_)
    ·refine af (S Mv (S Mv (S Fv (S Ld (S BU (S BV ?_))))));obtain⟨u,av,b⟩:=qO rfl b;refine SH (am Z5.c (TK rfl) rfl (TK rfl) (TK rfl) av) ?_;refine hq (H.set i (some (.tok 2 u.l.length))) ?_;refine S As (nil ?_);refine ag.exit ?_;have b:=ku L b;exact F _ u wA b
    refine sk K ?_;clear K ao;refine ag.bY (Sd Ld (Sd Fv (Sd Ld (Sd Mv ?_))));obtain⟨G,aw,b⟩:=vO t b;refine Sd (ix aP j aw) (Sd Ld ?_);obtain⟨p,az,b⟩:=vO (jv _ _) b;refine cq rfl rfl (jw az) ?_;refine Sd Mv (Sd EX (Sd EX ?_));refine au.sB (TK rfl) rfl rfl ?_ (by repeat (first|exact bA.nil|apply bA.cons));refine au.dh (dH (TK rfl) rfl rfl rfl rfl rfl) ?_
    refine Sd As ?_;refine au.nil (by decide +kernel) ?_;refine bu 8 _ rfl (KA 2 (KA 3 (KA 5 (KA 6 aS.nil)))) ?_;refine af (S As (nil ?_));refine block ?_;obtain⟨M,aA,b⟩:=gE b;refine bx (TA 2 (TA 3 (TA 6 (TA 8 kN)))) (fun(z:(Sl Z5)×Nat)=>[(5,.a (.d (Sl.d 2 Z5.c (some i) z.1))),(10,.a (.d (.int .i64 ((z.2:Nat):Int))))]) (fun z=>(H.set i (some (.tok 2 z.1.l.length)))) (fun z=>p.1.bC.l.length-z.2) (fun z=>Option.bind (l7 m g (p.1.bC.l.drop z.2) z.1) M=some r) (o,0) b wA ?_
    rintro ⟨w,N⟩ b a1 aB;try dsimp only at b
    refine ay fun aC O=>?_;refine af (S Mv (S Fv (S Ld ?_)));refine sLen (f:=Z6.c) (s:=p.1.bC) (TK rfl) rfl rfl rfl rfl fun a2=>?_;refine S BI (nil ?_);refine ag.cA (fun l=>Option.bind (l7 m g l w) M=some r) b rfl (fun a3 P B b=>?_) (fun B b=>?_)
    ·rw [l7] at b;try dsimp only at B
     have a4:=oD B;refine sk O ?_;clear O aC;refine ay fun aD R=>?_;refine block ?_;refine ag.draw rfl ?_;refine Sd Mv (Sd Ld (Sd Ld (Sd Fv (Sd Ld (Sd Mv ?_)))));obtain⟨a5,aE,b⟩:=vO P b;refine Sd (ix Z6.c N aE) (Sd Ld ?_);obtain⟨a6,aF,b⟩:=qO (Qx _ _ _) b;refine cq rfl rfl (Qy aF) ?_;obtain⟨U,aH,b⟩:=qO rfl b;refine au.sH (qj (f:=Z5.c) (TK rfl) rfl (TK rfl) (TK rfl) ⟨_,rfl⟩ rfl rfl (by decide) rfl rfl rfl rfl aI rfl aH) rfl ?_
     refine au.Dh (H.set i (some (.tok 2 U.l.length))) ?_;refine Sd As ?_;refine au.nil (by decide +kernel) ?_;refine R _ ?_;clear R aD;refine region ?_;refine S Mv ?_;refine SI ?_;refine S As (nil ?_);exact aB _ (U,(N+1)) wA b (dl P)
    rw [l7] at b;have b:=ku aA b;refine ag.exit ?_;have b:=ku L b;exact F _ w wA b
   rintro y b;try dsimp only at b
   refine region ?_;refine S Mv ?_;refine SI ?_;refine S As (nil ?_);exact Y _ (y,(j+1)) wA b (dl t)
  rw [kq] at b;have b:=ku X b;refine ag.exit ?_;obtain⟨a7,aJ,b⟩:=bW b;have b:=ku aJ b;exact W _ o wA b
 rintro a8 b;try dsimp only at b
 refine af (S Mv (S As (nil ?_)));refine ag.gb 4 rfl ?_;refine ag.ret ?_;repeat (first|refine bK ?_|refine bL ?_)
 obtain rfl:=oJ b;refine bz.bJ H rfl ⟨rfl,rfl⟩ ?_
 first|exact ah.cG C|(simp only [ah.set_set]; exact ah.cG C)
def kr (m:aq) (g:ax):List Z9->Nat->(Sl Z5)->Option ((Sl Z5))
 | [],i,b=>some b
 | o::p,i,b=>on (o) fun j=>on (uT m j.ai (1:Int)) fun f=>on (bif (decide (f=(0:Int))) then(⟨g.bI.nl,g.bI.l.take i⟩:Sl Z9) else(Sl.nil:Sl Z9)) fun q=>on (bif (decide (f=(0:Int))) then l5 (ax.mk (0:Int) ([]:Bs) (Sl.nil:Sl Bs) (Sl.nil:Sl aL) (Sl.nil:Sl Z6) q (Sl.nil:Sl Z8)) j.ai else false) fun r=>on (bif ((decide (f=(0:Int)))&&r) then((7:Int)) else(f)) fun k=>Option.bind (bif (!decide (k=(0:Int))) then((cR g.ai ([46]:Bs)).bind fun s=>(cR s j.ai).bind fun t=>(aZ 24 b (⟨false,[(Z5.mk k t)]⟩:Sl Z5)).bind fun u=>some u) else(some b)) fun v=>kr m g (p) (i+1) v
def qJ (i:aq) (b:ax):Option (Sl Z5):=Option.bind (kr i b b.bI.l 0 (Sl.nil:Sl Z5)) fun f=>on (f) fun g=>some g
def By (b:aq) (f:ax):Option (Sl Z5):=qJ b f
theorem QB (a0:aq) (a1:ax):By a0 a1=qJ a0 a1:=rfl
theorem QC {o:aq}{g:ax}{r:Sl Z5}(b:By o g=some r) (H:ah) :AC Tryz.prog 101 [.agg (aq.c o),.agg (ax.c g)] H fun v h'=>v=.a (.d (Sl.d 2 Z5.c none r))/\h'=H:=by
 unfold By qJ at b;refine AC.oW 49 [.tmp 4] Tryz.call101 Tryz.func101 ?_;refine ag.tok 2 fun i w=>?_;refine af (S BX (S BX ?_));refine s0 (fK (k':=2) rfl) rfl ?_;refine nil ?_;refine af (S As (nil ?_));refine ag.fU 5 2 i rfl aI ?_;refine aT kN (fun(z:(Sl Z5))=>[(5,.a (.d (Sl.d 2 Z5.c (some i) z)))]) (fun z=>(H.set i (some (.tok 2 z.l.length)))) (fun z=>(some z)=some r) ?_ ?_
 ·intro ae J;refine af (S As (nil ?_));refine block ?_;obtain⟨p,K,b⟩:=cB b;refine bx (TA 2 (TA 3 kN)) (fun(z:(Sl Z5)×Nat)=>[(5,.a (.d (Sl.d 2 Z5.c (some i) z.1))),(6,.a (.d (.int .i64 ((z.2:Nat):Int))))]) (fun z=>(H.set i (some (.tok 2 z.1.l.length)))) (fun z=>g.bI.l.length-z.2) (fun z=>Option.bind (kr o g (g.bI.l.drop z.2) z.2 z.1) p=some r) ((Sl.nil:Sl Z5),0) b wA ?_
  rintro ⟨m,j⟩ b aj L;try dsimp only at b
  refine ay fun M x=>?_;refine af (S Mv (S Fv (S Ld ?_)));refine sLen (f:=Z9.c) (s:=g.bI) (TK rfl) rfl rfl rfl rfl fun ak=>?_;refine S BI (nil ?_);refine ag.cA (fun l=>Option.bind (kr o g l j m) p=some r) b rfl (fun al y t b=>?_) (fun t b=>?_)
  ·rw [kr] at b;try dsimp only at t
   have an:=oD t;refine sk x ?_;clear x M;refine aT (TA 2 (TA 3 (TA 6 kN))) (fun(z:(Sl Z5))=>[(5,.a (.d (Sl.d 2 Z5.c (some i) z)))]) (fun z=>(H.set i (some (.tok 2 z.l.length)))) (fun z=>Option.bind (kr o g (g.bI.l.drop (j+1)) (j+1) z) p=some r) ?_ ?_
   ·intro ao B;refine block ?_;refine af (S Fv (S Ld (S Mv ?_)));obtain⟨N,O,b⟩:=vO y b;refine S (ix Z9.c j O) (S Fv (S Ld (S As (nil ?_))));refine af (S Ld (S Mv ?_));obtain⟨P,R,b⟩:=vO (HK _ _ _) b;refine Sc rfl rfl (HM R) ?_;refine S As (nil ?_);refine aT (TA 2 (TA 3 (TA 5 (TA 6 (TA 7 kN))))) (fun(z:Int)=>[(8,.a (.d (.int .i64 z)))]) (fun z=>(H.set i (some (.tok 2 m.l.length)))) (fun z=>Option.bind (Option.bind (bif (!decide (z=(0:Int))) then((cR g.ai ([46]:Bs)).bind fun C=>(cR C N.ai).bind fun E=>(aZ 24 m (⟨false,[(Z5.mk z E)]⟩:Sl Z5)).bind fun q=>some q) else(some m)) fun u=>kr o g (g.bI.l.drop (j+1)) (j+1) u) p=some r) ?_ ?_
    ·intro ap F;refine af (S Mv (S BI (S Mv (G0 Fv ?_))));refine G1 28 rfl Ld ?_;refine G0 Mv ?_;obtain⟨au,U,b⟩:=fc (fun _=>(Q.qq (by omega))) b;refine gC rfl rfl (fun hC=>aG (k:=29) rfl (aG (k:=30) rfl (lJ (f:=Z9.c) (l:=none) (r:=(some ((j:Nat):Int))) (TK rfl) rfl (TK rfl) rfl rfl trivial rfl (U hC)))) rfl ?_;refine G1 31 rfl BU ?_;refine G0 Mv ?_;obtain⟨av,W,b⟩:=fc (fun _=>(HR _ _)) b
     refine fI 32 33 rfl rfl rfl rfl rfl rfl (fun hC=>HS (W hC)) ?_;refine S PA (nil ?_);obtain⟨aw,G,b⟩:=jR b;refine cP b (fun X b=>?_) (fun X b=>?_)
     ·refine region ?_;refine S As (nil ?_);have b:=ku G b;exact F _ (7:Int) wA b
     refine ag.skip ?_;have b:=ku G b;exact F _ P wA b
    rintro az b;try dsimp only at b
    refine af (S Mv (S BI (nil ?_)));obtain⟨aA,I,b⟩:=gE b;refine cO b (fun Y b=>?_) (fun Y b=>?_)
    ·refine region ?_;refine S Mv (S Mv (S Fv (S Ld ?_)));obtain⟨C,Z,b⟩:=qO rfl b;refine s0 (ez rfl rfl Z) rfl ?_;refine S Mv ?_;obtain⟨E,aa,b⟩:=qO rfl b;refine s0 (ez rfl rfl aa) rfl ?_;refine S BU (S BV ?_);obtain⟨q,ab,b⟩:=qO rfl b;refine SH (am Z5.c (TK rfl) rfl (TK rfl) (TK rfl) ab) ?_;refine hq (H.set i (some (.tok 2 q.l.length))) ?_;refine S As (nil ?_);have b:=ku I b
     exact B _ q wA b
    refine ag.skip ?_;have b:=ku I b;exact B _ m wA b
   rintro u b;try dsimp only at b
   refine region ?_;refine S Mv ?_;refine SI ?_;refine S As (nil ?_);exact L _ (u,(j+1)) wA b (dl y)
  rw [kr] at b;have b:=ku K b;refine ag.exit ?_;obtain⟨aB,ad,b⟩:=bW b;have b:=ku ad b;exact J _ m wA b
 rintro aC b;try dsimp only at b
 refine af (S Mv (S As (nil ?_)));refine ag.gb 4 rfl ?_;refine ag.ret ?_;repeat (first|refine bK ?_|refine bL ?_)
 obtain rfl:=oJ b;refine bz.bJ H rfl ⟨rfl,rfl⟩ ?_
 first|exact ah.cG w|(simp only [ah.set_set]; exact ah.cG w)
def lq (g:aq):List ax->(Sl Z5)->Option ((Sl Z5))
 | [],b=>some b
 | f::j,b=>on (f) fun i=>Option.bind (bif (decide (i.an=(1:Int))) then(on (f) fun k=>(qI g k).bind fun l=>(aZ 24 b l).bind fun m=>some m) else(bif (decide (i.an=(3:Int))) then(on (f) fun o=>(qJ g o).bind fun p=>(aZ 24 b p).bind fun q=>some q) else(some b))) fun r=>lq g (j) r
def sQ (b:aq):Option (Sl Z5):=Option.bind (lq b b.aA.l (Sl.nil:Sl Z5)) fun f=>on (f) fun g=>some g
def Bz (b:aq):Option (Sl Z5):=sQ b
theorem QD (a0:aq):Bz a0=sQ a0:=rfl
theorem QE {i:aq}{r:Sl Z5}(b:Bz i=some r) (H:ah) :AC Tryz.prog 55 [.agg (aq.c i)] H fun v h'=>v=.a (.d (Sl.d 2 Z5.c none r))/\h'=H:=by
 unfold Bz sQ at b;refine AC.oW 41 [.tmp 2] Tryz.call55 Tryz.func55 ?_;refine ag.tok 2 fun g u=>?_;refine af (S BX ?_);refine s0 (fK (k':=2) rfl) rfl ?_;refine nil ?_;refine af (S As (nil ?_));refine ag.fU 3 2 g rfl aI ?_;refine aT kN (fun(z:(Sl Z5))=>[(3,.a (.d (Sl.d 2 Z5.c (some g) z)))]) (fun z=>(H.set g (some (.tok 2 z.l.length)))) (fun z=>(some z)=some r) ?_ ?_
 ·intro U B;refine af (S As (nil ?_));refine block ?_;obtain⟨m,C,b⟩:=cB b;refine bx (TA 1 kN) (fun(z:(Sl Z5)×Nat)=>[(3,.a (.d (Sl.d 2 Z5.c (some g) z.1))),(4,.a (.d (.int .i64 ((z.2:Nat):Int))))]) (fun z=>(H.set g (some (.tok 2 z.1.l.length)))) (fun z=>i.aA.l.length-z.2) (fun z=>Option.bind (lq i (i.aA.l.drop z.2) z.1) m=some r) ((Sl.nil:Sl Z5),0) b wA ?_
  rintro ⟨o,j⟩ b W E;try dsimp only at b
  refine ay fun F w=>?_;refine af (S Mv (S Fv (S Ld ?_)));refine sLen (f:=ax.c) (s:=i.aA) (TK rfl) rfl rfl rfl rfl fun X=>?_;refine S BI (nil ?_);refine ag.cA (fun l=>Option.bind (lq i l o) m=some r) b rfl (fun Y k p b=>?_) (fun p b=>?_)
  ·rw [lq] at b;try dsimp only at p
   have Z:=oD p;refine sk w ?_;clear w F;refine aT (TA 1 (TA 4 kN)) (fun(z:(Sl Z5))=>[(3,.a (.d (Sl.d 2 Z5.c (some g) z)))]) (fun z=>(H.set g (some (.tok 2 z.l.length)))) (fun z=>Option.bind (lq i (i.aA.l.drop (j+1)) z) m=some r) ?_ ?_
   ·intro aa q;refine block ?_;refine af (S Fv (S Ld (S Mv ?_)));obtain⟨ab,G,b⟩:=vO k b;refine S (ix ax.c j G) (S Fv (S Ld (nil ?_)));refine block ?_;refine af (S BI (S As (nil ?_)));obtain⟨ad,t,b⟩:=gE b;refine cO b (fun I b=>?_) (fun I b=>?_)
    ·refine ag.draw rfl ?_;refine Sd Mv (Sd Ld (Sd Fv (Sd Ld (Sd Mv ?_))));obtain⟨ae,J,b⟩:=vO k b;refine Sd (ix ax.c j J) (Sd Ld ?_);obtain⟨ai,K,b⟩:=qO (Qz _ _) b;refine cq rfl rfl (QA K) ?_;obtain⟨x,L,b⟩:=qO rfl b;refine au.sH (qj (f:=Z5.c) (TK rfl) rfl (TK rfl) (TK rfl) ⟨_,rfl⟩ rfl rfl (by decide) rfl rfl rfl rfl aI rfl L) rfl ?_;refine au.Dh (H.set g (some (.tok 2 x.l.length))) ?_
     refine Sd As ?_;refine au.nil (by decide +kernel) ?_;have b:=ku t b;exact q _ x wA b
    refine af (S BI (S As (nil ?_)));refine cO b (fun M b=>?_) (fun M b=>?_)
    ·refine ag.draw rfl ?_;refine Sd Mv (Sd Ld (Sd Fv (Sd Ld (Sd Mv ?_))));obtain⟨aj,N,b⟩:=vO k b;refine Sd (ix ax.c j N) (Sd Ld ?_);obtain⟨ak,O,b⟩:=qO (QB _ _) b;refine cq rfl rfl (QC O) ?_;obtain⟨y,P,b⟩:=qO rfl b;refine au.sH (qj (f:=Z5.c) (TK rfl) rfl (TK rfl) (TK rfl) ⟨_,rfl⟩ rfl rfl (by decide) rfl rfl rfl rfl aI rfl P) rfl ?_;refine au.Dh (H.set g (some (.tok 2 y.l.length))) ?_
     refine Sd As ?_;refine au.nil (by decide +kernel) ?_;have b:=ku t b;exact q _ y wA b
    refine ag.skip ?_;have b:=ku t b;exact q _ o wA b
   rintro Q b;try dsimp only at b
   refine region ?_;refine S Mv ?_;refine SI ?_;refine S As (nil ?_);exact E _ (Q,(j+1)) wA b (dl k)
  rw [lq] at b;have b:=ku C b;refine ag.exit ?_;obtain⟨al,R,b⟩:=bW b;have b:=ku R b;exact B _ o wA b
 rintro am b;try dsimp only at b
 refine af (S Mv (S As (nil ?_)));refine ag.gb 2 rfl ?_;refine ag.ret ?_;repeat (first|refine bK ?_|refine bL ?_)
 obtain rfl:=oJ b;refine bz.bJ H rfl ⟨rfl,rfl⟩ ?_
 first|exact ah.cG u|(simp only [ah.set_set]; exact ah.cG u)
def l8 (f:aa->Option aa):List aa->(Sl aa)->Option ((Sl aa))
 | [],b=>some b
 | g::i,b=>on (g) fun j=>(f j).bind fun k=>(aZ 80 b (⟨false,[k]⟩:Sl aa)).bind fun l=>l8 f (i) l
mutual
def iU:Nat->aa->Option aa
 | 0,_=>none
 | n+1,b=>((sS n) b.av).bind fun f=>(aZ 16 (⟨false,[]⟩:Sl Bs) b.aF).bind fun g=>some (aa.mk b.an b.aV b.aR f.nl f.l g)
def sS:Nat->(Sl aa)->Option (Sl aa)
 | 0,_=>none
 | n+1,g=>Option.bind (l8 (iU n) g.l (Sl.nil:Sl aa)) fun b=>on (b) fun f=>some f
end
def xE (n:Nat):Prop:=∀{a0:aa}   {r:aa},iU n a0=some r->∀(H:ah),AC Tryz.prog 255 [.agg (aa.c a0)] H fun v h'=>v=.a (.agg (aa.c r))/\h'=H
def xF (n:Nat):Prop:=∀{a0:(Sl aa)}{w0:Option Nat}  {r:(Sl aa)},sS n a0=some r->∀(H:ah),AC Tryz.prog 272 [.d (Sl.d 5 aa.c w0 a0)] H fun v h'=>v=.a (.d (Sl.d 5 aa.c none r))/\h'=H
theorem QG (n:Nat) (t:xE (ak:=ak) n) (k:xF (ak:=ak) n):xE (ak:=ak) (n+1):=by
 intro g   r b H;rw [iU] at b;refine AC.oW 17 [.cell 2 58] Tryz.call255 Tryz.func255 ?_;refine af (S BX ?_);refine Sl ?_;refine nil ?_;refine ag.bY (Sd Fv (Sd Ld (Sd Fv (Sd Ld (Sd Fv (Sd Ld (Sd Fv ?_)))))));refine au.s0 (bS (TK rfl) rfl rfl (congrArg (fun x=>some (A.d x)) (aa.dm _))) rfl ?_;obtain⟨i,m,b⟩:=qT rfl b;refine cq rfl rfl (k m) ?_;refine au.s0 (ov (TK rfl) rfl (TK rfl) rfl rfl rfl rfl rfl rfl) rfl ?_
 refine Sd Fv (Sd Ld ?_);obtain⟨o,p,b⟩:=qT rfl b;refine au.s0 (rR (f:=aP) (TK rfl) rfl (TK rfl) (TK rfl) ⟨_,rfl⟩ rfl rfl (by decide) rfl rfl rfl (by intro q h; cases h<;>decide) rfl rfl p) rfl ?_;refine Sd BU ?_;refine au.dh (dH (TK rfl) rfl rfl rfl rfl rfl) ?_;refine au.nil (by decide +kernel) ?_;refine ag.dc 0 (aa.c (aa.mk g.an g.aV g.aR i.nl i.l o)) rfl (fun j w cs hh s=>by rw [aa.fM]; exact s) ?_
 exact rt b
theorem QH (n:Nat) (w:xE (ak:=ak) n) (K:xF (ak:=ak) n):xF (ak:=ak) (n+1):=by
 intro j w0  r b H;rw [sS] at b;refine AC.oW 20 [.tmp 2] Tryz.call272 Tryz.func272 ?_;refine ag.tok 5 fun g k=>?_;refine af ?_;refine s0 (fK (k':=5) rfl) rfl ?_;refine nil ?_;refine af (S As (nil ?_));refine ag.fU 3 5 g rfl aI ?_;refine aT kN (fun(z:(Sl aa))=>[(3,.a (.d (Sl.d 5 aa.c (some g) z)))]) (fun z=>(H.set g (some (.tok 5 z.l.length)))) (fun z=>(some z)=some r) ?_ ?_
 ·intro L x;refine af (S As (nil ?_));refine block ?_;obtain⟨m,y,b⟩:=cB b;refine bx (TA 0 kN) (fun(z:(Sl aa)×Nat)=>[(3,.a (.d (Sl.d 5 aa.c (some g) z.1))),(4,.a (.d (.int .i64 ((z.2:Nat):Int))))]) (fun z=>(H.set g (some (.tok 5 z.1.l.length)))) (fun z=>j.l.length-z.2) (fun z=>Option.bind (l8 (iU n) (j.l.drop z.2) z.1) m=some r) ((Sl.nil:Sl aa),0) b wA ?_
  rintro ⟨o,p⟩ b M B;try dsimp only at b
  refine ay fun C q=>?_;refine af (S Mv (S Mv ?_));refine sLen (f:=aa.c) (s:=j) (TK rfl) rfl rfl rfl rfl fun N=>?_;refine S BI (nil ?_);refine ag.cA (fun l=>Option.bind (l8 (iU n) l o) m=some r) b rfl (fun O t i b=>?_) (fun i b=>?_)
  ·rw [l8] at b;try dsimp only at i
   have P:=oD i;refine sk q ?_;clear q C;refine ay fun E u=>?_;refine block ?_;refine region ?_;refine S Mv (S Mv (S Mv ?_));obtain⟨Q,F,b⟩:=vO t b;refine S (ix aa.c p F) (S Ld ?_);obtain⟨R,G,b⟩:=qO rfl b;refine Sc rfl rfl (w G) ?_;refine S BV ?_;obtain⟨v,I,b⟩:=qO rfl b;refine SH (am aa.c (TK rfl) rfl (TK rfl) (TK rfl) I) ?_
   refine hq (H.set g (some (.tok 5 v.l.length))) ?_;refine S As (nil ?_);refine u _ ?_;clear u E;refine region ?_;refine S Mv ?_;refine SI ?_;refine S As (nil ?_);exact B _ (v,(p+1)) wA b (dl t)
  rw [l8] at b;have b:=ku y b;refine ag.exit ?_;obtain⟨U,J,b⟩:=bW b;have b:=ku J b;exact x _ o wA b
 rintro W b;try dsimp only at b
 refine af (S Mv (S As (nil ?_)));refine ag.gb 2 rfl ?_;refine ag.ret ?_;repeat (first|refine bK ?_|refine bL ?_)
 obtain rfl:=oJ b;refine bz.bJ H rfl ⟨rfl,rfl⟩ ?_
 first|exact ah.cG k|(simp only [ah.set_set]; exact ah.cG k)
theorem uX:∀(n:Nat),(xE (ak:=ak) n)/\(xF (ak:=ak) n)
 | 0=>⟨fun b=>by first|cases b|(rw [iU] at b; cases b),fun b=>by first|cases b|(rw [sS] at b; cases b)⟩
 | n+1=>⟨QG n (uX n).1 (uX n).2,QH n (uX n).1 (uX n).2⟩
def HX (a0:aa):Option aa:=iU F0 a0
theorem QI {b r:aa}(f:HX b=some r) (H:ah) :AC Tryz.prog 255 [.agg (aa.c b)] H fun v h'=>v=.a (.agg (aa.c r))/\h'=H:=(uX F0).1 f H 
def uY (b:aa):Option aa:=iU F0 b
theorem QJ (a0:aa):HX a0=uY a0:=rfl
def jB (f:aa) (g:Bs):List Bs->Nat->Option (Unit ⊕ ((aa×Bool)))
 | [],b=>some (Sum.inl ())
 | i::j,b=>on (i) fun k=>bif ((k==g)) then(bif (decide (((f.av.l.length:Nat):Int)<=((b:Nat):Int))) then(some (Sum.inr ((aa.mk (0:Int) (0:Int) ([]:Bs) true ([]) (Sl.nil:Sl Bs)),false))) else((f.av.l[b]?).bind fun m=>(uY m).bind fun o=>some (Sum.inr (o,true)))) else(jB f g (j) (b+1) )
def jC (b:aa) (i:Bs):Option (aa×Bool):=bif (!decide (b.an=(6:Int))) then(some ((aa.mk (0:Int) (0:Int) ([]:Bs) true ([]) (Sl.nil:Sl Bs)),false)) else(Option.bind (jB b i b.aF.l 0 ) fun f=>match f with|Sum.inl _=>(on (()) fun _=>some ((aa.mk (0:Int) (0:Int) ([]:Bs) true ([]) (Sl.nil:Sl Bs)),false))|Sum.inr g=>(some g))
def BA (b:aa) (f:Bs):Option (aa×Bool):=jC b f
theorem BB (a0:aa) (a1:Bs):BA a0 a1=jC a0 a1:=rfl
theorem BC {g:aa}{j:Bs}{r:aa×Bool}(b:BA g j=some r) (H:ah) :AC Tryz.prog 230 [.agg (aa.c g),.d (.str j)] H fun v h'=>v=.cS [.agg (aa.c r.1),.d (.bool r.2)]/\h'=H:=by
 unfold BA jC at b;refine AC.oW 38 [.cell 4 58,.tmp 5] Tryz.call230 Tryz.func230 ?_;refine af (S BX ?_);refine Sl ?_;refine S As (nil ?_);refine ay fun B o=>?_;refine af (S Fv (S Ld (S BI (nil ?_))));refine cE b (fun C b=>?_) (fun C b=>?_)
 ·refine af (S BU ?_);refine Sf ?_;refine S As (nil ?_);exact rt b
 refine sk o ?_;clear o B;refine eD (TA 4 kN) (fun(z:aa)=>[]) (fun z=>[aa.c z]) (fun z=>H) (fun z=>(some ((aa.mk (0:Int) (0:Int) ([]:Bs) true ([]) (Sl.nil:Sl Bs)),false))=some r) ?_ ?_
 ·intro Q E;refine af (S As (nil ?_));refine block ?_;obtain⟨p,k,b⟩:=cB b;refine gW (TA 1 (TA 2 (TA 4 kN))) (fun(z:Nat×aa)=>[(6,.a (.d (.int .i64 ((z.1:Nat):Int))))]) (fun z=>[aa.c z.2]) (fun z=>H) (fun z=>g.aF.l.length-z.1) (fun z=>Option.bind (jB g j (g.aF.l.drop z.1) z.1 ) p=some r) (0,aa.zero) b wA ?_;rintro ⟨i,q⟩ b R F;try dsimp only at b
  refine ay fun G t=>?_;refine af (S Mv (S Fv (S Ld ?_)));refine sLen (f:=aP) (s:=g.aF) (TK rfl) rfl rfl rfl rfl fun U=>?_;refine S BI (nil ?_);refine ag.cA (fun l=>Option.bind (jB g j l i ) p=some r) b rfl (fun W u m b=>?_) (fun m b=>?_)
  ·rw [jB] at b;try dsimp only at m
   have X:=oD m;refine sk t ?_;clear t G;refine ay fun I w=>?_;refine block ?_;refine af (S Fv (S Ld (S Mv ?_)));obtain⟨Y,J,b⟩:=vO u b;refine S (ix aP i J) (S Ld (S Mv (S BS (nil ?_))));refine cO b (fun K b=>?_) (fun K b=>?_)
   ·refine ay fun L y=>?_;refine af (S Mv (S Fv ?_));refine s0 (bS (TK rfl) rfl rfl (congrArg (fun x=>some (A.d x)) (aa.dm _))) rfl ?_;refine sLen (f:=aa.c) (s:=g.av) (TK rfl) rfl rfl rfl rfl fun Z=>?_;refine S BI (nil ?_);refine cO b (fun M b=>?_) (fun M b=>?_)
    ·refine af (S BU ?_);refine Sf ?_;refine S As (nil ?_);refine ag.ret ?_;repeat (first|refine bK ?_|refine bL ?_)
     have b:=ku k b;obtain rfl:=oJ b;refine bz.bJ H rfl ⟨rfl,rfl⟩ ?_;exact(fun _ _ h=>h)
    refine sk y ?_;clear y L;refine af (S Fv ?_);refine s0 (bS (TK rfl) rfl rfl (congrArg (fun x=>some (A.d x)) (aa.dm _))) rfl ?_;refine S Mv ?_;obtain⟨ab,N,b⟩:=qO rfl b;refine S (ix aa.c i N) (S Ld ?_);obtain⟨ad,O,b⟩:=qO (QJ _) b;refine Sc rfl rfl (QI O) ?_;refine Sf ?_;refine S As (nil ?_);refine ag.ret ?_;repeat (first|refine bK ?_|refine bL ?_)
    have b:=ku k b;obtain rfl:=oJ b;refine bz.bJ H rfl ⟨rfl,rfl⟩ ?_;exact(fun _ _ h=>h)
   refine sk w ?_;clear w I;refine region ?_;refine S Mv ?_;refine SI ?_;refine S As (nil ?_);exact F _ ((i+1),q) wA b (dl u)
  rw [jB] at b;have b:=ku k b;try dsimp only at b
  refine ag.exit ?_;obtain⟨ae,P,b⟩:=bW b;have b:=ku P b;exact E _ q wA b
 rintro ai b;try dsimp only at b
 refine af (S BU ?_);refine Sf ?_;refine S As (nil ?_);exact rt b
def kw (b:Z4) (f:aa):Option Bool:=bif ((!b.f_)||(!decide (f.an=(7:Int)))) then(some false) else((jC b.dD f.aR).bind fun g=>some (!g.2))
def BD (b:Z4) (f:aa):Option Bool:=kw b f
theorem HY (a0:Z4) (a1:aa):BD a0 a1=kw a0 a1:=rfl
theorem HZ {i:Z4}{j:aa}{f:Nat}{r:Bool}(b:BD i j=some r) (H:ah) (o:H f=some (.cells (Z4.c i))):AC Tryz.prog 198 [.d (.ptr f 0),.agg (aa.c j)] H fun v h'=>v=.a (.d (.bool r))/\h'=H:=by
 unfold BD kw at b;refine AC.oW 29 [.tmp 4] Tryz.call198 Tryz.func198 ?_;refine af (S BX (S As (nil ?_)));refine ay fun k g=>?_;refine af (S Mv (S NP ?_));refine s0 (ct (TK rfl) rfl rfl (TK rfl) rfl rfl) rfl ?_;refine s0 (dr (TK rfl) rfl rfl aI rfl) rfl ?_;refine S NB (S Mv (G0 Fv ?_));refine G1 13 rfl Ld ?_;refine G1 14 rfl BI ?_;refine S PO (nil ?_);refine cE b (fun l b=>?_) (fun l b=>?_)
 ·refine af (S As (nil ?_));exact rt b
 refine sk g ?_;clear g k;refine ag.bY (Sd Mv (Sd NP ?_));refine au.s0 (ct (TK rfl) rfl rfl (TK rfl) rfl rfl) rfl ?_;refine au.s0 (dr (TK rfl) rfl rfl aI rfl) rfl ?_;refine Sd Fv (Sd Ld ?_);obtain⟨p,m,b⟩:=qT (BB _ _) b;refine cq rfl rfl (BC m) ?_;refine Sd Mv (Sd EX (Sd EX ?_));refine au.sB (TK rfl) rfl rfl ?_ (by repeat (first|exact bA.nil|apply bA.cons))
 refine au.dh (dH (TK rfl) rfl rfl rfl rfl rfl) ?_;refine Sd As ?_;refine au.nil (by decide +kernel) ?_;refine bu 5 _ rfl (KA 6 aS.nil) ?_;refine af (S Mv (S NB (S As (nil ?_))));exact rt b
def eV (b:Z4) (f:Int):Z4:=bif (decide (b.cQ=(0:Int))) then((Z4.mk b.Fd b.dD b.f_ b.ff f)) else(b)
def BE (b:Z4) (f:Int):Option Z4:=some (eV b f)
theorem nI (a0:Z4) (a1:Int):BE a0 a1=some (eV a0 a1):=rfl
theorem nJ {b:Z4}{i:Int}{f:Nat}{r:Z4}(g:BE b i=some r) (H:ah) (o:H f=some (.cells (Z4.c b))):AC Tryz.prog 256 [.d (.ptr f 0),.d (.int .i64 i)] H fun v h'=>v=.cS []/\h'=(H.set f (some (.cells (Z4.c r)))):=by
 unfold BE eV at g;refine AC.oW 13 [] Tryz.call256 Tryz.func256 ?_;refine ag.eS (h':=(H.set f (some (.cells (Z4.c b))))) (by funext n_; simp only [ah.set]; (repeat' split)<;>simp_all) ?_;refine af (S Mv (S NP ?_));refine s0 (ct (TK rfl) rfl rfl (TK rfl) rfl rfl) rfl ?_;refine s0 (dr (TK rfl) rfl rfl aI rfl) rfl ?_;refine S BI (nil ?_);refine cP g (fun j g=>?_) (fun j g=>?_)
 ·refine region ?_;refine S Mv (S Mv (S NP ?_));refine s0 (ct (TK rfl) rfl rfl (TK rfl) rfl rfl) rfl ?_;refine fT (mN (TK rfl) rfl rfl aI rfl (by repeat (first|exact cD.zero|apply cD.succ))) rfl rfl ?_;refine hq (H.set f (some (.cells (Z4.c (Z4.mk b.Fd b.dD b.f_ b.ff i))))) ?_;refine nil ?_;repeat (first|refine k ?_|refine l ?_|refine m ?_)
  obtain rfl:=oJ g;refine bz.ux (H.set f (some (.cells (Z4.c (Z4.mk b.Fd b.dD b.f_ b.ff i))))) (xs:=[]) rfl ⟨rfl,rfl⟩ ?_;exact(fun _ _ h=>h)
 refine ag.skip ?_;repeat (first|refine k ?_|refine l ?_|refine m ?_)
 obtain rfl:=oJ g;refine bz.ux (H.set f (some (.cells (Z4.c b)))) (xs:=[]) rfl ⟨rfl,rfl⟩ ?_;exact(fun _ _ h=>h)
def kz (g:Z4) (k:Int):Option Z4:=on (bif (decide ((24:Int)<k)) then(on (eV g (5:Int)) fun i=>i) else(g)) fun b=>(bG b.ff (1:Int)).bind fun f=>bif (decide ((4096:Int)<f)) then(on (eV (Z4.mk b.Fd b.dD b.f_ f b.cQ) (4:Int)) fun j=>some j) else(some (Z4.mk b.Fd b.dD b.f_ f b.cQ))
def BF (b:Z4) (f:Int):Option Z4:=kz b f
theorem H6 (a0:Z4) (a1:Int):BF a0 a1=kz a0 a1:=rfl
theorem H7 {i:Z4}{o:Int}{f:Nat}{r:Z4}(b:BF i o=some r) (H:ah) (E:H f=some (.cells (Z4.c i))):AC Tryz.prog 258 [.d (.ptr f 0),.d (.int .i64 o)] H fun v h'=>v=.cS []/\h'=(H.set f (some (.cells (Z4.c r)))):=by
 unfold BF kz at b;refine AC.oW 22 [] Tryz.call258 Tryz.func258 ?_;refine ag.eS (h':=(H.set f (some (.cells (Z4.c i))))) (by funext n_; simp only [ah.set]; (repeat' split)<;>simp_all) ?_;obtain⟨p,q,b⟩:=bW b;refine aT (TA 0 kN) (fun(z:Z4)=>[]) (fun z=>(H.set f (some (.cells (Z4.c z))))) (fun z=>p z=some r) ?_ ?_
 ·intro F j;refine af (S Mv (S BI (nil ?_)));refine cP b (fun s b=>?_) (fun s b=>?_)
  ·refine region ?_;refine S Mv ?_;obtain⟨k,t,b⟩:=vP (nI _ _) b;refine sH (de rfl rfl (nJ t _ aI)) rfl ?_;refine hq (H.set f (some (.cells (Z4.c k)))) ?_;refine nil ?_;exact j _ k wA b
  refine ag.skip ?_;exact j _ i wA b
 rintro g b;try dsimp only at b
 have b:=ku q b;refine af (S Mv (S NP ?_));refine s0 (ct (TK rfl) rfl rfl (TK rfl) rfl rfl) rfl ?_;refine s0 (dr (TK rfl) rfl rfl aI rfl) rfl ?_;obtain⟨l,u,b⟩:=qT rfl b;refine s0 (cI rfl rfl u) rfl ?_;refine S NP ?_;refine s0 (ct (TK rfl) rfl rfl (TK rfl) rfl rfl) rfl ?_;refine fT (mN (TK rfl) rfl rfl aI rfl (by repeat (first|exact cD.zero|apply cD.succ))) rfl rfl ?_
 refine hq (H.set f (some (.cells (Z4.c (Z4.mk g.Fd g.dD g.f_ l g.cQ))))) ?_;refine nil ?_;refine af (S Mv (S NP ?_));refine s0 (ct (TK rfl) rfl rfl (TK rfl) rfl rfl) rfl ?_;refine s0 (dr (TK rfl) rfl rfl aI rfl) rfl ?_;refine S BI (nil ?_);refine cE b (fun w b=>?_) (fun w b=>?_)
 ·refine region ?_;refine S Mv ?_;obtain⟨m,x,b⟩:=vT (nI _ _) b;refine sH (de rfl rfl (nJ x _ aI)) rfl ?_;refine hq (H.set f (some (.cells (Z4.c m)))) ?_;refine nil ?_;repeat (first|refine y ?_|refine B ?_|refine C ?_)
  obtain rfl:=oJ b;refine bz.ux (H.set f (some (.cells (Z4.c m)))) (xs:=[]) rfl ⟨rfl,rfl⟩ ?_;exact(fun _ _ h=>h)
 refine ag.skip ?_;repeat (first|refine y ?_|refine B ?_|refine C ?_)
 obtain rfl:=oJ b;refine bz.ux (H.set f (some (.cells (Z4.c (Z4.mk g.Fd g.dD g.f_ l g.cQ))))) (xs:=[]) rfl ⟨rfl,rfl⟩ ?_;exact(fun _ _ h=>h)
def kA (k:Int) (g:Z4->aa->Int->Option (aa×Z4)):List aa->Z4->aa->Option ((Z4×aa))
 | [],f,b=>some (f,b)
 | m::o,f,b=>bif (decide (f.cQ=(0:Int))) then(on (m) fun p=>(bG k (1:Int)).bind fun q=>(g f p q).bind fun i=>(aZ 80 b.av (⟨false,[i.1]⟩:Sl aa)).bind fun j=>kA k g (o) i.2 (aa.mk b.an b.aV b.aR j.nl j.l b.aF)) else(some (f,b))
def kB:Nat->Z4->aa->Int->Option (aa×Z4)
 | 0,_,_,_=>none
 | n+1,k,b,g=>(kz k g).bind fun i=>(aZ 16 ((aa.mk b.an b.aV b.aR true ([]) (Sl.nil:Sl Bs)).aF) b.aF).bind fun j=>Option.bind (kA g (kB n) b.av.l i (aa.mk ((aa.mk b.an b.aV b.aR true ([]) (Sl.nil:Sl Bs)).an) ((aa.mk b.an b.aV b.aR true ([]) (Sl.nil:Sl Bs)).aV) ((aa.mk b.an b.aV b.aR true ([]) (Sl.nil:Sl Bs)).aR) ((aa.mk b.an b.aV b.aR true ([]) (Sl.nil:Sl Bs)).av).nl ((aa.mk b.an b.aV b.aR true ([]) (Sl.nil:Sl Bs)).av).l j)) fun f=>on ((f.1,f.2)) fun z9=>some (z9.2,z9.1)
def BG (n:Nat):Prop:=∀{a0:Z4}{a1:aa}{a2:Int}  {b:Nat}{r:(aa×Z4)},kB n a0 a1 a2=some r->∀(H:ah) (f:H b=some (.cells (Z4.c a0))),AC Tryz.prog 257 [.d (.ptr b 0),.agg (aa.c a1),.d (.int .i64 a2)] H fun v h'=>v=.a (.agg (aa.c r.1))/\h'=(H.set b (some (.cells (Z4.c r.2))))
theorem QK (n:Nat) (U:BG (ak:=ak) n):BG (ak:=ak) (n+1):=by
 intro aA g R  q r b H aB;rw [kB] at b;refine AC.oW 56 [.cell 6 58] Tryz.call257 Tryz.func257 ?_;refine ag.eS (h':=(H.set q (some (.cells (Z4.c aA))))) (by funext n_; simp only [ah.set]; (repeat' split)<;>simp_all) ?_;refine af (S BX ?_);refine Sl ?_;refine nil ?_;refine af (S Mv (S Mv ?_));obtain⟨v,W,b⟩:=qT (H6 _ _) b;refine sH (de rfl rfl (H7 W _ aI)) rfl ?_
 refine hq (H.set q (some (.cells (Z4.c v)))) ?_;refine nil ?_;refine af (S Fv (S Ld (S Fv (S Ld (S Fv (S Ld (S BU ?_)))))));refine Sl ?_;refine aQ.tok 5 fun m I=>?_;obtain⟨aC,I⟩:=ah.gB I;refine aQ.dc 1 _ rfl (fun j w cs hh i=>tok_cell 3 5 5 hh (t:=m) aI i rfl) ?_;refine aQ.tok 1 fun o u=>?_;obtain⟨aD,u⟩:=ah.gB u
 obtain⟨aE,u⟩:=ah.gB u;refine aQ.dc 1 _ rfl (fun j w cs hh i=>tok_cell 4 1 1 hh (t:=o) aI i rfl) ?_;refine Sf ?_;refine aQ.dc 1 _ rfl (fun j w cs hh i=>tok_cell 3 5 5 hh (t:=m) aI i rfl) ?_;refine aQ.dc 1 _ rfl (fun j w cs hh i=>tok_cell 4 1 1 hh (t:=o) aI i rfl) ?_;refine nil ?_;refine af (S FL (S LL (S Fv (S Ld ?_))));obtain⟨J,X,b⟩:=qT rfl b
 refine SH (am aP (TK rfl) rfl (TK rfl) (TK rfl) X) ?_;refine hq (((H.set q (some (.cells (Z4.c v)))).set m (some (.tok 5 0))).set o (some (.tok 1 J.l.length))) ?_;refine S FL ?_;refine Sf ?_;refine nil ?_;refine eD (TA 6 (TA 7 kN)) (fun(z:Z4×aa)=>[]) (fun z=>[aa.c aa.zero,((bp .i64) z.2.an++(bp .i64) z.2.aV++aP z.2.aR++[Sl.d 5 aa.c (some m) z.2.av]++[Sl.d 1 aP (some o) z.2.aF])]) (fun z=>(((H.set q (some (.cells (Z4.c z.1)))).set m (some (.tok 5 z.2.av.l.length))).set o (some (.tok 1 z.2.aF.l.length)))) (fun z=>(some (z.2,z.1))=some r) ?_ ?_
 ·intro aH Y;refine af (S As (nil ?_));refine block ?_;obtain⟨y,Z,b⟩:=cB b;refine gW (TA 0 (TA 2 (TA 4 (TA 6 (TA 7 kN))))) (fun(z:Nat×Z4×aa)=>[(8,.a (.d (.int .i64 ((z.1:Nat):Int))))]) (fun z=>[aa.c aa.zero,((bp .i64) z.2.2.an++(bp .i64) z.2.2.aV++aP z.2.2.aR++[Sl.d 5 aa.c (some m) z.2.2.av]++[Sl.d 1 aP (some o) z.2.2.aF])]) (fun z=>(((H.set q (some (.cells (Z4.c z.2.1)))).set m (some (.tok 5 z.2.2.av.l.length))).set o (some (.tok 1 z.2.2.aF.l.length)))) (fun z=>g.av.l.length-z.1) (fun z=>Option.bind (kA R (kB n) (g.av.l.drop z.1) z.2.1 z.2.2) y=some r) (0,v,(aa.mk ((aa.mk g.an g.aV g.aR true ([]) (Sl.nil:Sl Bs)).an) ((aa.mk g.an g.aV g.aR true ([]) (Sl.nil:Sl Bs)).aV) ((aa.mk g.an g.aV g.aR true ([]) (Sl.nil:Sl Bs)).aR) ((aa.mk g.an g.aV g.aR true ([]) (Sl.nil:Sl Bs)).av).nl ((aa.mk g.an g.aV g.aR true ([]) (Sl.nil:Sl Bs)).av).l J)) b wA ?_
  rintro ⟨K,B,p⟩ b aJ ab;try dsimp only at b
  refine ay fun ad L=>?_;refine af (S Mv (S Fv ?_));refine s0 (bS (TK rfl) rfl rfl (congrArg (fun x=>some (A.d x)) (aa.dm _))) rfl ?_;refine sLen (f:=aa.c) (s:=g.av) (TK rfl) rfl rfl rfl rfl fun aK=>?_;refine S BI (S Mv (G0 Mv ?_));refine G1 32 rfl NP ?_;refine gC rfl rfl (fun hC=>aG (k:=33) rfl (ct (TK rfl) rfl rfl (TK rfl) rfl rfl)) rfl ?_;refine gC rfl rfl (fun hC=>aG (k:=34) rfl (dr (TK rfl) rfl rfl aI rfl)) rfl ?_
  refine G1 35 rfl BI ?_;refine S PA (nil ?_);refine ag.jk (fun l=>Option.bind (kA R (kB n) l B p) y=some r) (Option.bind (some (B,p)) y=some r) b (fun b=>by rw [kA] at b; exact b) (fun _ ae b=>by rw [kA] at b; rw [ae] at b; exact b) rfl rfl (fun aL M C ai b=>?_) (fun C b=>?_)
  ·rw [kA] at b;rw [ai,cond_true] at b;try dsimp only at C
   have aM:=oD (and_left C);refine sk L ?_;clear L ad;refine ay fun aj N=>?_;refine block ?_;refine af (S Mv (S Fv ?_));refine s0 (bS (TK rfl) rfl rfl (congrArg (fun x=>some (A.d x)) (aa.dm _))) rfl ?_;refine S Mv ?_;obtain⟨aN,al,b⟩:=vO M b;refine S (ix aa.c K al) (S Ld (S Mv ?_));obtain⟨aO,ao,b⟩:=qO rfl b;refine s0 (cI rfl rfl ao) rfl ?_
   obtain⟨E,ap,b⟩:=qO rfl b;refine sH (de rfl rfl (U ap _ aI)) rfl ?_;refine hq (((H.set q (some (.cells (Z4.c E.2)))).set m (some (.tok 5 p.av.l.length))).set o (some (.tok 1 p.aF.l.length))) ?_;refine Sl ?_;refine Sf ?_;refine nil ?_;refine bu 9 _ rfl (KA 0 (KA 2 (KA 4 (KA 6 (KA 7 (KA 8 aS.nil)))))) ?_;refine region ?_;refine S FL (S LL (S Ld (S BV ?_)))
   obtain⟨F,aq,b⟩:=qO rfl b;refine SH (am aa.c (TK rfl) rfl (TK rfl) (TK rfl) aq) ?_;refine hq (((H.set q (some (.cells (Z4.c E.2)))).set m (some (.tok 5 F.l.length))).set o (some (.tok 1 p.aF.l.length))) ?_;refine S FL ?_;refine Sf ?_;refine nil ?_;refine N _ ?_;clear N aj;refine region ?_;refine S Mv ?_;refine SI ?_;refine S As (nil ?_);exact ab _ ((K+1),E.2,(aa.mk p.an p.aV p.aR F.nl F.l p.aF)) wA b (dl M)
  have b:=ku Z b;try dsimp only at b
  refine ag.exit ?_;obtain⟨aT,au,b⟩:=bW b;have b:=ku au b;exact Y _ (B,p) wA b
 rintro ⟨aw,ax⟩ b;try dsimp only at b
 refine ay fun az O=>?_;refine ag.dc 1 _ rfl (fun j w cs hh i=>mU 3 i rfl) ?_;refine ag.dc 1 _ rfl (fun j w cs hh i=>mU 4 i rfl) ?_;refine ag.dc 1 (aa.c ax) rfl (fun j w cs hh i=>by rw [aa.fM]; exact i) ?_;refine region ?_;refine S LL ?_;refine Sf ?_;refine nil ?_;refine O _ ?_;clear O az;refine ag.ret ?_;repeat (first|refine bK ?_|refine bL ?_)
 obtain rfl:=oJ b;refine bz.bJ (H.set q (some (.cells (Z4.c aw)))) rfl ⟨rfl,rfl⟩ ?_;intro P aU Q;have aW:P≠m:=fun G=>by subst G; simp_all [ah.set]
 have aX:P≠o:=fun G=>by subst G; simp_all [ah.set]
 rw [<- Q];simp only [ah.set] at Q ⊢
 (repeat' split)<;>simp_all
theorem H8:∀(n:Nat),(BG (ak:=ak) n)
 | 0=>fun b=>by first|cases b|(rw [kB] at b; cases b)
 | n+1=>QK n (H8 n)
def H9 (b:Z4) (f:aa) (g:Int):Option (aa×Z4):=kB F0 b f g
theorem QL {f:Z4}{g:aa}{i:Int}{b:Nat}{r:aa×Z4}(j:H9 f g i=some r) (H:ah) (k:H b=some (.cells (Z4.c f))):AC Tryz.prog 257 [.d (.ptr b 0),.agg (aa.c g),.d (.int .i64 i)] H fun v h'=>v=.a (.agg (aa.c r.1))/\h'=(H.set b (some (.cells (Z4.c r.2)))):=(H8 F0) j H k
def xG (b:Z4) (f:aa) (g:Int):Option (aa×Z4):=kB F0 b f g
theorem QM (a0:Z4) (a1:aa) (a2:Int):H9 a0 a1 a2=xG a0 a1 a2:=rfl
def nK:Nat->Int->Option Bs
 | 0,_=>none
 | n+1,b=>(qh (48:Int) (Int.tmod b (10:Int))).bind fun f=>bif (decide ((-10:Int)<b)) then(some (gu (⟨false,[(IntKind.wrap .u8 f)]⟩:Sl Int))) else(((nK n) (IntKind.wrap .i64 (Int.tdiv b (10:Int)))).bind fun g=>(cR g (gu (⟨false,[(IntKind.wrap .u8 f)]⟩:Sl Int))).bind fun i=>some i)
def BH (n:Nat):Prop:=∀{a0:Int}   {r:Bs},nK n a0=some r->∀(H:ah),AC Tryz.prog 135 [.d (.int .i64 a0)] H fun v h'=>v=.a (.d (.str r))/\h'=H
theorem QN (n:Nat) (g:BH (ak:=ak) n):BH (ak:=ak) (n+1):=by
 intro s   r b H;rw [nK] at b;refine AC.oW 18 [.tmp 2] Tryz.call135 Tryz.func135 ?_;refine af (S As (nil ?_));refine af (S Mv ?_);refine s0 (NZ rfl rfl (by decide)) rfl ?_;obtain⟨i,j,b⟩:=qT rfl b;refine s0 (FT rfl rfl j) rfl ?_;refine s0 (N0 (TK rfl) (TK rfl) rfl rfl) rfl ?_;refine S BV ?_;refine s0 (N2 (y:=(⟨false,[(IntKind.wrap .u8 i)]⟩:Sl Int)) (TK rfl) rfl (TK rfl) rfl (TK rfl) rfl rfl) rfl ?_
 refine S As (nil ?_);refine ay fun k f=>?_;refine af (S Mv (S BI (nil ?_)));refine cE b (fun l b=>?_) (fun l b=>?_)
 ·refine af (S Mv (S As (nil ?_)));exact rt b
 refine sk f ?_;clear f k;refine af (S Mv ?_);refine s0 (NY rfl rfl (by decide)) rfl ?_;obtain⟨p,m,b⟩:=qT rfl b;refine Sc rfl rfl (g m) ?_;refine S Mv ?_;obtain⟨q,o,b⟩:=qT rfl b;refine s0 (ez rfl rfl o) rfl ?_;refine S As (nil ?_);exact rt b
theorem H_:∀(n:Nat),(BH (ak:=ak) n)
 | 0=>fun b=>by first|cases b|(rw [nK] at b; cases b)
 | n+1=>QN n (H_ n)
def Ia (b:Int):Option Bs:=nK F0 b
theorem Ib {b:Int}{r:Bs}(f:Ia b=some r) (H:ah) :AC Tryz.prog 135 [.d (.int .i64 b)] H fun v h'=>v=.a (.d (.str r))/\h'=H:=(H_ F0) f H 
def xH (b:Int):Option Bs:=nK F0 b
theorem Ic (a0:Int):Ia a0=xH a0:=rfl
def qK (b:Int):Option Bs:=bif (decide (b<(0:Int))) then((xH b).bind fun f=>(cR ([45]:Bs) f).bind fun g=>some g) else((xH (IntKind.wrap .i64 (0-b))).bind fun i=>some i)
def BJ (b:Int):Option Bs:=qK b
theorem QO (a0:Int):BJ a0=qK a0:=rfl
theorem QR {g:Int}{r:Bs}(b:BJ g=some r) (H:ah) :AC Tryz.prog 80 [.d (.int .i64 g)] H fun v h'=>v=.a (.d (.str r))/\h'=H:=by
 unfold BJ qK at b;refine AC.oW 11 [.tmp 2] Tryz.call80 Tryz.func80 ?_;refine af (S As (nil ?_));refine ay fun i f=>?_;refine af (S Mv (S BI (nil ?_)));refine cE b (fun j b=>?_) (fun j b=>?_)
 ·refine af (S Mv ?_);obtain⟨o,k,b⟩:=qT (Ic _) b;refine Sc rfl rfl (Ib k) ?_;obtain⟨p,l,b⟩:=qT rfl b;refine s0 (ez rfl rfl l) rfl ?_;refine S As (nil ?_);exact rt b
 refine sk f ?_;clear f i;refine af (S Mv ?_);refine s0 (MF rfl) rfl ?_;obtain⟨q,m,b⟩:=qT (Ic _) b;refine Sc rfl rfl (Ib m) ?_;refine S As (nil ?_);exact rt b
def jD (g:Z4) (f:Bs) (b:aa):Option (aa×Z4):=bif (((((f==([73,110,116]:Bs)))&&(decide (b.an=(2:Int))))&&(decide ((-2147483648:Int)<=b.aV)))&&(decide (b.aV<(2147483648:Int)))) then(some (b,g)) else(on (bif (((f==([83,116,114,105,110,103]:Bs)))&&(decide (b.an=(3:Int)))) then((((f==([83,116,114,105,110,103]:Bs)))&&(decide (b.an=(3:Int))))) else(bif (((f==([66,111,111,108,101,97,110]:Bs)))&&(decide (b.an=(1:Int)))) then((((f==([66,111,111,108,101,97,110]:Bs)))&&(decide (b.an=(1:Int))))) else((((f==([73,68]:Bs)))&&(decide (b.an=(3:Int))))))) fun i=>bif i then(some (b,g)) else(bif (((f==([73,68]:Bs)))&&(decide (b.an=(2:Int)))) then((qK b.aV).bind fun j=>some ((aa.mk (3:Int) (0:Int) j true ([]) (Sl.nil:Sl Bs)),g)) else(on (()) fun _=>on (eV g (23:Int)) fun k=>some ((aa.mk (0:Int) (0:Int) ([]:Bs) true ([]) (Sl.nil:Sl Bs)),k))))
def BK (b:Z4) (f:Bs) (g:aa):Option (aa×Z4):=jD b f g
theorem QS (a0:Z4) (a1:Bs) (a2:aa):BK a0 a1 a2=jD a0 a1 a2:=rfl
theorem QU {g:Z4}{i:Bs}{j:aa}{f:Nat}{r:aa×Z4}(b:BK g i j=some r) (H:ah) (C:H f=some (.cells (Z4.c g))):AC Tryz.prog 260 [.d (.ptr f 0),.d (.str i),.agg (aa.c j)] H fun v h'=>v=.a (.agg (aa.c r.1))/\h'=(H.set f (some (.cells (Z4.c r.2)))):=by
 unfold BK jD at b;refine AC.oW 64 [.cell 6 58] Tryz.call260 Tryz.func260 ?_;refine ag.eS (h':=(H.set f (some (.cells (Z4.c g))))) (by funext n_; simp only [ah.set]; (repeat' split)<;>simp_all) ?_;refine af (S BX ?_);refine Sl ?_;refine nil ?_;refine eD (TA 0 (TA 6 kN)) (fun(z:aa)=>[]) (fun z=>[aa.c z]) (fun z=>(H.set f (some (.cells (Z4.c g))))) (fun z=>(on (eV g (23:Int)) fun k=>some ((aa.mk (0:Int) (0:Int) ([]:Bs) true ([]) (Sl.nil:Sl Bs)),k))=some r) ?_ ?_
 ·intro E m;refine block ?_;refine af (S Mv (S BS (S Mv (G0 Fv ?_))));refine G1 11 rfl Ld ?_;refine G1 12 rfl BI ?_;refine S PA (S Mv (G0 Fv ?_));refine G1 16 rfl Ld ?_;refine G1 17 rfl BI ?_;refine S PA (S Mv (G0 Fv ?_));refine G1 21 rfl Ld ?_;refine G1 22 rfl BI ?_;refine S PA (S As (nil ?_));refine cE b (fun o b=>?_) (fun o b=>?_)
  ·refine af (S Ld ?_);refine Sf ?_;refine nil ?_;exact rt b
  obtain⟨p,q,b⟩:=bW b;refine aT (TA 0 (TA 1 (TA 5 (TA 6 kN)))) (fun(z:Bool)=>[(26,.a (.d (.bool z)))]) (fun z=>(H.set f (some (.cells (Z4.c g))))) (fun z=>p z=some r) ?_ ?_
  ·intro F l;refine af (S Mv (S BS (S Mv (G0 Fv ?_))));refine G1 30 rfl Ld ?_;refine G1 31 rfl BI ?_;refine S PA (S As (nil ?_));refine cP b (fun s b=>?_) (fun s b=>?_)
   ·refine ag.skip ?_;exact l _ (((i==([83,116,114,105,110,103]:Bs)))&&(decide (j.an=(3:Int)))) wA b
   refine af (S Mv (S BS (S Mv (G0 Fv ?_))));refine G1 37 rfl Ld ?_;refine G1 38 rfl BI ?_;refine S PA (S As (nil ?_));refine cP b (fun t b=>?_) (fun t b=>?_)
   ·refine ag.skip ?_;exact l _ (((i==([66,111,111,108,101,97,110]:Bs)))&&(decide (j.an=(1:Int)))) wA b
   refine region ?_;refine S Mv (S BS (S Mv (G0 Fv ?_)));refine G1 44 rfl Ld ?_;refine G1 45 rfl BI ?_;refine S PA (S As (nil ?_));exact l _ (((i==([73,68]:Bs)))&&(decide (j.an=(3:Int)))) wA b
  rintro G b;try dsimp only at b
  have b:=ku q b;refine cE b (fun u b=>?_) (fun u b=>?_)
  ·refine af (S Ld ?_);refine Sf ?_;refine nil ?_;exact rt b
  refine af (S Mv (S BS (S Mv (G0 Fv ?_))));refine G1 53 rfl Ld ?_;refine G1 54 rfl BI ?_;refine S PA (S As (nil ?_));refine cE b (fun w b=>?_) (fun w b=>?_)
  ·refine af (S Fv (S Ld ?_));obtain⟨I,x,b⟩:=qT (QO _) b;refine Sc rfl rfl (QR x) ?_;refine S BU ?_;refine Sf ?_;refine nil ?_;exact rt b
  refine ag.skip ?_;obtain⟨J,y,b⟩:=bW b;have b:=ku y b;exact m _ aa.zero wA b
 rintro K b;try dsimp only at b
 refine af (S Mv ?_);obtain⟨k,B,b⟩:=vT (nI _ _) b;refine sH (de rfl rfl (nJ B _ aI)) rfl ?_;refine hq (H.set f (some (.cells (Z4.c k)))) ?_;refine nil ?_;refine af (S BU ?_);refine Sf ?_;refine nil ?_;exact rt b
def lu (f:Z4) (b:aa):List Z9->Unit ⊕ ((aa×Z4))
 | []=>Sum.inl ()
 | g::i=>on (g) fun j=>bif ((j.ai==b.aR)) then(Sum.inr ((aa.mk (4:Int) (0:Int) b.aR true ([]) (Sl.nil:Sl Bs)),f)) else(lu f b (i) )
def kC (b:Z4) (m:ax) (f:aa):(aa×Z4):=on (fun(_:Unit)=>on (eV b (23:Int)) fun i=>((aa.mk (0:Int) (0:Int) ([]:Bs) true ([]) (Sl.nil:Sl Bs)),i)) fun g=>bif ((decide (f.an=(4:Int)))||((decide (f.an=(3:Int)))&&(!b.f_))) then(on (lu b f m.bI.l ) fun j=>match j with|Sum.inl _=>(g ())|Sum.inr k=>(k)) else(g ())
def BL (b:Z4) (f:ax) (g:aa):Option (aa×Z4):=some (kC b f g)
theorem QV (a0:Z4) (a1:ax) (a2:aa):BL a0 a1 a2=some (kC a0 a1 a2):=rfl
theorem QW {i:Z4}{j:ax}{m:aa}{g:Nat}{r:aa×Z4}(b:BL i j m=some r) (H:ah) (O:H g=some (.cells (Z4.c i))):AC Tryz.prog 261 [.d (.ptr g 0),.agg (ax.c j),.agg (aa.c m)] H fun v h'=>v=.a (.agg (aa.c r.1))/\h'=(H.set g (some (.cells (Z4.c r.2)))):=by
 unfold BL kC at b;refine AC.oW 45 [.cell 6 58] Tryz.call261 Tryz.func261 ?_;refine ag.eS (h':=(H.set g (some (.cells (Z4.c i))))) (by funext n_; simp only [ah.set]; (repeat' split)<;>simp_all) ?_;refine af (S BX (S BX ?_));refine Sl ?_;refine nil ?_;obtain⟨C,E,b⟩:=mP b;refine eD (TA 0 (TA 6 kN)) (fun(z:aa)=>[]) (fun z=>[aa.c z]) (fun z=>(H.set g (some (.cells (Z4.c i))))) (fun z=>some (C ())=some r) ?_ ?_
 ·intro P p;refine af (S Fv (S Ld (S BI (S Mv (G0 Fv ?_)))));refine G1 12 rfl Ld ?_;refine G1 13 rfl BI ?_;refine G1 14 rfl Mv ?_;refine G0 Mv ?_;refine G1 16 rfl NP ?_;refine gC rfl rfl (fun hC=>aG (k:=17) rfl (ct (TK rfl) rfl rfl (TK rfl) rfl rfl)) rfl ?_;refine gC rfl rfl (fun hC=>aG (k:=18) rfl (dr (TK rfl) rfl rfl aI rfl)) rfl ?_;refine G1 19 rfl NB ?_;refine gC rfl rfl (fun hC=>aG (k:=15) rfl (fV rfl rfl rfl)) rfl ?_
  refine S PO (nil ?_);refine cP b (fun F b=>?_) (fun F b=>?_)
  ·refine af (S As (nil ?_));refine block ?_;obtain⟨q,t,b⟩:=eB b;refine gW (TA 0 (TA 4 (TA 5 (TA 6 kN)))) (fun(z:Nat×aa)=>[(7,.a (.d (.int .i64 ((z.1:Nat):Int))))]) (fun z=>[aa.c z.2]) (fun z=>(H.set g (some (.cells (Z4.c i))))) (fun z=>j.bI.l.length-z.1) (fun z=>q (lu i m (j.bI.l.drop z.1) )=some r) (0,aa.zero) b wA ?_;rintro ⟨u,w⟩ b Q G
   try dsimp only at b
   refine ay fun I x=>?_;refine af (S Mv (S Fv (S Ld ?_)));refine sLen (f:=Z9.c) (s:=j.bI) (TK rfl) rfl rfl rfl rfl fun R=>?_;refine S BI (nil ?_);refine ag.cA (fun l=>q (lu i m l )=some r) b rfl (fun U y o b=>?_) (fun o b=>?_)
   ·rw [lu] at b;try dsimp only at o
    have W:=oD o;refine sk x ?_;clear x I;refine ay fun J B=>?_;refine block ?_;refine ag.bY (Sd Fv (Sd Ld (Sd Mv ?_)));obtain⟨X,K,b⟩:=vP y b;refine Sd (ix Z9.c u K) (Sd Fv (Sd Ld (Sd Fv (Sd Ld (Sd BS ?_)))));refine au.nil (by decide +kernel) ?_;refine cP b (fun L b=>?_) (fun L b=>?_)
    ·refine af (S Fv (S Ld (S BU ?_)));refine Sf ?_;refine nil ?_;refine ag.ret ?_;repeat (first|refine bK ?_|refine bL ?_)
     have b:=ku t b;obtain rfl:=oJ b;refine bz.bJ (H.set g (some (.cells (Z4.c i)))) rfl ⟨rfl,rfl⟩ ?_;exact(fun _ _ h=>h)
    refine sk B ?_;clear B J;refine region ?_;refine S Mv ?_;refine SI ?_;refine S As (nil ?_);exact G _ ((u+1),w) wA b (dl y)
   rw [lu] at b;have b:=ku t b;try dsimp only at b
   refine ag.exit ?_;exact p _ w wA b
  refine ag.skip ?_;exact p _ aa.zero wA b
 rintro Y b;try dsimp only at b
 rw [E] at b;try dsimp only at b
 refine af (S Mv ?_);obtain⟨M,N,b⟩:=vP (nI _ _) b;refine sH (de rfl rfl (nJ N _ aI)) rfl ?_;refine hq (H.set g (some (.cells (Z4.c M)))) ?_;refine nil ?_;refine af (S BU ?_);refine Sf ?_;refine nil ?_;exact rt b
def xI  :Option Bool:=some false
def nL (f:(Sl Z8)) (g:Int) :Nat->Int->Option Bool
 | 0,_=>none
 | i+1,b=>bif (decide (b<g)) then((bV f.l b).bind fun j=>(bV f.l g).bind fun k=>bif ((j.ai==k.ai)) then(some true) else((bG b (1:Int)).bind fun m=>(nL f g i) m)) else(xI   )
def sU (b:(Sl Z8)) (f:Int):Option Bool:=nL b f F0 (0:Int)
theorem QX {i:Sl Z8}{j:Int}{w0:Option Nat}{r:Bool}(b:sU i j=some r) (H:ah) :AC Tryz.prog 273 [.d (Sl.d 10 Z8.c w0 i),.d (.int .i64 j)] H fun v h'=>v=.a (.d (.bool r))/\h'=H:=by
 unfold sU at b;refine AC.oW 22 [.tmp 4] Tryz.call273 Tryz.func273 ?_;refine af (S As (nil ?_));refine aT kN (fun(z:Unit)=>[]) (fun z=>H) (fun z=>xI =some r) ?_ ?_
 ·intro B m;refine af (S As (nil ?_));refine block ?_;refine bx (TA 0 (TA 1 kN)) (fun(z:Nat×Int)=>[(5,.a (.d (.int .i64 z.2)))]) (fun z=>H) (fun z=>z.1) (fun z=>nL i j z.1 z.2=some r) (F0,(0:Int)) b wA ?_;rintro ⟨g,C⟩ b E o;try dsimp only at b
  cases g with
  | zero=>cases b
  | succ g =>
    rw [nL] at b;refine ay fun p k=>?_;refine af (S Mv (S Mv (S BI (nil ?_))));refine cE b (fun q b=>?_) (fun q b=>?_)
    ·refine sk k ?_;clear k p;refine ay fun s l=>?_;refine block ?_;refine ag.bY (Sd Mv (Sd Mv ?_));obtain⟨F,t,b⟩:=bO b;refine au.s0 (fu (f:=Z8.c) (TK rfl) rfl (TK rfl) rfl rfl rfl t) rfl ?_;refine Sd Fv (Sd Ld (Sd Mv (Sd Mv ?_)));obtain⟨G,u,b⟩:=bO b;refine au.s0 (fu (f:=Z8.c) (TK rfl) rfl (TK rfl) rfl rfl rfl u) rfl ?_;refine Sd Fv (Sd Ld (Sd BS ?_));refine au.nil (by decide +kernel) ?_
     refine cE b (fun w b=>?_) (fun w b=>?_)
     ·refine af (S As (nil ?_));exact rt b
     refine sk l ?_;clear l s;refine region ?_;refine S Mv ?_;obtain⟨x,y,b⟩:=bO b;refine s0 (cI rfl rfl y) rfl ?_;refine S As (nil ?_);exact o _ (g,x) wA b (nS _)
    refine ag.exit ?_;exact m _ () wA b
 rintro _ b;try dsimp only at b
 unfold xI at b;refine af (S As (nil ?_));exact rt b
def qL (b:(Sl Z8)) (f:Int):Option Bool:=sU b f
theorem QY (a0:(Sl Z8)) (a1:Int):sU a0 a1=qL a0 a1:=rfl
end Go.Proofs
