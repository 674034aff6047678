import Derived.Test.YtgkmefkmmafocaaGreatDoorV2
set_option maxRecDepth 100000
set_option maxHeartbeats 2000000
set_option linter.unusedVariables false
set_option linter.unusedSimpArgs false
namespace Go.Proofs
open Go Go.Ab
open aO aq ah aY eG
variable {az:bC}
def gr (g:aG) (m:Int) (i:Z4->aG->ag->Int->Option (ag×Z4)):List ag->Z4->ag->Option ((Z4×ag))
 | [],f,b=>some (f,b)
 | o::p,f,b=>bif (decide (f.b6=(0:Int))) then(on (o) fun q=>(cA m (1:Int)).bind fun r=>(i f g q r).bind fun j=>(aQ 80 b.aN (⟨false,[j.1]⟩:Sl ag)).bind fun k=>gr g m i (p) j.2 (ag.mk b.ar b.bx b.bw k.nl k.l b.a_)) else(some (f,b))
def fU (f:ai):List Bs->Z4->Z4
 | [],b=>b
 | g::i,b=>on (g) fun j=>on (fQ f.aM j) fun k=>on (bif (!k.2) then(on (dK b (22:Int)) fun l=>l) else(b)) fun m=>fU f (i) m
def fM (o:ai) (v:ag) (m:Int) (p:Z4->aG->ag->Int->Option (ag×Z4)) (q:Z4->aG->ag->Int->Option (ag×Z4)):List Z8->Nat->Z4->ag->Option ((Z4×ag))
 | [],j,b,f=>some (b,f)
 | w::x,j,b,f=>bif (decide (b.b6=(0:Int))) then(on (w) fun g=>(pR o.aM ((j:Nat):Int)).bind fun y=>Option.bind (bif y then(some (b,f)) else((iJ v g.aa).bind fun i=>aU (i.2) (jv b i.1) false fun z=>on (fun(B:Z4) (C:ag)=>(aQ 16 f.a_ (⟨false,[g.aa]⟩:Sl Bs)).bind fun E=>(aQ 80 f.aN (⟨false,[C]⟩:Sl ag)).bind fun r=>some (B,(ag.mk f.ar f.bx f.bw r.nl r.l E))) fun k=>bif (i.2&&(!z)) then((cA m (1:Int)).bind fun F=>(p b g.aA i.1 F).bind fun s=>k s.2 s.1) else(bif g.cT then((cA m (1:Int)).bind fun G=>(q b g.aA g.dD G).bind fun t=>k t.2 t.1) else(on (ee g.aA) fun H=>bif H then(on (dK b (22:Int)) fun I=>k I ag.zero) else(some (b,f)))))) fun u=>fM o v m p q (x) (j+1) u.1 u.2) else(some (b,f))
mutual
def dw:Nat->Z4->aG->ag->Int->Option (ag×Z4)
 | 0,_,_,_,_=>none
 | n+1,f,g,l,j=>on (fF f.Fd g.aa) fun v=>bif (!v) then(on (dK f (10:Int)) fun w=>some ((ag.mk (0:Int) (0:Int) ([]:Bs) true ([]) (Sl.nil:Sl Bs)),w)) else(on (fun(x:Z4) (i:ag)=>(gX x j).bind fun b=>bif (!decide (b.b6=(0:Int))) then(some ((ag.mk (0:Int) (0:Int) ([]:Bs) true ([]) (Sl.nil:Sl Bs)),b)) else(bif (decide (i.ar=(0:Int))) then(on (ee g) fun y=>on (bif y then(on (dK b (23:Int)) fun z=>z) else(b)) fun B=>some ((ag.mk (0:Int) (0:Int) ([]:Bs) true ([]) (Sl.nil:Sl Bs)),B)) else((gW g).bind fun m=>bif m.2 then(((gu n) b m.1 i j).bind fun o=>some (o.1,o.2)) else(on (dh g.aa) fun C=>bif C then((iK b g.aa i).bind fun p=>some (p.1,p.2)) else(on (cU b.Fd g.aa) fun k=>bif (decide (k.1.ar=(4:Int))) then(on (fT b k.1 i) fun q=>some (q.1,q.2)) else(((gv n) b k.1 i j).bind fun r=>some (r.1,r.2))))))) fun s=>bif (f.c7&&(decide (l.ar=(7:Int)))) then((iJ f.dW l.bw).bind fun t=>bif (!decide (t.1.ar=(0:Int))) then((Cp f t.1 j).bind fun u=>some (u.1,u.2)) else(s f (ag.mk (0:Int) (0:Int) ([]:Bs) true ([]) (Sl.nil:Sl Bs)))) else(s f l))
def gu:Nat->Z4->aG->ag->Int->Option (ag×Z4)
 | 0,_,_,_,_=>none
 | n+1,k,i,b,m=>on (bif (decide (b.ar=(5:Int))) then(b.aN) else((⟨false,[b]⟩:Sl ag))) fun j=>Option.bind (gr i m (dw n) j.l k (ag.mk (5:Int) (0:Int) ([]:Bs) true ([]) (Sl.nil:Sl Bs))) fun f=>on ((f.1,f.2)) fun g=>some (g.2,g.1)
def gv:Nat->Z4->ai->ag->Int->Option (ag×Z4)
 | 0,_,_,_,_=>none
 | n+1,j,b,f,p=>bif (!decide (f.ar=(6:Int))) then(on (dK j (23:Int)) fun k=>some ((ag.mk (0:Int) (0:Int) ([]:Bs) true ([]) (Sl.nil:Sl Bs)),k)) else(on (fU b f.a_.l j) fun m=>on (m) fun o=>Option.bind (fM b f p (dw n) (fh n) b.aM.l 0 o (ag.mk (6:Int) (0:Int) ([]:Bs) true ([]) (Sl.nil:Sl Bs))) fun g=>on ((g.1,g.2)) fun i=>some (i.2,i.1))
def fh:Nat->Z4->aG->ag->Int->Option (ag×Z4)
 | 0,_,_,_,_=>none
 | n+1,b,g,i,j=>((dw n) (Z4.mk b.Fd (ag.mk (0:Int) (0:Int) ([]:Bs) true ([]) (Sl.nil:Sl Bs)) true b.de b.b6) g i j).bind fun f=>some (f.1,(Z4.mk f.2.Fd b.dW b.c7 f.2.de f.2.b6))
end
def pS (n:Nat):Prop:=∀{a0:Z4}{f:aG}{a2:ag}{a3:Int}  {b:Nat}{r:(ag×Z4)},dw n a0 f a2 a3=some r->∀(H:ak) (g:H b=some (.cells (Z4.c a0))),AC Tryz.prog 159 [.d (.ptr b 0),.agg (aG.c f),.agg (ag.c a2),.d (.int .i64 a3)] H fun v h'=>v=.a (.agg (ag.c r.1))/\h'=(H.set b (some (.cells (Z4.c r.2))))
def pT (n:Nat):Prop:=∀{a0:Z4}{f:aG}{a2:ag}{a3:Int}  {b:Nat}{r:(ag×Z4)},gu n a0 f a2 a3=some r->∀(H:ak) (g:H b=some (.cells (Z4.c a0))),AC Tryz.prog 177 [.d (.ptr b 0),.agg (aG.c f),.agg (ag.c a2),.d (.int .i64 a3)] H fun v h'=>v=.a (.agg (ag.c r.1))/\h'=(H.set b (some (.cells (Z4.c r.2))))
def pU (n:Nat):Prop:=∀{a0:Z4}{f:ai}{a2:ag}{a3:Int}  {b:Nat}{r:(ag×Z4)},gv n a0 f a2 a3=some r->∀(H:ak) (g:H b=some (.cells (Z4.c a0))),AC Tryz.prog 180 [.d (.ptr b 0),.agg (ai.c f),.agg (ag.c a2),.d (.int .i64 a3)] H fun v h'=>v=.a (.agg (ag.c r.1))/\h'=(H.set b (some (.cells (Z4.c r.2))))
def pV (n:Nat):Prop:=∀{a0:Z4}{f:aG}{a2:ag}{a3:Int}  {b:Nat}{r:(ag×Z4)},fh n a0 f a2 a3=some r->∀(H:ak) (g:H b=some (.cells (Z4.c a0))),AC Tryz.prog 189 [.d (.ptr b 0),.agg (aG.c f),.agg (ag.c a2),.d (.int .i64 a3)] H fun v h'=>v=.a (.agg (ag.c r.1))/\h'=(H.set b (some (.cells (Z4.c r.2))))
theorem Jr (n:Nat) (aF:pS (az:=az) n) (x:pT (az:=az) n) (y:pU (az:=az) n) (aG:pV (az:=az) n):pS (az:=az) (n+1):=by
 intro g aH aE aX  f r b H aI;rw [dw] at b;refine AC.oW 111 [.cell 8 61] Tryz.call159 Tryz.func159 ?_;refine ah.dQ (h':=(H.set f (some (.cells (Z4.c g))))) (by funext n_; simp only [ak.set]; (repeat' split)<;>simp_all) ?_;refine af (S BX ?_);refine sL (A2 rfl (by repeat (first|exact bN.nil|apply bN.cons))) rfl ?_;refine Sl ?_;refine nil ?_;refine ax fun B i=>?_
 refine ah.b5 (Sd Mv (Sd NP ?_));refine au.s0 (bP (TK rfl) rfl rfl (TK rfl) rfl rfl) rfl ?_;refine au.s0 (b7 (TK rfl) rfl rfl aB rfl) rfl ?_;refine Sd Fv (Sd Ld ?_);obtain⟨aJ,C,b⟩:=vT (wz _ _) b;refine ct rfl rfl (wB C) ?_;refine Sd NB ?_;refine au.nil (by decide +kernel) ?_;refine cE b (fun E b=>?_) (fun E b=>?_)
 ·refine af (S Mv ?_);obtain⟨F,G,b⟩:=vT (kQ _ _) b;refine sH (bU rfl rfl (kR G _ aB)) rfl ?_;refine hq (H.set f (some (.cells (Z4.c F)))) ?_;refine nil ?_;refine af (S BU ?_);refine Sf ?_;refine nil ?_;exact rt b
 refine sk i ?_;clear i B;obtain⟨I,J,b⟩:=mT b;refine ez (TA 0 (TA 3 (TA 5 (TA 6 (TA 8 kN))))) (fun(z:Z4×ag×ag)=>[]) (fun z=>[ag.c z.2.1,ag.c z.2.2]) (fun z=>(H.set f (some (.cells (Z4.c z.1))))) (fun z=>(I z.1 z.2.1)=some r) ?_ ?_
 ·intro aK j;refine af (S Mv (S NP ?_));refine s0 (bP (TK rfl) rfl rfl (TK rfl) rfl rfl) rfl ?_;refine s0 (b7 (TK rfl) rfl rfl aB rfl) rfl ?_;refine S Mv (G0 FL ?_);refine gC rfl rfl (fun hC=>vR (k:=31) rfl (vt (TK rfl) rfl rfl rfl rfl)) rfl ?_;refine G1 32 rfl BI ?_;refine S PA (nil ?_);refine cE b (fun K b=>?_) (fun K b=>?_)
  ·refine ah.b5 (Sd Mv (Sd NP ?_));refine au.s0 (bP (TK rfl) rfl rfl (TK rfl) rfl rfl) rfl ?_;refine au.s0 (b7 (TK rfl) rfl rfl aB rfl) rfl ?_;refine Sd FL (Sd LL ?_);obtain⟨aL,L,b⟩:=qT (xd _ _) b;refine ct rfl rfl (xe L) ?_;refine Sd Mv (Sd EX (Sd EX ?_));refine au.sB (TK rfl) rfl rfl ?_ (by repeat (first|exact bN.nil|apply bN.cons));refine au.dA (eA (TK rfl) rfl rfl rfl rfl rfl) ?_
   refine Sd As ?_;refine au.nil (by decide +kernel) ?_;refine bA 9 _ rfl (KA 0 (KA 3 (KA 5 (KA 6 (KA 8 aY.nil))))) ?_;refine ax fun M l=>?_;refine af (S Fv (S Ld (S BI (nil ?_))));refine cE b (fun N b=>?_) (fun N b=>?_)
   ·refine af (S Mv (S Ld (S Mv ?_)));obtain⟨O,P,b⟩:=qT (Jh _ _ _) b;refine sH (bU rfl rfl (Jg P _ aB)) rfl ?_;refine hq (H.set f (some (.cells (Z4.c O.2)))) ?_;refine Sf ?_;refine nil ?_;exact rt b
   refine sk l ?_;clear l M;refine region ?_;refine S BU ?_;refine Sf ?_;refine nil ?_;exact j _ (g,(ag.mk (0:Int) (0:Int) ([]:Bs) true ([]) (Sl.nil:Sl Bs)),ag.zero) wA b
  refine ah.skip ?_;exact j _ (g,aE,ag.zero) wA b
 rintro ⟨aM,aN,aO⟩ b;try dsimp only at b
 rw [J] at b;try dsimp only at b
 refine af (S Mv (S Mv ?_));obtain⟨m,Q,b⟩:=qT (Cl _ _) b;refine sH (bU rfl rfl (Cm Q _ aB)) rfl ?_;refine hq (H.set f (some (.cells (Z4.c m)))) ?_;refine nil ?_;refine ax fun R o=>?_;refine af (S Mv (S NP ?_));refine s0 (bP (TK rfl) rfl rfl (TK rfl) rfl rfl) rfl ?_;refine s0 (b7 (TK rfl) rfl rfl aB rfl) rfl ?_;refine S BI (nil ?_);refine cE b (fun U b=>?_) (fun U b=>?_)
 ·refine af (S BU ?_);refine Sf ?_;refine nil ?_;exact rt b
 refine sk o ?_;clear o R;refine ax fun W p=>?_;refine af (S FL (S LL (S BI (nil ?_))));refine cE b (fun X b=>?_) (fun X b=>?_)
 ·refine aP (TA 8 kN) (fun(z:Z4)=>[]) (fun z=>(H.set f (some (.cells (Z4.c z))))) (fun z=>(some ((ag.mk (0:Int) (0:Int) ([]:Bs) true ([]) (Sl.nil:Sl Bs)),z))=some r) ?_ ?_
  ·intro aQ q;refine af (S Ld ?_);obtain⟨aR,Y,b⟩:=vT (nR _) b;refine Sc rfl rfl (nT Y) ?_;refine nil ?_;obtain⟨aS,s,b⟩:=bT b;refine cP b (fun Z b=>?_) (fun Z b=>?_)
   ·refine region ?_;refine S Mv ?_;obtain⟨t,aa,b⟩:=vP (kQ _ _) b;refine sH (bU rfl rfl (kR aa _ aB)) rfl ?_;refine hq (H.set f (some (.cells (Z4.c t)))) ?_;refine nil ?_;have b:=ku s b;exact q _ t wA b
   refine ah.skip ?_;have b:=ku s b;exact q _ m wA b
  rintro aT b;try dsimp only at b
  refine af (S BU ?_);refine Sf ?_;refine nil ?_;exact rt b
 refine sk p ?_;clear p W;refine ax fun ab u=>?_;refine af (S Ld ?_);obtain⟨aU,ad,b⟩:=qT (wU _) b;refine Sc rfl rfl (wV ad) ?_;refine S Mv (S EX (S EX ?_));refine Sl ?_;refine Sf ?_;refine S As (nil ?_);refine bA 11 _ rfl (KA 0 (KA 3 (KA 5 (KA 6 (KA 8 (KA 12 aY.nil)))))) ?_;refine af (S Mv (nil ?_));refine cE b (fun ae b=>?_) (fun ae b=>?_)
 ·refine af (S Mv (S Ld (S LL (S Mv ?_))));obtain⟨ai,aj,b⟩:=qT rfl b;refine sH (bU rfl rfl (x aj _ aB)) rfl ?_;refine hq (H.set f (some (.cells (Z4.c ai.2)))) ?_;refine Sf ?_;refine nil ?_;exact rt b
 refine sk u ?_;clear u ab;refine ax fun al v=>?_;refine af (S Fv (S Ld ?_));obtain⟨aV,am,b⟩:=vT (pn _) b;refine Sc rfl rfl (pq am) ?_;refine nil ?_;refine cE b (fun an b=>?_) (fun an b=>?_)
 ·refine af (S Mv (S Fv (S Ld (S LL ?_))));obtain⟨ao,ap,b⟩:=qT (Jl _ _ _) b;refine sH (bU rfl rfl (Jm ap _ aB)) rfl ?_;refine hq (H.set f (some (.cells (Z4.c ao.2)))) ?_;refine Sf ?_;refine nil ?_;exact rt b
 refine sk v ?_;clear v al;refine ah.b5 (Sd Mv (Sd NP ?_));refine au.s0 (bP (TK rfl) rfl rfl (TK rfl) rfl rfl) rfl ?_;refine au.s0 (b7 (TK rfl) rfl rfl aB rfl) rfl ?_;refine Sd Fv (Sd Ld ?_);obtain⟨aW,ar,b⟩:=vT (iy _ _) b;refine ct rfl rfl (iz ar) ?_;refine Sd Mv (Sd EX (Sd EX ?_));refine au.sB (TK rfl) rfl rfl ?_ (by repeat (first|exact bN.nil|apply bN.cons))
 refine au.dA (eA (TK rfl) rfl rfl rfl rfl rfl) ?_;refine Sd As ?_;refine au.nil (by decide +kernel) ?_;refine bA 13 _ rfl (KA 0 (KA 3 (KA 6 (KA 8 aY.nil)))) ?_;refine ax fun av w=>?_;refine af (S Fv (S Ld (S BI (nil ?_))));refine cE b (fun aw b=>?_) (fun aw b=>?_)
 ·refine af (S Mv (S Ld (S LL ?_)));obtain⟨ay,aA,b⟩:=vT (Jn _ _ _) b;refine sH (bU rfl rfl (Jo aA _ aB)) rfl ?_;refine hq (H.set f (some (.cells (Z4.c ay.2)))) ?_;refine Sf ?_;refine nil ?_;exact rt b
 refine sk w ?_;clear w av;refine af (S Mv (S Ld (S LL (S Mv ?_))));obtain⟨aC,aD,b⟩:=qT rfl b;refine sH (bU rfl rfl (y aD _ aB)) rfl ?_;refine hq (H.set f (some (.cells (Z4.c aC.2)))) ?_;refine Sf ?_;refine nil ?_;exact rt b
theorem Js (n:Nat) (P:pS (az:=az) n) (aA:pT (az:=az) n) (aC:pU (az:=az) n) (aD:pV (az:=az) n):pT (az:=az) (n+1):=by
 intro B C N O  m r b H aE;rw [gu] at b;refine AC.oW 50 [.cell 8 61] Tryz.call177 Tryz.func177 ?_;refine ah.dQ (h':=(H.set m (some (.cells (Z4.c B))))) (by funext n_; simp only [ak.set]; (repeat' split)<;>simp_all) ?_;refine af (S BX (S BX ?_));refine Sl ?_;refine nil ?_;refine af (S Ld (S BV (S As (nil ?_))));obtain⟨Q,R,b⟩:=bT b;refine aP (TA 0 (TA 3 (TA 5 (TA 8 kN)))) (fun(z:(Sl ag))=>[(9,.a (.d (Sl.d 5 ag.c none z)))]) (fun z=>(H.set m (some (.cells (Z4.c B))))) (fun z=>Q z=some r) ?_ ?_
 ·intro aF E;refine af (S Fv (S Ld (S BI (nil ?_))));refine cP b (fun U b=>?_) (fun U b=>?_)
  ·refine region ?_;refine S Fv ?_;refine s0 (dH (TK rfl) rfl rfl (congrArg (fun x=>some (A.d x)) (ag.dB _))) rfl ?_;refine S As (nil ?_);exact E _ N.aN wA b
  refine ah.skip ?_;exact E _ (⟨false,[N]⟩:Sl ag) wA b
 rintro o b;try dsimp only at b
 have b:=ku R b;refine af (S BU ?_);refine Sl ?_;refine aO.tok 5 fun g F=>?_;obtain⟨aG,F⟩:=ak.dJ F;refine aO.cV 1 _ rfl (fun j w cs hh hx=>tok_cell 3 5 5 hh (t:=g) aB hx rfl) ?_;refine Sf ?_;refine aO.cV 1 _ rfl (fun j w cs hh hx=>tok_cell 3 5 5 hh (t:=g) aB hx rfl) ?_;refine nil ?_;refine ez (TA 8 (TA 10 kN)) (fun(z:Z4×ag)=>[]) (fun z=>[ag.c ag.zero,((bJ .i64) z.2.ar++(bJ .i64) z.2.bx++aI z.2.bw++[Sl.d 5 ag.c (some g) z.2.aN]++(fun s=>[Sl.d 1 aI none s]) z.2.a_)]) (fun z=>((H.set m (some (.cells (Z4.c z.1)))).set g (some (.tok 5 z.2.aN.l.length)))) (fun z=>(some (z.2,z.1))=some r) ?_ ?_
 ·intro aH W;refine af (S As (nil ?_));refine block ?_;obtain⟨p,X,b⟩:=bY b;refine fK (TA 0 (TA 3 (TA 5 (TA 8 (TA 9 (TA 10 kN)))))) (fun(z:Nat×Z4×ag)=>[(11,.a (.d (.int .i64 ((z.1:Nat):Int))))]) (fun z=>[ag.c ag.zero,((bJ .i64) z.2.2.ar++(bJ .i64) z.2.2.bx++aI z.2.2.bw++[Sl.d 5 ag.c (some g) z.2.2.aN]++(fun s=>[Sl.d 1 aI none s]) z.2.2.a_)]) (fun z=>((H.set m (some (.cells (Z4.c z.2.1)))).set g (some (.tok 5 z.2.2.aN.l.length)))) (fun z=>o.l.length-z.1) (fun z=>Option.bind (gr C O (dw n) (o.l.drop z.1) z.2.1 z.2.2) p=some r) (0,B,(ag.mk (5:Int) (0:Int) ([]:Bs) true ([]) (Sl.nil:Sl Bs))) b wA ?_
  rintro ⟨G,q,i⟩ b aJ Y;try dsimp only at b
  refine ax fun Z I=>?_;refine af (S Mv (S Mv ?_));refine sLen (f:=ag.c) (s:=o) (TK rfl) rfl rfl rfl rfl fun aK=>?_;refine S BI (S Mv (G0 Mv ?_));refine G1 26 rfl NP ?_;refine gC rfl rfl (fun hC=>aL (k:=27) rfl (bP (TK rfl) rfl rfl (TK rfl) rfl rfl)) rfl ?_;refine gC rfl rfl (fun hC=>aL (k:=28) rfl (b7 (TK rfl) rfl rfl aB rfl)) rfl ?_;refine G1 29 rfl BI ?_;refine S PA (nil ?_)
  refine ah.tq (fun l=>Option.bind (gr C O (dw n) l q i) p=some r) (Option.bind (some (q,i)) p=some r) b (fun b=>by rw [gr] at b; exact b) (fun _ aa b=>by rw [gr] at b; rw [aa] at b; exact b) rfl rfl (fun aM J u ab b=>?_) (fun u b=>?_)
  ·rw [gr] at b;rw [ab,cond_true] at b;try dsimp only at u
   have aQ:=oD (and_left u);refine sk I ?_;clear I Z;refine ax fun ad K=>?_;refine block ?_;refine ah.b5 (Sd Mv (Sd Ld (Sd Mv (Sd Mv ?_))));obtain⟨aR,ae,b⟩:=vO J b;refine Sd (ix ag.c G ae) (Sd Ld (Sd Mv ?_));obtain⟨aS,ai,b⟩:=qO rfl b;refine au.s0 (eL rfl rfl ai) rfl ?_;obtain⟨v,aj,b⟩:=qO rfl b;refine au.sH (bU rfl rfl (P aj _ aB)) rfl ?_
   refine au.Dh ((H.set m (some (.cells (Z4.c v.2)))).set g (some (.tok 5 i.aN.l.length))) ?_;refine au.sB (TK rfl) rfl rfl ?_ (by repeat (first|exact bN.nil|apply bN.cons));refine au.dA (eA (TK rfl) rfl rfl rfl rfl rfl) ?_;refine au.nil (by decide +kernel) ?_;refine bA 12 _ rfl (KA 0 (KA 3 (KA 5 (KA 8 (KA 9 (KA 10 (KA 11 aY.nil))))))) ?_;refine region ?_
   refine S FL (S LL (S Ld (S BV ?_)));obtain⟨y,al,b⟩:=qO rfl b;refine SH (am ag.c (TK rfl) rfl (TK rfl) (TK rfl) al) ?_;refine hq ((H.set m (some (.cells (Z4.c v.2)))).set g (some (.tok 5 y.l.length))) ?_;refine S FL ?_;refine Sf ?_;refine nil ?_;refine K _ ?_;clear K ad;refine region ?_;refine S Mv ?_;refine SI ?_;refine S As (nil ?_);exact Y _ ((G+1),v.2,(ag.mk i.ar i.bx i.bw y.nl y.l i.a_)) wA b (dl J)
  have b:=ku X b;try dsimp only at b
  refine ah.exit ?_;obtain⟨aT,an,b⟩:=bT b;have b:=ku an b;exact W _ (q,i) wA b
 rintro ⟨ao,ap⟩ b;try dsimp only at b
 refine ax fun av L=>?_;refine ah.cV 1 _ rfl (fun j w cs hh hx=>jg 3 hx rfl) ?_;refine ah.cV 1 (ag.c ap) rfl (fun j w cs hh hx=>by rw [ag.l8]; exact hx) ?_;refine region ?_;refine S LL ?_;refine Sf ?_;refine nil ?_;refine L _ ?_;clear L av;refine ah.ret ?_;repeat (first|refine bE ?_|refine bF ?_)
 obtain rfl:=oJ b;refine bn.bG (H.set m (some (.cells (Z4.c ao)))) rfl ⟨rfl,rfl⟩ ?_;intro aw aU M;have aV:aw≠g:=fun ay=>by subst ay; simp_all [ak.set]
 rw [<- M];simp only [ak.set] at M ⊢
 (repeat' split)<;>simp_all
theorem Jt (n:Nat) (aA:pS (az:=az) n) (bz:pT (az:=az) n) (bB:pU (az:=az) n) (aC:pV (az:=az) n):pU (az:=az) (n+1):=by
 intro ay p q E  i r b H bC;rw [gv] at b;refine AC.oW 123 [.cell 8 61] Tryz.call180 Tryz.func180 ?_;refine ah.dQ (h':=(H.set i (some (.cells (Z4.c ay))))) (by funext n_; simp only [ak.set]; (repeat' split)<;>simp_all) ?_;refine af (S BX (S BX ?_));refine Sl ?_;refine nil ?_;refine ax fun aD U=>?_;refine af (S Fv (S Ld (S BI (nil ?_))));refine cE b (fun aE b=>?_) (fun aE b=>?_)
 ·refine af (S Mv ?_);obtain⟨aF,aG,b⟩:=vT (kQ _ _) b;refine sH (bU rfl rfl (kR aG _ aB)) rfl ?_;refine hq (H.set i (some (.cells (Z4.c aF)))) ?_;refine nil ?_;refine af (S BU ?_);refine Sf ?_;refine nil ?_;exact rt b
 refine sk U ?_;clear U aD;refine aP (TA 0 (TA 3 (TA 5 (TA 6 (TA 8 kN))))) (fun(z:Z4)=>[]) (fun z=>(H.set i (some (.cells (Z4.c z))))) (fun z=>(Option.bind (fM p q E (dw n) (fh n) p.aM.l 0 z (ag.mk (6:Int) (0:Int) ([]:Bs) true ([]) (Sl.nil:Sl Bs))) fun W=>on ((W.1,W.2)) fun X=>some (X.2,X.1))=some r) ?_ ?_
 ·intro bD aH;refine af (S As (nil ?_));refine block ?_;obtain⟨F,aJ,b⟩:=bT b;refine bp (TA 0 (TA 3 (TA 5 (TA 6 (TA 8 kN))))) (fun(z:Nat×Z4)=>[(9,.a (.d (.int .i64 ((z.1:Nat):Int))))]) (fun z=>(H.set i (some (.cells (Z4.c z.2))))) (fun z=>q.a_.l.length-z.1) (fun z=>F (fU p (q.a_.l.drop z.1) z.2)=some r) (0,ay) b wA ?_;rintro ⟨G,I⟩ b bH aK
  try dsimp only at b
  refine ax fun aR Y=>?_;refine af (S Mv (S Fv (S Ld ?_)));refine sLen (f:=aI) (s:=q.a_) (TK rfl) rfl rfl rfl rfl fun bI=>?_;refine S BI (nil ?_);refine ah.bK (fun l=>F (fU p l I)=some r) b rfl (fun bM Z J b=>?_) (fun J b=>?_)
  ·rw [fU] at b;try dsimp only at J
   have bO:=oD J;refine sk Y ?_;clear Y aR;refine aP (TA 0 (TA 3 (TA 5 (TA 6 (TA 8 (TA 9 kN)))))) (fun(z:Z4)=>[]) (fun z=>(H.set i (some (.cells (Z4.c z))))) (fun z=>F (fU p (q.a_.l.drop (G+1)) z)=some r) ?_ ?_
   ·intro bQ ab;refine block ?_;refine ah.b5 (Sd Fv (Sd Ld (Sd Fv (Sd Ld (Sd Mv ?_)))));obtain⟨bR,aS,b⟩:=vP Z b;refine Sd (ix aI G aS) (Sd Ld ?_);obtain⟨bS,aT,b⟩:=vP (tP _ _) b;refine ct rfl rfl (tQ aT) ?_;refine Sd Mv (Sd EX (Sd EX ?_));refine au.sB (TK rfl) rfl rfl ?_ (by repeat (first|exact bN.nil|apply bN.cons));refine au.dA (eA (TK rfl) rfl rfl rfl rfl rfl) ?_
    refine Sd As ?_;refine au.nil (by decide +kernel) ?_;refine bA 10 _ rfl (KA 0 (KA 3 (KA 5 (KA 6 (KA 8 (KA 9 (KA 11 aY.nil))))))) ?_;refine af (S Mv (S NB (nil ?_)));obtain⟨bV,ad,b⟩:=dU b;refine cP b (fun aU b=>?_) (fun aU b=>?_)
    ·refine region ?_;refine S Mv ?_;obtain⟨ae,aV,b⟩:=vP (kQ _ _) b;refine sH (bU rfl rfl (kR aV _ aB)) rfl ?_;refine hq (H.set i (some (.cells (Z4.c ae)))) ?_;refine nil ?_;have b:=ku ad b;exact ab _ ae wA b
    refine ah.skip ?_;have b:=ku ad b;exact ab _ I wA b
   rintro aW b;try dsimp only at b
   refine region ?_;refine S Mv ?_;refine SI ?_;refine S As (nil ?_);exact aK _ ((G+1),aW) wA b (dl Z)
  rw [fU] at b;have b:=ku aJ b;refine ah.exit ?_;obtain⟨bW,aX,b⟩:=bT b;have b:=ku aX b;exact aH _ I wA b
 rintro aZ b;try dsimp only at b
 refine af (S BU ?_);refine Sl ?_;refine aO.tok 5 fun m ai=>?_;obtain⟨bX,ai⟩:=ak.dJ ai;refine aO.cV 1 _ rfl (fun j w cs hh hx=>tok_cell 3 5 5 hh (t:=m) aB hx rfl) ?_;refine aO.tok 1 fun o B=>?_;obtain⟨b0,B⟩:=ak.dJ B;obtain⟨b1,B⟩:=ak.dJ B;refine aO.cV 1 _ rfl (fun j w cs hh hx=>tok_cell 4 1 1 hh (t:=o) aB hx rfl) ?_
 refine Sf ?_;refine aO.cV 1 _ rfl (fun j w cs hh hx=>tok_cell 3 5 5 hh (t:=m) aB hx rfl) ?_;refine aO.cV 1 _ rfl (fun j w cs hh hx=>tok_cell 4 1 1 hh (t:=o) aB hx rfl) ?_;refine nil ?_;refine ez (TA 8 (TA 12 kN)) (fun(z:Z4×ag)=>[]) (fun z=>[ag.c ag.zero,((bJ .i64) z.2.ar++(bJ .i64) z.2.bx++aI z.2.bw++[Sl.d 5 ag.c (some m) z.2.aN]++[Sl.d 1 aI (some o) z.2.a_])]) (fun z=>(((H.set i (some (.cells (Z4.c z.1)))).set m (some (.tok 5 z.2.aN.l.length))).set o (some (.tok 1 z.2.a_.l.length)))) (fun z=>(some (z.2,z.1))=some r) ?_ ?_
 ·intro b2 a0;refine af (S As (nil ?_));refine block ?_;obtain⟨C,a1,b⟩:=bY b;refine fK (TA 0 (TA 3 (TA 5 (TA 6 (TA 8 (TA 12 kN)))))) (fun(z:Nat×Z4×ag)=>[(13,.a (.d (.int .i64 ((z.1:Nat):Int))))]) (fun z=>[ag.c ag.zero,((bJ .i64) z.2.2.ar++(bJ .i64) z.2.2.bx++aI z.2.2.bw++[Sl.d 5 ag.c (some m) z.2.2.aN]++[Sl.d 1 aI (some o) z.2.2.a_])]) (fun z=>(((H.set i (some (.cells (Z4.c z.2.1)))).set m (some (.tok 5 z.2.2.aN.l.length))).set o (some (.tok 1 z.2.2.a_.l.length)))) (fun z=>p.aM.l.length-z.1) (fun z=>Option.bind (fM p q E (dw n) (fh n) (p.aM.l.drop z.1) z.1 z.2.1 z.2.2) C=some r) (0,aZ,(ag.mk (6:Int) (0:Int) ([]:Bs) true ([]) (Sl.nil:Sl Bs))) b wA ?_
  rintro ⟨v,x,g⟩ b b3 a2;try dsimp only at b
  refine ax fun a3 aj=>?_;refine af (S Mv (S Fv (S Ld ?_)));refine sLen (f:=Z8.c) (s:=p.aM) (TK rfl) rfl rfl rfl rfl fun b4=>?_;refine S BI (S Mv (G0 Mv ?_));refine G1 53 rfl NP ?_;refine gC rfl rfl (fun hC=>aL (k:=54) rfl (bP (TK rfl) rfl rfl (TK rfl) rfl rfl)) rfl ?_;refine gC rfl rfl (fun hC=>aL (k:=55) rfl (b7 (TK rfl) rfl rfl aB rfl)) rfl ?_;refine G1 56 rfl BI ?_
  refine S PA (nil ?_);refine ah.tq (fun l=>Option.bind (fM p q E (dw n) (fh n) l v x g) C=some r) (Option.bind (some (x,g)) C=some r) b (fun b=>by rw [fM] at b; exact b) (fun _ a4 b=>by rw [fM] at b; rw [a4] at b; exact b) rfl rfl (fun b6 al K a5 b=>?_) (fun K b=>?_)
  ·rw [fM] at b;rw [a5,cond_true] at b;try dsimp only at K
   have b8:=oD (and_left K);refine sk aj ?_;clear aj a3;refine ez (TA 0 (TA 3 (TA 5 (TA 6 (TA 8 (TA 12 (TA 13 kN))))))) (fun(z:Z4×ag)=>[]) (fun z=>[ag.c ag.zero,((bJ .i64) z.2.ar++(bJ .i64) z.2.bx++aI z.2.bw++[Sl.d 5 ag.c (some m) z.2.aN]++[Sl.d 1 aI (some o) z.2.a_])]) (fun z=>(((H.set i (some (.cells (Z4.c z.1)))).set m (some (.tok 5 z.2.aN.l.length))).set o (some (.tok 1 z.2.a_.l.length)))) (fun z=>Option.bind (fM p q E (dw n) (fh n) (p.aM.l.drop (v+1)) (v+1) z.1 z.2) C=some r) ?_ ?_
   ·intro b9 L;refine block ?_;refine af (S Fv (S Ld (S Mv ?_)));obtain⟨a6,a7,b⟩:=vO al b;refine S (ix Z8.c v a7) (S Ld ?_);refine Sl ?_;refine Sf ?_;refine nil ?_;refine bA 14 _ rfl (KA 0 (KA 3 (KA 5 (KA 6 (KA 8 (KA 12 (KA 13 aY.nil))))))) ?_;refine ax fun a8 an=>?_;refine af (S Fv (S Ld (S Mv ?_)));obtain⟨b_,a9,b⟩:=qO (Jq _ _) b;refine Sc rfl rfl (Jp a9) ?_
    refine nil ?_;obtain⟨a',M,b⟩:=dZ b;refine cO b (fun ba b=>?_) (fun ba b=>?_)
    ·refine ah.exit ?_;have b:=ku M b;exact L _ (x,g) wA b
    refine sk an ?_;clear an a8;refine af (S Ld (S Fv (S Ld ?_)));obtain⟨b',bb,b⟩:=qO (xd _ _) b;refine Sc rfl rfl (xe bb) ?_;refine S Mv (S EX (S EX ?_));refine Sl ?_;refine Sf ?_;refine S As (nil ?_);refine bA 15 _ rfl (KA 0 (KA 3 (KA 5 (KA 6 (KA 8 (KA 12 (KA 13 (KA 14 (KA 16 aY.nil))))))))) ?_;refine af ?_;refine Sl ?_;refine nil ?_;refine ez (TA 0 (TA 3 (TA 5 (TA 6 (TA 8 (TA 12 (TA 13 (TA 14 (TA 17 kN))))))))) (fun(z:Z4×ag)=>[]) (fun z=>[ag.c ag.zero,((bJ .i64) g.ar++(bJ .i64) g.bx++aI g.bw++[Sl.d 5 ag.c (some m) g.aN]++[Sl.d 1 aI (some o) g.a_]),ag.c z.2]) (fun z=>(((H.set i (some (.cells (Z4.c z.1)))).set m (some (.tok 5 g.aN.l.length))).set o (some (.tok 1 g.a_.l.length)))) (fun z=>Option.bind ((aQ 16 g.a_ (⟨false,[a6.aa]⟩:Sl Bs)).bind fun y=>(aQ 80 g.aN (⟨false,[z.2]⟩:Sl ag)).bind fun u=>some (z.1,(ag.mk g.ar g.bx g.bw u.nl u.l y))) a'=some r) ?_ ?_
    ·intro ca N;refine block ?_;refine af (S Mv (S Mv (G0 Mv (G0 Ld ?_))));obtain⟨cb,bc,b⟩:=eC (Cj _ _) b;refine gC rfl rfl (fun hC=>aL (k:=80) rfl (aL (k:=81) rfl (sW rfl rfl (Ck (bc hC) _ aB)))) rfl ?_;refine G1 82 rfl NB ?_;refine S PA (S As (nil ?_));obtain⟨_,rfl,b⟩:=mO b;refine cO b (fun bd b=>?_) (fun bd b=>?_)
     ·refine region ?_;refine S Mv (S Fv (S Ld (S Ld (S Mv ?_))));obtain⟨cc,be,b⟩:=qO rfl b;refine s0 (eL rfl rfl be) rfl ?_;obtain⟨O,bf,b⟩:=qO rfl b;refine sH (bU rfl rfl (aA bf _ aB)) rfl ?_;refine hq (((H.set i (some (.cells (Z4.c O.2)))).set m (some (.tok 5 g.aN.l.length))).set o (some (.tok 1 g.a_.l.length))) ?_;refine Sf ?_;refine nil ?_
      exact N _ (O.2,O.1) wA b
     refine af (S Fv (S Ld (S As (nil ?_))));refine cO b (fun bg b=>?_) (fun bg b=>?_)
     ·refine region ?_;refine S Mv (S Fv (S Ld (S Fv (S Ld (S Mv ?_)))));obtain⟨cd,bh,b⟩:=qO rfl b;refine s0 (eL rfl rfl bh) rfl ?_;obtain⟨P,bi,b⟩:=qO rfl b;refine sH (bU rfl rfl (aC bi _ aB)) rfl ?_;refine hq (((H.set i (some (.cells (Z4.c P.2)))).set m (some (.tok 5 g.aN.l.length))).set o (some (.tok 1 g.a_.l.length))) ?_;refine Sf ?_;refine nil ?_
      exact N _ (P.2,P.1) wA b
     refine af (S Fv (S Ld ?_));obtain⟨ce,bj,b⟩:=vO (nR _) b;refine Sc rfl rfl (nT bj) ?_;refine S As (nil ?_);refine cO b (fun bk b=>?_) (fun bk b=>?_)
     ·refine region ?_;refine S Mv ?_;obtain⟨ao,bl,b⟩:=vO (kQ _ _) b;refine sH (bU rfl rfl (kR bl _ aB)) rfl ?_;refine hq (((H.set i (some (.cells (Z4.c ao)))).set m (some (.tok 5 g.aN.l.length))).set o (some (.tok 1 g.a_.l.length))) ?_;refine nil ?_;exact N _ (ao,ag.zero) wA b
     refine ah.exit ?_;have b:=ku M b;exact L _ (x,g) wA b
    rintro ⟨Q,cf⟩ b;try dsimp only at b
    refine af (S FL (S LL (S Fv (S Ld (S BV ?_)))));obtain⟨y,bm,b⟩:=qO rfl b;refine SH (am aI (TK rfl) rfl (TK rfl) (TK rfl) bm) ?_;refine hq (((H.set i (some (.cells (Z4.c Q)))).set m (some (.tok 5 g.aN.l.length))).set o (some (.tok 1 y.l.length))) ?_;refine S FL ?_;refine Sf ?_;refine nil ?_;refine region ?_;refine S FL (S LL (S LL (S BV ?_)));obtain⟨u,bo,b⟩:=qO rfl b
    refine SH (am ag.c (TK rfl) rfl (TK rfl) (TK rfl) bo) ?_;refine hq (((H.set i (some (.cells (Z4.c Q)))).set m (some (.tok 5 u.l.length))).set o (some (.tok 1 y.l.length))) ?_;refine S FL ?_;refine Sf ?_;refine nil ?_;have b:=ku M b;exact L _ (Q,(ag.mk g.ar g.bx g.bw u.nl u.l y)) wA b
   rintro ⟨bq,br⟩ b;try dsimp only at b
   refine region ?_;refine S Mv ?_;refine SI ?_;refine S As (nil ?_);exact a2 _ ((v+1),bq,br) wA b (dl al)
  have b:=ku a1 b;try dsimp only at b
  refine ah.exit ?_;obtain⟨cg,bs,b⟩:=bT b;have b:=ku bs b;exact a0 _ (x,g) wA b
 rintro ⟨bt,bu⟩ b;try dsimp only at b
 refine ax fun bv ap=>?_;refine ah.cV 1 _ rfl (fun j w cs hh hx=>jg 3 hx rfl) ?_;refine ah.cV 1 _ rfl (fun j w cs hh hx=>jg 4 hx rfl) ?_;refine ah.cV 1 (ag.c bu) rfl (fun j w cs hh hx=>by rw [ag.l8]; exact hx) ?_;refine region ?_;refine S LL ?_;refine Sf ?_;refine nil ?_;refine ap _ ?_;clear ap bv;refine ah.ret ?_;repeat (first|refine bE ?_|refine bF ?_)
 obtain rfl:=oJ b;refine bn.bG (H.set i (some (.cells (Z4.c bt)))) rfl ⟨rfl,rfl⟩ ?_;intro av ch aw;have ci:av≠m:=fun R=>by subst R; simp_all [ak.set]
 have cj:av≠o:=fun R=>by subst R; simp_all [ak.set]
 rw [<- aw];simp only [ak.set] at aw ⊢
 (repeat' split)<;>simp_all
theorem Ju (n:Nat) (j:pS (az:=az) n) (l:pT (az:=az) n) (m:pU (az:=az) n) (o:pV (az:=az) n):pV (az:=az) (n+1):=by
 intro b p s t  g r i H q;rw [fh] at i;refine AC.oW 41 [.cell 8 61] Tryz.call189 Tryz.func189 ?_;refine ah.dQ (h':=(H.set g (some (.cells (Z4.c b))))) (by funext n_; simp only [ak.set]; (repeat' split)<;>simp_all) ?_;refine af (S BX (S BX ?_));refine Sl ?_;refine nil ?_;refine ah.b5 (Sd Mv (Sd NP ?_));refine au.s0 (bP (TK rfl) rfl rfl (TK rfl) rfl rfl) rfl ?_;refine au.s0 (b7 (TK rfl) rfl rfl aB rfl) rfl ?_
 refine Sd Mv (Sd NP ?_);refine au.s0 (bP (TK rfl) rfl rfl (TK rfl) rfl rfl) rfl ?_;refine au.s0 (b7 (TK rfl) rfl rfl aB rfl) rfl ?_;refine au.sB (TK rfl) rfl rfl ?_ (by repeat (first|exact bN.nil|apply bN.cons));refine au.dA (eA (TK rfl) rfl rfl rfl rfl rfl) ?_;refine Sd As ?_;refine au.nil (by decide +kernel) ?_;refine bA 9 _ rfl (KA 0 (KA 3 (KA 5 (KA 6 (KA 8 (KA 10 aY.nil)))))) ?_
 refine af (S Mv (S Mv (S BU (S NP ?_))));refine s0 (bP (TK rfl) rfl rfl (TK rfl) rfl rfl) rfl ?_;refine eR (qV (TK rfl) rfl rfl aB rfl (Nat.le_of_ble_eq_true rfl) rfl rfl) rfl rfl ?_;refine hq (H.set g (some (.cells (Z4.c (Z4.mk b.Fd (ag.mk (0:Int) (0:Int) ([]:Bs) true ([]) (Sl.nil:Sl Bs)) b.c7 b.de b.b6))))) ?_;refine S NP ?_;refine s0 (bP (TK rfl) rfl rfl (TK rfl) rfl rfl) rfl ?_
 refine eR (gj (TK rfl) rfl rfl aB rfl (by repeat (first|exact bL.zero|apply bL.succ))) rfl rfl ?_;refine hq (H.set g (some (.cells (Z4.c (Z4.mk b.Fd (ag.mk (0:Int) (0:Int) ([]:Bs) true ([]) (Sl.nil:Sl Bs)) true b.de b.b6))))) ?_;refine nil ?_;refine af (S Mv (S Ld (S Ld (S Mv ?_))));obtain⟨f,k,i⟩:=qT rfl i;refine sH (bU rfl rfl (j k _ aB)) rfl ?_;refine hq (H.set g (some (.cells (Z4.c f.2)))) ?_
 refine Sl ?_;refine Sf ?_;refine nil ?_;refine bA 11 _ rfl (KA 0 (KA 8 (KA 9 (KA 10 aY.nil)))) ?_;refine af (S Mv (S Mv (S Ld (S Mv (S NP ?_)))));refine s0 (bP (TK rfl) rfl rfl (TK rfl) rfl rfl) rfl ?_;refine eR (qV (TK rfl) rfl rfl aB rfl (Nat.le_of_ble_eq_true rfl) rfl rfl) rfl rfl ?_;refine hq (H.set g (some (.cells (Z4.c (Z4.mk f.2.Fd b.dW f.2.c7 f.2.de f.2.b6))))) ?_
 refine S NP ?_;refine s0 (bP (TK rfl) rfl rfl (TK rfl) rfl rfl) rfl ?_;refine eR (gj (TK rfl) rfl rfl aB rfl (by repeat (first|exact bL.zero|apply bL.succ))) rfl rfl ?_;refine hq (H.set g (some (.cells (Z4.c (Z4.mk f.2.Fd b.dW b.c7 f.2.de f.2.b6))))) ?_;refine nil ?_;refine af (S Ld ?_);refine Sf ?_;refine nil ?_;exact rt i
theorem fG:∀(n:Nat),(pS (az:=az) n)/\(pT (az:=az) n)/\(pU (az:=az) n)/\(pV (az:=az) n)
 | 0=>⟨fun b=>by first|cases b|(rw [dw] at b; cases b),fun b=>by first|cases b|(rw [gu] at b; cases b),fun b=>by first|cases b|(rw [gv] at b; cases b),fun b=>by first|cases b|(rw [fh] at b; cases b)⟩
 | n+1=>⟨Jr n (fG n).1 (fG n).2.1 (fG n).2.2.1 (fG n).2.2.2,Js n (fG n).1 (fG n).2.1 (fG n).2.2.1 (fG n).2.2.2,Jt n (fG n).1 (fG n).2.1 (fG n).2.2.1 (fG n).2.2.2,Ju n (fG n).1 (fG n).2.1 (fG n).2.2.1 (fG n).2.2.2⟩
def Cu (a0:Z4) (b:aG) (a2:ag) (a3:Int):Option (ag×Z4):=dw F0 a0 b a2 a3
theorem Jv {g:Z4}{f:aG}{i:ag}{j:Int}{b:Nat}{r:ag×Z4}(k:Cu g f i j=some r) (H:ak) (l:H b=some (.cells (Z4.c g))):AC Tryz.prog 159 [.d (.ptr b 0),.agg (aG.c f),.agg (ag.c i),.d (.int .i64 j)] H fun v h'=>v=.a (.agg (ag.c r.1))/\h'=(H.set b (some (.cells (Z4.c r.2)))):=(fG F0).1 k H l
def tW (f:Z4) (b:aG) (g:ag) (i:Int):Option (ag×Z4):=dw F0 f b g i
theorem Jw (a0:Z4) (b:aG) (a2:ag) (a3:Int):Cu a0 b a2 a3=tW a0 b a2 a3:=rfl
def jw (g:Z4) (f:aG) (i:ag):Option (ag×Int×Z4):=(tW g f i (1:Int)).bind fun b=>bif (!decide (b.2.b6=(0:Int))) then(some ((ag.mk (0:Int) (0:Int) ([]:Bs) true ([]) (Sl.nil:Sl Bs)),b.2.b6,b.2)) else(some (b.1,(0:Int),b.2))
def xu (f:Z4) (b:aG) (g:ag):Option (ag×Int×Z4):=jw f b g
theorem Jx (a0:Z4) (b:aG) (a2:ag):xu a0 b a2=jw a0 b a2:=rfl
theorem Jy {g:Z4}{i:aG}{k:ag}{f:Nat}{r:ag×Int×Z4}(b:xu g i k=some r) (H:ak) (q:H f=some (.cells (Z4.c g))):AC Tryz.prog 127 [.d (.ptr f 0),.agg (aG.c i),.agg (ag.c k)] H fun v h'=>v=.dz [.agg (ag.c r.1),.d (.int .i64 r.2.1)]/\h'=(H.set f (some (.cells (Z4.c r.2.2)))):=by
 unfold xu jw at b;refine AC.oW 24 [.cell 6 61,.tmp 7] Tryz.call127 Tryz.func127 ?_;refine ah.dQ (h':=(H.set f (some (.cells (Z4.c g))))) (by funext n_; simp only [ak.set]; (repeat' split)<;>simp_all) ?_;refine af (S BX (S BX ?_));refine Sl ?_;refine S As (nil ?_);refine af (S Mv (S Ld (S Ld ?_)));obtain⟨l,m,b⟩:=qT (Jw _ _ _ _) b;refine sH (bU rfl rfl (Jv m _ aB)) rfl ?_
 refine hq (H.set f (some (.cells (Z4.c l.2)))) ?_;refine Sl ?_;refine Sf ?_;refine nil ?_;refine bA 8 _ rfl (KA 0 (KA 6 aY.nil)) ?_;refine ax fun o j=>?_;refine af (S Mv (S NP ?_));refine s0 (bP (TK rfl) rfl rfl (TK rfl) rfl rfl) rfl ?_;refine s0 (b7 (TK rfl) rfl rfl aB rfl) rfl ?_;refine S BI (nil ?_);refine cE b (fun p b=>?_) (fun p b=>?_)
 ·refine ah.b5 (Sd BU (Sd Mv (Sd NP ?_)));refine au.s0 (bP (TK rfl) rfl rfl (TK rfl) rfl rfl) rfl ?_;refine au.s0 (b7 (TK rfl) rfl rfl aB rfl) rfl ?_;refine au.dA (eA (TK rfl) rfl rfl rfl rfl rfl) ?_;refine Sd As ?_;refine au.nil (by decide +kernel) ?_;exact rt b
 refine sk j ?_;clear j o;refine af (S Ld ?_);refine Sf ?_;refine S As (nil ?_);exact rt b
def jY (b:aj) (f:aG) (j:ag) (k:ag):Option (ag×Int):=on (fF b f.aa) fun g=>aU (g) (jv (Z4.mk b k true (0:Int) (0:Int)) j) false fun l=>bif (g&&l) then(some ((ag.mk (0:Int) (0:Int) ([]:Bs) true ([]) (Sl.nil:Sl Bs)),(8:Int))) else((jw (Z4.mk b k true (0:Int) (0:Int)) f j).bind fun i=>some (i.1,i.2.1))
def xw (f:aj) (b:aG) (g:ag) (i:ag):Option (ag×Int):=jY f b g i
theorem Jz (a0:aj) (b:aG) (a2:ag) (a3:ag):xw a0 b a2 a3=jY a0 b a2 a3:=rfl
theorem JA {g:aj}{j:aG}{o i:ag}{r:ag×Int}(b:xw g j o i=some r) (H:ak) :AC Tryz.prog 93 [.agg (aj.c g),.agg (aG.c j),.agg (ag.c o),.agg (ag.c i)] H fun v h'=>v=.dz [.agg (ag.c r.1),.d (.int .i64 r.2)]/\h'=H:=by
 unfold xw jY at b;refine AC.oW 31 [.cell 8 61,.tmp 9] Tryz.call93 Tryz.func93 ?_;refine af (S BX (S BX (S BX (S BX ?_))));refine Sl ?_;refine S As (nil ?_);refine af (S Ld (S Ld (S BU ?_)));refine sE (di.sS rfl) rfl (fun _ _ _ ⟨l,f,p,q,s⟩=>?_); subst p q s;refine hq (H.set l (some (.cells (Z4.c (Z4.mk g i true (0:Int) (0:Int)))))) ?_;refine S As (nil ?_)
 refine ax fun t m=>?_;refine af (S Ld (S Fv (S Ld ?_)));obtain⟨B,u,b⟩:=vT (wz _ _) b;refine Sc rfl rfl (wB u) ?_;refine S Mv (G0 Mv (G0 Ld ?_));obtain⟨C,w,b⟩:=dR (Cj _ _) b;refine gC rfl rfl (fun hC=>aL (k:=20) rfl (aL (k:=21) rfl (sW rfl rfl (Ck (w hC) _ aB)))) rfl ?_;refine S PA (nil ?_);refine cE b (fun x b=>?_) (fun x b=>?_)
 ·refine af (S BU ?_);refine Sf ?_;refine S As (nil ?_);refine ah.ret ?_;repeat (first|refine bE ?_|refine bF ?_)
  obtain rfl:=oJ b;refine bn.bG H rfl ⟨rfl,rfl⟩ ?_
  first|exact ak.bS f|(simp only [ak.set_set]; exact ak.bS f)
 refine sk m ?_;clear m t;refine af (S Mv (S Ld (S Ld ?_)));obtain⟨y,z,b⟩:=qT (Jx _ _ _) b;refine sH (bU rfl rfl (Jy z _ aB)) rfl ?_;refine hq (H.set l (some (.cells (Z4.c y.2.2)))) ?_;refine S EX (S EX ?_);refine Sf ?_;refine S As (nil ?_);refine ah.ret ?_;repeat (first|refine bE ?_|refine bF ?_)
 obtain rfl:=oJ b;refine bn.bG H rfl ⟨rfl,rfl⟩ ?_
 first|exact ak.bS f|(simp only [ak.set_set]; exact ak.bS f)
def gY (g:aj) (i:Bs) (j:Bs) (k:Bs):List Z8->(Sl Z6)->Option ((Sl Z6))
 | [],b=>some b
 | f::l,b=>on (f) fun m=>Option.bind (bif (!m.cT) then(some b) else(on (f) fun o=>on (f) fun p=>(jY g o.aA p.dD (ag.mk (0:Int) (0:Int) ([]:Bs) true ([]) (Sl.nil:Sl Bs))).bind fun q=>bif (!decide (q.2=(0:Int))) then((cr i j).bind fun r=>on (f) fun s=>(cr r s.aa).bind fun t=>(cr t k).bind fun u=>(aQ 24 b (⟨false,[(Z6.mk (23:Int) u)]⟩:Sl Z6)).bind fun v=>some v) else(some b))) fun w=>gY g i j k (l) w
def jx (i:aj) (b:(Sl Z8)) (j:Bs) (k:Bs) (m:Bs):Option (Sl Z6):=Option.bind (gY i j k m b.l (Sl.nil:Sl Z6)) fun f=>on (f) fun g=>some g
def xx (f:aj) (b:(Sl Z8)) (g:Bs) (i:Bs) (j:Bs):Option (Sl Z6):=jx f b g i j
theorem Cv (a0:aj) (b:(Sl Z8)) (a2:Bs) (a3:Bs) (a4:Bs):xx a0 b a2 a3 a4=jx a0 b a2 a3 a4:=rfl
theorem Cw {m:aj}{i:Sl Z8}{o p q:Bs}{G:Option Nat}{r:Sl Z6}(b:xx m i o p q=some r) (H:ak) :AC Tryz.prog 55 [.agg (aj.c m),.d (Sl.d 10 Z8.c G i),.d (.str o),.d (.str p),.d (.str q)] H fun v h'=>v=.a (.d (Sl.d 2 Z6.c none r))/\h'=H:=by
 unfold xx jx at b;refine AC.oW 61 [.tmp 10] Tryz.call55 Tryz.func55 ?_;refine ah.tok 2 fun g B=>?_;refine af (S BX ?_);refine s0 (dc (k':=2) rfl) rfl ?_;refine nil ?_;refine af (S As (nil ?_));refine ah.eH 11 2 g rfl aB ?_;refine aP kN (fun(z:(Sl Z6))=>[(11,.a (.d (Sl.d 2 Z6.c (some g) z)))]) (fun z=>(H.set g (some (.tok 2 z.l.length)))) (fun z=>(some z)=some r) ?_ ?_
 ·intro ae I;refine af (S As (nil ?_));refine block ?_;obtain⟨u,J,b⟩:=bY b;refine bp (TA 1 (TA 2 (TA 3 (TA 4 (TA 5 kN))))) (fun(z:(Sl Z6)×Nat)=>[(11,.a (.d (Sl.d 2 Z6.c (some g) z.1))),(12,.a (.d (.int .i64 ((z.2:Nat):Int))))]) (fun z=>(H.set g (some (.tok 2 z.1.l.length)))) (fun z=>i.l.length-z.2) (fun z=>Option.bind (gY m o p q (i.l.drop z.2) z.1) u=some r) ((Sl.nil:Sl Z6),0) b wA ?_
  rintro ⟨t,j⟩ b ag K;try dsimp only at b
  refine ax fun L C=>?_;refine af (S Mv (S Mv ?_));refine sLen (f:=Z8.c) (s:=i) (TK rfl) rfl rfl rfl rfl fun ai=>?_;refine S BI (nil ?_);refine ah.bK (fun l=>Option.bind (gY m o p q l t) u=some r) b rfl (fun al k w b=>?_) (fun w b=>?_)
  ·rw [gY] at b;try dsimp only at w
   have an:=oD w;refine sk C ?_;clear C L;refine aP (TA 1 (TA 2 (TA 3 (TA 4 (TA 5 (TA 12 kN)))))) (fun(z:(Sl Z6))=>[(11,.a (.d (Sl.d 2 Z6.c (some g) z)))]) (fun z=>(H.set g (some (.tok 2 z.l.length)))) (fun z=>Option.bind (gY m o p q (i.l.drop (j+1)) z) u=some r) ?_ ?_
   ·intro ao x;refine block ?_;refine ax fun M E=>?_;refine af (S Mv (S Mv ?_));obtain⟨ap,N,b⟩:=vO k b;refine S (ix Z8.c j N) (S Fv (S Ld (S NB (nil ?_))));obtain⟨ar,y,b⟩:=dZ b;refine cO b (fun O b=>?_) (fun O b=>?_)
    ·refine ah.exit ?_;have b:=ku y b;exact x _ t wA b
    refine sk E ?_;clear E M;refine ah.b5 (Sd Ld (Sd Mv (Sd Mv ?_)));obtain⟨av,P,b⟩:=vO k b;refine Sd (ix Z8.c j P) (Sd Fv (Sd Ld (Sd Mv (Sd Mv ?_))));obtain⟨aw,Q,b⟩:=vO k b;refine Sd (ix Z8.c j Q) (Sd Fv (Sd Ld (Sd BU ?_)));obtain⟨ay,R,b⟩:=qO (Jz _ _ _ _) b;refine ct rfl rfl (JA R) ?_;refine Sd Mv (Sd EX (Sd EX ?_));refine au.sB (TK rfl) rfl rfl ?_ (by repeat (first|exact bN.nil|apply bN.cons))
    refine au.dA (eA (TK rfl) rfl rfl rfl rfl rfl) ?_;refine Sd As ?_;refine au.nil (by decide +kernel) ?_;refine bA 13 _ rfl (KA 1 (KA 2 (KA 3 (KA 4 (KA 5 (KA 11 (KA 12 (KA 14 aY.nil)))))))) ?_;refine af (S Mv (S BI (nil ?_)));refine cO b (fun U b=>?_) (fun U b=>?_)
    ·refine region ?_;refine S Mv (S Mv (S Mv ?_));obtain⟨az,W,b⟩:=qO rfl b;refine s0 (dP rfl rfl W) rfl ?_;refine S Mv (S Mv ?_);obtain⟨aA,X,b⟩:=vO k b;refine S (ix Z8.c j X) (S Fv (S Ld ?_));obtain⟨aC,Y,b⟩:=qO rfl b;refine s0 (dP rfl rfl Y) rfl ?_;refine S Mv ?_;obtain⟨aD,Z,b⟩:=qO rfl b;refine s0 (dP rfl rfl Z) rfl ?_;refine S BU (S BV ?_);obtain⟨F,aa,b⟩:=qO rfl b
     refine SH (am Z6.c (TK rfl) rfl (TK rfl) (TK rfl) aa) ?_;refine hq (H.set g (some (.tok 2 F.l.length))) ?_;refine S As (nil ?_);have b:=ku y b;exact x _ F wA b
    refine ah.skip ?_;have b:=ku y b;exact x _ t wA b
   rintro ab b;try dsimp only at b
   refine region ?_;refine S Mv ?_;refine SI ?_;refine S As (nil ?_);exact K _ (ab,(j+1)) wA b (dl k)
  rw [gY] at b;have b:=ku J b;refine ah.exit ?_;obtain⟨aE,ad,b⟩:=bT b;have b:=ku ad b;exact I _ t wA b
 rintro aF b;try dsimp only at b
 refine af (S Mv (S As (nil ?_)));refine ah.dm 10 rfl ?_;refine ah.ret ?_;repeat (first|refine bE ?_|refine bF ?_)
 obtain rfl:=oJ b;refine bn.bG H rfl ⟨rfl,rfl⟩ ?_
 first|exact ak.bS B|(simp only [ak.set_set]; exact ak.bS B)
def fV (i:aj) (f:ai):List Z7->(Sl Z6)->Option ((Sl Z6))
 | [],b=>some b
 | g::j,b=>on (g) fun k=>(cr f.aa ([46]:Bs)).bind fun l=>on (g) fun m=>(cr l m.aa).bind fun o=>(jx i k.aF o ([40]:Bs) ([41]:Bs)).bind fun p=>(aQ 24 b p).bind fun q=>fV i f (j) q
def fz (g:aj):List ai->(Sl Z6)->Option ((Sl Z6))
 | [],f=>some f
 | i::j,f=>on (i) fun b=>Option.bind (fV g b b.ay.l f) fun k=>on (k) fun m=>(jx g b.aM b.aa ([46]:Bs) ([]:Bs)).bind fun o=>(aQ 24 m o).bind fun p=>on (p) fun q=>fz g (j) q
def nX (b:aj):Option (Sl Z6):=Option.bind (fz b b.an.l (Sl.nil:Sl Z6)) fun f=>on (f) fun g=>some g
def xy (b:aj):Option (Sl Z6):=nX b
theorem JB (a0:aj):xy a0=nX a0:=rfl
theorem JC {g:aj}{r:Sl Z6}(b:xy g=some r) (H:ak) :AC Tryz.prog 29 [.agg (aj.c g)] H fun v h'=>v=.a (.d (Sl.d 2 Z6.c none r))/\h'=H:=by
 unfold xy nX at b;refine AC.oW 55 [.tmp 2] Tryz.call29 Tryz.func29 ?_;refine ah.tok 2 fun i y=>?_;refine af (S BX ?_);refine s0 (dc (k':=2) rfl) rfl ?_;refine nil ?_;refine af (S As (nil ?_));refine ah.eH 3 2 i rfl aB ?_;refine aP kN (fun(z:(Sl Z6))=>[(3,.a (.d (Sl.d 2 Z6.c (some i) z)))]) (fun z=>(H.set i (some (.tok 2 z.l.length)))) (fun z=>(some z)=some r) ?_ ?_
 ·intro az L;refine af (S As (nil ?_));refine block ?_;obtain⟨k,M,b⟩:=bY b;refine bp (TA 1 kN) (fun(z:(Sl Z6)×Nat)=>[(3,.a (.d (Sl.d 2 Z6.c (some i) z.1))),(4,.a (.d (.int .i64 ((z.2:Nat):Int))))]) (fun z=>(H.set i (some (.tok 2 z.1.l.length)))) (fun z=>g.an.l.length-z.2) (fun z=>Option.bind (fz g (g.an.l.drop z.2) z.1) k=some r) ((Sl.nil:Sl Z6),0) b wA ?_
  rintro ⟨p,m⟩ b aA N;try dsimp only at b
  refine ax fun O B=>?_;refine af (S Mv (S Fv (S Ld ?_)));refine sLen (f:=ai.c) (s:=g.an) (TK rfl) rfl rfl rfl rfl fun aC=>?_;refine S BI (nil ?_);refine ah.bK (fun l=>Option.bind (fz g l p) k=some r) b rfl (fun aD C q b=>?_) (fun q b=>?_)
  ·rw [fz] at b;try dsimp only at q
   have aE:=oD q;refine sk B ?_;clear B O;refine aP (TA 1 (TA 4 kN)) (fun(z:(Sl Z6))=>[(3,.a (.d (Sl.d 2 Z6.c (some i) z)))]) (fun z=>(H.set i (some (.tok 2 z.l.length)))) (fun z=>Option.bind (fz g (g.an.l.drop (m+1)) z) k=some r) ?_ ?_
   ·intro aF P;refine block ?_;refine af (S Fv (S Ld (S Mv ?_)));obtain⟨j,Q,b⟩:=vO C b;refine S (ix ai.c m Q) (S Ld ?_);refine Sl ?_;refine Sf ?_;refine nil ?_;refine bA 5 _ rfl (KA 1 (KA 3 (KA 4 aY.nil))) ?_;refine aP (TA 1 (TA 4 (TA 5 kN))) (fun(z:(Sl Z6))=>[(3,.a (.d (Sl.d 2 Z6.c (some i) z)))]) (fun z=>(H.set i (some (.tok 2 z.l.length)))) (fun z=>Option.bind ((jx g j.aM j.aa ([46]:Bs) ([]:Bs)).bind fun E=>(aQ 24 z E).bind fun o=>on (o) fun t=>fz g (g.an.l.drop (m+1)) t) k=some r) ?_ ?_
    ·intro aG R;refine af (S As (nil ?_));refine block ?_;obtain⟨F,U,b⟩:=dZ b;refine bp (TA 1 (TA 4 (TA 5 kN))) (fun(z:(Sl Z6)×Nat)=>[(3,.a (.d (Sl.d 2 Z6.c (some i) z.1))),(6,.a (.d (.int .i64 ((z.2:Nat):Int))))]) (fun z=>(H.set i (some (.tok 2 z.1.l.length)))) (fun z=>j.ay.l.length-z.2) (fun z=>Option.bind (fV g j (j.ay.l.drop z.2) z.1) F=some r) (p,0) b wA ?_
     rintro ⟨G,u⟩ b aH W;try dsimp only at b
     refine ax fun X I=>?_;refine af (S Mv (S Fv (S Ld ?_)));refine sLen (f:=Z7.c) (s:=j.ay) (TK rfl) rfl rfl rfl rfl fun aI=>?_;refine S BI (nil ?_);refine ah.bK (fun l=>Option.bind (fV g j l G) F=some r) b rfl (fun aJ w x b=>?_) (fun x b=>?_)
     ·rw [fV] at b;try dsimp only at x
      have aK:=oD x;refine sk I ?_;clear I X;refine ax fun Y J=>?_;refine block ?_;refine ah.draw rfl ?_;refine Sd Mv (Sd Ld (Sd Fv (Sd Ld (Sd Mv ?_))));obtain⟨aL,Z,b⟩:=vO w b;refine Sd (ix Z7.c u Z) (Sd Fv (Sd Ld (Sd Fv (Sd Ld ?_))));obtain⟨aN,ab,b⟩:=qO rfl b;refine au.s0 (dP rfl rfl ab) rfl ?_;refine Sd Fv (Sd Ld (Sd Mv ?_));obtain⟨aO,ad,b⟩:=vO w b
      refine Sd (ix Z7.c u ad) (Sd Fv (Sd Ld ?_));obtain⟨aR,ae,b⟩:=qO rfl b;refine au.s0 (dP rfl rfl ae) rfl ?_;obtain⟨aS,ag,b⟩:=qO (Cv _ _ _ _ _) b;refine ct rfl rfl (Cw ag) ?_;obtain⟨K,al,b⟩:=qO rfl b;refine au.sH (jf (f:=Z6.c) (TK rfl) rfl (TK rfl) (TK rfl) ⟨_,rfl⟩ rfl rfl (by decide) rfl rfl rfl rfl aB rfl al) rfl ?_;refine au.Dh (H.set i (some (.tok 2 K.l.length))) ?_
      refine Sd As ?_;refine au.nil (by decide +kernel) ?_;refine J _ ?_;clear J Y;refine region ?_;refine S Mv ?_;refine SI ?_;refine S As (nil ?_);exact W _ (K,(u+1)) wA b (dl w)
     rw [fV] at b;have b:=ku U b;refine ah.exit ?_;obtain⟨aT,ao,b⟩:=gT b;have b:=ku ao b;exact R _ G wA b
    rintro aU b;try dsimp only at b
    refine region ?_;refine S Mv (S Ld (S Fv (S Ld (S Fv (S Ld ?_)))));obtain⟨E,ap,b⟩:=qO (Cv _ _ _ _ _) b;refine Sc rfl rfl (Cw ap) ?_;obtain⟨o,ar,b⟩:=qO rfl b;refine SH (am Z6.c (TK rfl) rfl (TK rfl) (TK rfl) ar) ?_;refine hq (H.set i (some (.tok 2 o.l.length))) ?_;refine S As (nil ?_);obtain⟨aV,av,b⟩:=gT b;have b:=ku av b;exact P _ o wA b
   rintro t b;try dsimp only at b
   refine region ?_;refine S Mv ?_;refine SI ?_;refine S As (nil ?_);exact N _ (t,(m+1)) wA b (dl C)
  rw [fz] at b;have b:=ku M b;refine ah.exit ?_;obtain⟨aW,aw,b⟩:=bT b;have b:=ku aw b;exact L _ p wA b
 rintro aX b;try dsimp only at b
 refine af (S Mv (S As (nil ?_)));refine ah.dm 2 rfl ?_;refine ah.ret ?_;repeat (first|refine bE ?_|refine bF ?_)
 obtain rfl:=oJ b;refine bn.bG H rfl ⟨rfl,rfl⟩ ?_
 first|exact ak.bS y|(simp only [ak.set_set]; exact ak.bS y)
def iL (f:aj):Option (Sl Z6):=(pL f true).bind fun b=>bif (decide ((0:Int)<((b.l.length:Nat):Int))) then(some b) else((pP f).bind fun g=>(aQ 24 b g).bind fun i=>(nX f).bind fun j=>(aQ 24 i j).bind fun k=>some k)
def xz (b:aj):Option (Sl Z6):=iL b
theorem Cx (a0:aj):xz a0=iL a0:=rfl
theorem Cy {m:aj}{r:Sl Z6}(b:xz m=some r) (H:ak) :AC Tryz.prog 11 [.agg (aj.c m)] H fun v h'=>v=.a (.d (Sl.d 2 Z6.c none r))/\h'=H:=by
 unfold xz iL at b;refine AC.oW 18 [.tmp 2] Tryz.call11 Tryz.func11 ?_;refine af (S BX ?_);refine s0 (dc (k':=2) rfl) rfl ?_;refine nil ?_;refine ah.tok 2 fun i g=>?_;refine af (S Ld ?_);obtain⟨j,o,b⟩:=qT (IN _ _) b;refine sH (bU rfl rfl (IP o _ aB)) rfl ?_;refine hq (H.set i (some (.tok 2 j.l.length))) ?_;refine S As (nil ?_);refine ax fun p k=>?_
 refine af (S Mv ?_);refine sLen (f:=Z6.c) (s:=j) (TK rfl) rfl rfl rfl rfl fun B=>?_;refine S BI (nil ?_);refine cE b (fun q b=>?_) (fun q b=>?_)
 ·refine af (S Mv (S As (nil ?_)));refine ah.dm 2 rfl ?_;refine ah.ret ?_;repeat (first|refine bE ?_|refine bF ?_)
  obtain rfl:=oJ b;refine bn.bG H rfl ⟨rfl,rfl⟩ ?_
  first|exact ak.bS g|(simp only [ak.set_set]; exact ak.bS g)
 refine sk k ?_;clear k p;refine af (S Mv (S Ld ?_));obtain⟨C,t,b⟩:=qT (I_ _) b;refine Sc rfl rfl (Ja t) ?_;obtain⟨u,w,b⟩:=qT rfl b;refine SH (am Z6.c (TK rfl) rfl (TK rfl) (TK rfl) w) ?_;refine hq (H.set i (some (.tok 2 u.l.length))) ?_;refine S As (nil ?_);refine af (S Mv (S Ld ?_));obtain⟨E,x,b⟩:=qT (JB _) b;refine Sc rfl rfl (JC x) ?_
 obtain⟨y,z,b⟩:=qT rfl b;refine SH (am Z6.c (TK rfl) rfl (TK rfl) (TK rfl) z) ?_;refine hq (H.set i (some (.tok 2 y.l.length))) ?_;refine S As (nil ?_);refine ah.dm 2 rfl ?_;refine ah.ret ?_;repeat (first|refine bE ?_|refine bF ?_)
 obtain rfl:=oJ b;refine bn.bG H rfl ⟨rfl,rfl⟩ ?_
 first|exact ak.bS g|(simp only [ak.set_set]; exact ak.bS g)
def me :List Z7->Int->Option (Int)
 | [],b=>some b
 | f::g,b=>on (f) fun i=>on (f) fun j=>(cA ((i.aF.l.length:Nat):Int) ((j.bh.l.length:Nat):Int)).bind fun k=>(cA b k).bind fun m=>me  (g) m
def kT :List ai->Int->Option (Int)
 | [],f=>some f
 | g::i,f=>on (g) fun b=>(cA (1:Int) ((b.ay.l.length:Nat):Int)).bind fun j=>(cA j ((b.aJ.l.length:Nat):Int)).bind fun k=>(cA k ((b.aM.l.length:Nat):Int)).bind fun m=>(cA m ((b.bh.l.length:Nat):Int)).bind fun o=>(cA o ((b.aW.l.length:Nat):Int)).bind fun p=>(cA f p).bind fun q=>Option.bind (me  b.ay.l q) fun r=>on (r) fun s=>kT  (i) s
def pW (b:aj):Option Bool:=bif (decide ((70:Int)<((b.an.l.length:Nat):Int))) then(some true) else(Option.bind (kT  b.an.l (0:Int)) fun f=>on (f) fun g=>some (decide ((1000:Int)<g)))
def xA (b:aj):Option Bool:=pW b
theorem JD (a0:aj):xA a0=pW a0:=rfl
theorem JE {i:aj}{r:Bool}(b:xA i=some r) (H:ak) :AC Tryz.prog 12 [.agg (aj.c i)] H fun v h'=>v=.a (.d (.bool r))/\h'=H:=by
 unfold xA pW at b;refine AC.oW 71 [.tmp 2] Tryz.call12 Tryz.func12 ?_;refine af (S BX (S As (nil ?_)));refine ax fun F t=>?_;refine af (S Fv (S Ld ?_));refine sLen (f:=ai.c) (s:=i.an) (TK rfl) rfl rfl rfl rfl fun aA=>?_;refine S BI (nil ?_);refine cE b (fun G b=>?_) (fun G b=>?_)
 ·refine af (S As (nil ?_));exact rt b
 refine sk t ?_;clear t F;refine af (S As (nil ?_));refine aP kN (fun(z:Int)=>[(3,.a (.d (.int .i64 z)))]) (fun z=>H) (fun z=>(some (decide ((1000:Int)<z)))=some r) ?_ ?_
 ·intro aC I;refine af (S As (nil ?_));refine block ?_;obtain⟨j,J,b⟩:=bY b;refine bp (TA 1 kN) (fun(z:Int×Nat)=>[(3,.a (.d (.int .i64 z.1))),(4,.a (.d (.int .i64 ((z.2:Nat):Int))))]) (fun z=>H) (fun z=>i.an.l.length-z.2) (fun z=>Option.bind (kT  (i.an.l.drop z.2) z.1) j=some r) ((0:Int),0) b wA ?_;rintro ⟨u,k⟩ b aD K;try dsimp only at b
  refine ax fun L w=>?_;refine af (S Mv (S Fv (S Ld ?_)));refine sLen (f:=ai.c) (s:=i.an) (TK rfl) rfl rfl rfl rfl fun aE=>?_;refine S BI (nil ?_);refine ah.bK (fun l=>Option.bind (kT  l u) j=some r) b rfl (fun aG x m b=>?_) (fun m b=>?_)
  ·rw [kT] at b;try dsimp only at m
   have aH:=oD m;refine sk w ?_;clear w L;refine aP (TA 1 (TA 4 kN)) (fun(z:Int)=>[(3,.a (.d (.int .i64 z)))]) (fun z=>H) (fun z=>Option.bind (kT  (i.an.l.drop (k+1)) z) j=some r) ?_ ?_
   ·intro aK M;refine block ?_;refine af (S Fv (S Ld (S Mv ?_)));obtain⟨g,N,b⟩:=vO x b;refine S (ix ai.c k N) (S Ld ?_);refine Sl ?_;refine Sf ?_;refine nil ?_;refine bA 5 _ rfl (KA 1 (KA 3 (KA 4 aY.nil))) ?_;refine af (S Mv (S Fv (S Ld ?_)));refine sLen (f:=Z7.c) (s:=g.ay) (TK rfl) rfl rfl rfl rfl fun aL=>?_;obtain⟨aN,O,b⟩:=qO rfl b;refine s0 (eL rfl rfl O) rfl ?_
    refine S Fv (S Ld ?_);refine sLen (f:=Z9.c) (s:=g.aJ) (TK rfl) rfl rfl rfl rfl fun aO=>?_;obtain⟨aQ,P,b⟩:=qO rfl b;refine s0 (eL rfl rfl P) rfl ?_;refine S Fv (S Ld ?_);refine sLen (f:=Z8.c) (s:=g.aM) (TK rfl) rfl rfl rfl rfl fun aR=>?_;obtain⟨aS,Q,b⟩:=qO rfl b;refine s0 (eL rfl rfl Q) rfl ?_;refine S Fv (S Ld ?_);refine sLen (f:=av.c) (s:=g.bh) (TK rfl) rfl rfl rfl rfl fun aT=>?_
    obtain⟨aU,R,b⟩:=qO rfl b;refine s0 (eL rfl rfl R) rfl ?_;refine S Fv (S Ld ?_);refine sLen (f:=aI) (s:=g.aW) (TK rfl) rfl rfl rfl rfl fun aV=>?_;obtain⟨aX,U,b⟩:=qO rfl b;refine s0 (eL rfl rfl U) rfl ?_;obtain⟨W,X,b⟩:=qO rfl b;refine s0 (eL rfl rfl X) rfl ?_;refine S As (nil ?_);refine af (S As (nil ?_));refine block ?_;obtain⟨y,Y,b⟩:=dZ b
    refine bp (TA 1 (TA 4 (TA 5 kN))) (fun(z:Int×Nat)=>[(3,.a (.d (.int .i64 z.1))),(6,.a (.d (.int .i64 ((z.2:Nat):Int))))]) (fun z=>H) (fun z=>g.ay.l.length-z.2) (fun z=>Option.bind (me  (g.ay.l.drop z.2) z.1) y=some r) (W,0) b wA ?_;rintro ⟨B,o⟩ b aZ Z;try dsimp only at b
    refine ax fun aa C=>?_;refine af (S Mv (S Fv (S Ld ?_)));refine sLen (f:=Z7.c) (s:=g.ay) (TK rfl) rfl rfl rfl rfl fun a0=>?_;refine S BI (nil ?_);refine ah.bK (fun l=>Option.bind (me  l B) y=some r) b rfl (fun a1 p q b=>?_) (fun q b=>?_)
    ·rw [me] at b;try dsimp only at q
     have a2:=oD q;refine sk C ?_;clear C aa;refine ax fun ab E=>?_;refine block ?_;refine ah.draw rfl ?_;refine Sd Mv (Sd Fv (Sd Ld (Sd Mv ?_)));obtain⟨ad,ae,b⟩:=vO p b;refine Sd (ix Z7.c o ae) (Sd Fv (Sd Ld ?_));refine au.s0 (b8 (f:=Z8.c) (s:=ad.aF) (TK rfl) rfl rfl rfl) rfl ?_;refine Sd Fv (Sd Ld (Sd Mv ?_));obtain⟨ag,al,b⟩:=vO p b
     refine Sd (ix Z7.c o al) (Sd Fv (Sd Ld ?_));refine au.s0 (b8 (f:=av.c) (s:=ag.bh) (TK rfl) rfl rfl rfl) rfl ?_;obtain⟨a3,am,b⟩:=qO rfl b;refine au.s0 (eL rfl rfl am) rfl ?_;obtain⟨ao,ap,b⟩:=qO rfl b;refine au.s0 (eL rfl rfl ap) rfl ?_;refine Sd As ?_;refine au.nil (by decide +kernel) ?_;refine E _ ?_;clear E ab;refine region ?_;refine S Mv ?_;refine SI ?_
     refine S As (nil ?_);exact Z _ (ao,(o+1)) wA b (dl p)
    rw [me] at b;have b:=ku Y b;refine ah.exit ?_;obtain⟨a4,ar,b⟩:=gT b;have b:=ku ar b;exact M _ B wA b
   rintro aw b;try dsimp only at b
   refine region ?_;refine S Mv ?_;refine SI ?_;refine S As (nil ?_);exact K _ (aw,(k+1)) wA b (dl x)
  rw [kT] at b;have b:=ku J b;refine ah.exit ?_;obtain⟨a5,az,b⟩:=bT b;have b:=ku az b;exact I _ u wA b
 rintro a6 b;try dsimp only at b
 refine af (S Mv (S BI (S As (nil ?_))));exact rt b
def mg (f:ag->Option Int):List ag->Int->Option (Int)
 | [],b=>some b
 | g::i,b=>on (g) fun j=>(f j).bind fun k=>(cA b k).bind fun l=>mg f (i) l
def jy:Nat->ag->Option Int
 | 0,_=>none
 | n+1,g=>Option.bind (mg (jy n) g.aN.l (1:Int)) fun b=>on (b) fun f=>some f
def xB (n:Nat):Prop:=∀{a0:ag}   {r:Int},jy n a0=some r->∀(H:ak),AC Tryz.prog 128 [.agg (ag.c a0)] H fun v h'=>v=.a (.d (.int .i64 r))/\h'=H
theorem JF (n:Nat) (t:xB (az:=az) n):xB (az:=az) (n+1):=by
 intro i   r b H;rw [jy] at b;refine AC.oW 21 [.tmp 2] Tryz.call128 Tryz.func128 ?_;refine af (S BX (S As (nil ?_)));refine af (S As (nil ?_));refine aP kN (fun(z:Int)=>[(3,.a (.d (.int .i64 z)))]) (fun z=>H) (fun z=>(some z)=some r) ?_ ?_
 ·intro J u;refine af (S As (nil ?_));refine block ?_;obtain⟨j,v,b⟩:=bY b;refine bp (TA 1 kN) (fun(z:Int×Nat)=>[(3,.a (.d (.int .i64 z.1))),(4,.a (.d (.int .i64 ((z.2:Nat):Int))))]) (fun z=>H) (fun z=>i.aN.l.length-z.2) (fun z=>Option.bind (mg (jy n) (i.aN.l.drop z.2) z.1) j=some r) ((1:Int),0) b wA ?_;rintro ⟨k,m⟩ b K w;try dsimp only at b
  refine ax fun y o=>?_;refine af (S Mv (S Fv ?_));refine s0 (dH (TK rfl) rfl rfl (congrArg (fun x=>some (A.d x)) (ag.dB _))) rfl ?_;refine sLen (f:=ag.c) (s:=i.aN) (TK rfl) rfl rfl rfl rfl fun L=>?_;refine S BI (nil ?_);refine ah.bK (fun l=>Option.bind (mg (jy n) l k) j=some r) b rfl (fun M p g b=>?_) (fun g b=>?_)
  ·rw [mg] at b;try dsimp only at g
   have N:=oD g;refine sk o ?_;clear o y;refine ax fun B q=>?_;refine block ?_;refine region ?_;refine S Mv (S Fv ?_);refine s0 (dH (TK rfl) rfl rfl (congrArg (fun x=>some (A.d x)) (ag.dB _))) rfl ?_;refine S Mv ?_;obtain⟨O,C,b⟩:=vO p b;refine S (ix ag.c m C) (S Ld ?_);obtain⟨P,E,b⟩:=qO rfl b;refine Sc rfl rfl (t E) ?_;obtain⟨F,G,b⟩:=qO rfl b
   refine s0 (eL rfl rfl G) rfl ?_;refine S As (nil ?_);refine q _ ?_;clear q B;refine region ?_;refine S Mv ?_;refine SI ?_;refine S As (nil ?_);exact w _ (F,(m+1)) wA b (dl p)
  rw [mg] at b;have b:=ku v b;refine ah.exit ?_;obtain⟨Q,I,b⟩:=bT b;have b:=ku I b;exact u _ k wA b
 rintro R b;try dsimp only at b
 refine af (S Mv (S As (nil ?_)));exact rt b
theorem Cz:∀(n:Nat),(xB (az:=az) n)
 | 0=>fun b=>by first|cases b|(rw [jy] at b; cases b)
 | n+1=>JF n (Cz n)
def CA (b:ag):Option Int:=jy F0 b
theorem JG {b:ag}{r:Int}(f:CA b=some r) (H:ak) :AC Tryz.prog 128 [.agg (ag.c b)] H fun v h'=>v=.a (.d (.int .i64 r))/\h'=H:=(Cz F0) f H 
def xC (b:ag):Option Int:=jy F0 b
theorem JH (a0:ag):CA a0=xC a0:=rfl
def mh (f:ag->Option Int):List ag->Int->Option (Int)
 | [],b=>some b
 | i::j,b=>on (i) fun k=>(f k).bind fun g=>mh f (j) (if g>b then g else b)
def jA:Nat->ag->Option Int
 | 0,_=>none
 | n+1,i=>Option.bind (mh (jA n) i.aN.l (0:Int)) fun b=>on (b) fun f=>(cA f (1:Int)).bind fun g=>some g
def xD (n:Nat):Prop:=∀{a0:ag}   {r:Int},jA n a0=some r->∀(H:ak),AC Tryz.prog 129 [.agg (ag.c a0)] H fun v h'=>v=.a (.d (.int .i64 r))/\h'=H
theorem JI (n:Nat) (v:xD (az:=az) n):xD (az:=az) (n+1):=by
 intro j   r b H;rw [jA] at b;refine AC.oW 22 [.tmp 2] Tryz.call129 Tryz.func129 ?_;refine af (S BX (S As (nil ?_)));refine af (S As (nil ?_));refine aP kN (fun(z:Int)=>[(3,.a (.d (.int .i64 z)))]) (fun z=>H) (fun z=>((cA z (1:Int)).bind fun k=>some k)=some r) ?_ ?_
 ·intro K w;refine af (S As (nil ?_));refine block ?_;obtain⟨m,y,b⟩:=bY b;refine bp (TA 1 kN) (fun(z:Int×Nat)=>[(3,.a (.d (.int .i64 z.1))),(4,.a (.d (.int .i64 ((z.2:Nat):Int))))]) (fun z=>H) (fun z=>j.aN.l.length-z.2) (fun z=>Option.bind (mh (jA n) (j.aN.l.drop z.2) z.1) m=some r) ((0:Int),0) b wA ?_;rintro ⟨g,o⟩ b L B;try dsimp only at b
  refine ax fun C p=>?_;refine af (S Mv (S Fv ?_));refine s0 (dH (TK rfl) rfl rfl (congrArg (fun x=>some (A.d x)) (ag.dB _))) rfl ?_;refine sLen (f:=ag.c) (s:=j.aN) (TK rfl) rfl rfl rfl rfl fun M=>?_;refine S BI (nil ?_);refine ah.bK (fun l=>Option.bind (mh (jA n) l g) m=some r) b rfl (fun N q i b=>?_) (fun i b=>?_)
  ·rw [mh] at b;try dsimp only at i
   have O:=oD i;refine sk p ?_;clear p C;refine ax fun E t=>?_;refine block ?_;refine region ?_;refine S Mv (S Fv ?_);refine s0 (dH (TK rfl) rfl rfl (congrArg (fun x=>some (A.d x)) (ag.dB _))) rfl ?_;refine S Mv ?_;obtain⟨P,F,b⟩:=vO q b;refine S (ix ag.c o F) (S Ld ?_);obtain⟨u,G,b⟩:=qO rfl b;refine Sc rfl rfl (v G) ?_
   refine s0 (HB rfl rfl) rfl ?_;refine S As (nil ?_);refine t _ ?_;clear t E;refine region ?_;refine S Mv ?_;refine SI ?_;refine S As (nil ?_);exact B _ ((if u>g then u else g),(o+1)) wA b (dl q)
  rw [mh] at b;have b:=ku y b;refine ah.exit ?_;obtain⟨Q,I,b⟩:=bT b;have b:=ku I b;exact w _ g wA b
 rintro R b;try dsimp only at b
 refine af (S Mv ?_);obtain⟨k,J,b⟩:=qT rfl b;refine s0 (eL rfl rfl J) rfl ?_;refine S As (nil ?_);exact rt b
theorem CB:∀(n:Nat),(xD (az:=az) n)
 | 0=>fun b=>by first|cases b|(rw [jA] at b; cases b)
 | n+1=>JI n (CB n)
def CC (b:ag):Option Int:=jA F0 b
theorem JJ {b:ag}{r:Int}(f:CC b=some r) (H:ak) :AC Tryz.prog 129 [.agg (ag.c b)] H fun v h'=>v=.a (.d (.int .i64 r))/\h'=H:=(CB F0) f H 
def xE (b:ag):Option Int:=jA F0 b
theorem JK (a0:ag):CC a0=xE a0:=rfl
def mi (g:(Sl Bs)) (f:Bs):Nat->Nat->Option (Unit ⊕ Bool)
 | 0,b=>some (Sum.inl ())
 | i+1,b=>on (f) fun j=>(g.l[b]?).bind fun k=>bif ((j==k)) then(some (Sum.inr true)) else(mi g f (i) (b+1) )
def kU (f:(Sl Bs)):List Bs->Nat->Option (Unit ⊕ Bool)
 | [],b=>some (Sum.inl ())
 | g::i,b=>Option.bind (mi f g b 0 ) fun j=>match j with|Sum.inl _=>(on (()) fun _=>kU f (i) (b+1) )|Sum.inr k=>(some (Sum.inr k))
def pX (b:(Sl Bs)):Option Bool:=Option.bind (kU b b.l 0 ) fun f=>match f with|Sum.inl _=>(on (()) fun _=>some false)|Sum.inr g=>(some g)
def xF (b:(Sl Bs)):Option Bool:=pX b
theorem JL (a0:(Sl Bs)):xF a0=pX a0:=rfl
theorem JM {g:Sl Bs}{w0:Option Nat}{r:Bool}(b:xF g=some r) (H:ak) :AC Tryz.prog 181 [.d (Sl.d 1 aI w0 g)] H fun v h'=>v=.a (.d (.bool r))/\h'=H:=by
 unfold xF pX at b;refine AC.oW 25 [.tmp 2] Tryz.call181 Tryz.func181 ?_;refine af (S As (nil ?_));refine aP kN (fun(z:Unit)=>[]) (fun z=>H) (fun z=>(some false)=some r) ?_ ?_
 ·intro R C;refine af (S As (nil ?_));refine block ?_;obtain⟨j,p,b⟩:=bY b;refine bp (TA 0 kN) (fun(z:Nat)=>[(3,.a (.d (.int .i64 ((z:Nat):Int))))]) (fun z=>H) (fun z=>g.l.length-z) (fun z=>Option.bind (kU g (g.l.drop z) z ) j=some r) 0 b wA ?_;rintro i b U E;try dsimp only at b
  refine ax fun F q=>?_;refine af (S Mv (S Mv ?_));refine sLen (f:=aI) (s:=g) (TK rfl) rfl rfl rfl rfl fun W=>?_;refine S BI (nil ?_);refine ah.bK (fun l=>Option.bind (kU g l i ) j=some r) b rfl (fun t u k b=>?_) (fun k b=>?_)
  ·rw [kU] at b;try dsimp only at k
   have X:=oD k;refine sk q ?_;clear q F;refine aP (TA 0 (TA 3 kN)) (fun(z:Unit)=>[]) (fun z=>H) (fun z=>Option.bind (kU g (g.l.drop (i+1)) (i+1) ) j=some r) ?_ ?_
   ·intro Y G;refine block ?_;refine af (S As (nil ?_));refine block ?_;obtain⟨w,x,b⟩:=dZ b;refine bp (TA 0 (TA 3 kN)) (fun(z:Nat)=>[(4,.a (.d (.int .i64 ((z:Nat):Int))))]) (fun z=>H) (fun z=>i-z) (fun z=>Option.bind (mi g t (i-z) z ) w=some r) 0 b wA ?_;rintro m b Z I;try dsimp only at b
    refine ax fun J y=>?_;refine af (S Mv (S Mv (S BI (nil ?_))));refine ah.BA (fun l=>Option.bind (mi g t l m ) w=some r) b rfl (fun K o b=>?_) (fun o b=>?_)
    ·rw [mi] at b;try dsimp only at o
     have aa:=oD o;refine sk y ?_;clear y J;refine ax fun L B=>?_;refine block ?_;refine ah.b5 (Sd Mv (Sd Mv ?_));obtain⟨ab,M,b⟩:=vO u b;refine Sd (ix aI i M) (Sd Ld (Sd Mv (Sd Mv ?_)));obtain⟨ad,N,b⟩:=qO rfl b;refine Sd (ix aI m N) (Sd Ld (Sd BS ?_));refine au.nil (by decide +kernel) ?_;refine cO b (fun O b=>?_) (fun O b=>?_)
     ·refine af (S As (nil ?_));refine ah.ret ?_;repeat (first|refine bE ?_|refine bF ?_)
      have b:=ku x b;have b:=ku p b;obtain rfl:=oJ b;refine bn.bG H rfl ⟨rfl,rfl⟩ ?_;exact(fun _ _ h=>h)
     refine sk B ?_;clear B L;refine region ?_;refine S Mv ?_;refine SI ?_;refine S As (nil ?_);exact I _ (m+1) wA b (dn K)
    rw [mi] at b;have b:=ku x b;try dsimp only at b
    refine ah.exit ?_;obtain⟨ae,P,b⟩:=gT b;have b:=ku P b;exact G _ () wA b
   rintro _ b;try dsimp only at b
   refine region ?_;refine S Mv ?_;refine SI ?_;refine S As (nil ?_);exact E _ (i+1) wA b (dl u)
  rw [kU] at b;have b:=ku p b;try dsimp only at b
  refine ah.exit ?_;obtain⟨ag,Q,b⟩:=bT b;have b:=ku Q b;exact C _ () wA b
 rintro _ b;try dsimp only at b
 refine af (S As (nil ?_));exact rt b
def pY (b:ag) (f:Bool):Option Bool:=bif (decide (b.ar=(0:Int))) then(some ((((decide (b.bx=(0:Int)))&&((b.bw==([]:Bs))))&&(decide (((b.aN.l.length:Nat):Int)=(0:Int))))&&(decide (((b.a_.l.length:Nat):Int)=(0:Int))))) else(bif (decide (b.ar=(1:Int))) then(some (((((decide (b.bx=(0:Int)))||(decide (b.bx=(1:Int))))&&((b.bw==([]:Bs))))&&(decide (((b.aN.l.length:Nat):Int)=(0:Int))))&&(decide (((b.a_.l.length:Nat):Int)=(0:Int))))) else(bif (decide (b.ar=(2:Int))) then(some ((((b.bw==([]:Bs)))&&(decide (((b.aN.l.length:Nat):Int)=(0:Int))))&&(decide (((b.a_.l.length:Nat):Int)=(0:Int))))) else(bif (decide (b.ar=(3:Int))) then(some (((decide (b.bx=(0:Int)))&&(decide (((b.aN.l.length:Nat):Int)=(0:Int))))&&(decide (((b.a_.l.length:Nat):Int)=(0:Int))))) else(bif (decide (b.ar=(4:Int))) then(on (bif (((decide (b.bx=(0:Int)))&&(decide (((b.aN.l.length:Nat):Int)=(0:Int))))&&(decide (((b.a_.l.length:Nat):Int)=(0:Int)))) then ff b.bw else false) fun g=>some (((((((decide (b.bx=(0:Int)))&&(decide (((b.aN.l.length:Nat):Int)=(0:Int))))&&(decide (((b.a_.l.length:Nat):Int)=(0:Int))))&&g)&&(!(b.bw==([116,114,117,101]:Bs))))&&(!(b.bw==([102,97,108,115,101]:Bs))))&&(!(b.bw==([110,117,108,108]:Bs))))) else(bif (decide (b.ar=(5:Int))) then(some (((decide (b.bx=(0:Int)))&&((b.bw==([]:Bs))))&&(decide (((b.a_.l.length:Nat):Int)=(0:Int))))) else(bif (decide (b.ar=(6:Int))) then(aU ((((decide (b.bx=(0:Int)))&&((b.bw==([]:Bs))))&&(decide (((b.a_.l.length:Nat):Int)=((b.aN.l.length:Nat):Int))))) (pX b.a_) false fun i=>some ((((decide (b.bx=(0:Int)))&&((b.bw==([]:Bs))))&&(decide (((b.a_.l.length:Nat):Int)=((b.aN.l.length:Nat):Int))))&&(!i))) else(bif (decide (b.ar=(7:Int))) then(on (bif (((f&&(decide (b.bx=(0:Int))))&&(decide (((b.aN.l.length:Nat):Int)=(0:Int))))&&(decide (((b.a_.l.length:Nat):Int)=(0:Int)))) then ff b.bw else false) fun j=>some ((((f&&(decide (b.bx=(0:Int))))&&(decide (((b.aN.l.length:Nat):Int)=(0:Int))))&&(decide (((b.a_.l.length:Nat):Int)=(0:Int))))&&j)) else(some false))))))))
def xG (f:ag) (b:Bool):Option Bool:=pY f b
theorem JN (a0:ag) (b:Bool):xG a0 b=pY a0 b:=rfl
theorem JO {g:ag}{i r:Bool}(b:xG g i=some r) (H:ak) :AC Tryz.prog 160 [.agg (ag.c g),.d (.bool i)] H fun v h'=>v=.a (.d (.bool r))/\h'=H:=by
 unfold xG pY at b;refine AC.oW 193 [.tmp 4] Tryz.call160 Tryz.func160 ?_;refine af (S BX (S As (nil ?_)));refine ax fun l j=>?_;refine af (S Fv (S Ld (nil ?_)));refine block ?_;refine af (S BI (S As (nil ?_)));refine cE b (fun m b=>?_) (fun m b=>?_)
 ·refine af (S Fv (S Ld (S BI (S Mv (G0 Fv ?_)))));refine G1 13 rfl Ld ?_;refine G1 14 rfl BS ?_;refine S PA (S Mv (G0 Fv ?_));refine gC rfl rfl (fun hC=>aL (k:=18) rfl (dH (TK rfl) rfl rfl (congrArg (fun x=>some (A.d x)) (ag.dB _)))) rfl ?_;refine gC rfl rfl (fun hC=>aL (k:=19) rfl (b8 (f:=ag.c) (s:=g.aN) (TK rfl) rfl rfl rfl)) rfl ?_;refine G1 20 rfl BI ?_;refine S PA (S Mv (G0 Fv ?_))
  refine G1 24 rfl Ld ?_;refine gC rfl rfl (fun hC=>aL (k:=25) rfl (b8 (f:=aI) (s:=g.a_) (TK rfl) rfl rfl rfl)) rfl ?_;refine G1 26 rfl BI ?_;refine S PA (S As (nil ?_));exact rt b
 refine af (S BI (S As (nil ?_)));refine cE b (fun o b=>?_) (fun o b=>?_)
 ·refine af (S Fv (S Ld (S BI (S Mv (G0 Fv ?_)))));refine G1 35 rfl Ld ?_;refine G1 36 rfl BI ?_;refine S PO (S Mv (G0 Fv ?_));refine G1 40 rfl Ld ?_;refine G1 41 rfl BS ?_;refine S PA (S Mv (G0 Fv ?_));refine gC rfl rfl (fun hC=>aL (k:=45) rfl (dH (TK rfl) rfl rfl (congrArg (fun x=>some (A.d x)) (ag.dB _)))) rfl ?_;refine gC rfl rfl (fun hC=>aL (k:=46) rfl (b8 (f:=ag.c) (s:=g.aN) (TK rfl) rfl rfl rfl)) rfl ?_
  refine G1 47 rfl BI ?_;refine S PA (S Mv (G0 Fv ?_));refine G1 51 rfl Ld ?_;refine gC rfl rfl (fun hC=>aL (k:=52) rfl (b8 (f:=aI) (s:=g.a_) (TK rfl) rfl rfl rfl)) rfl ?_;refine G1 53 rfl BI ?_;refine S PA (S As (nil ?_));exact rt b
 refine af (S BI (S As (nil ?_)));refine cE b (fun p b=>?_) (fun p b=>?_)
 ·refine af (S Fv (S Ld (S BS (S Mv (G0 Fv ?_)))));refine gC rfl rfl (fun hC=>aL (k:=62) rfl (dH (TK rfl) rfl rfl (congrArg (fun x=>some (A.d x)) (ag.dB _)))) rfl ?_;refine gC rfl rfl (fun hC=>aL (k:=63) rfl (b8 (f:=ag.c) (s:=g.aN) (TK rfl) rfl rfl rfl)) rfl ?_;refine G1 64 rfl BI ?_;refine S PA (S Mv (G0 Fv ?_));refine G1 68 rfl Ld ?_;refine gC rfl rfl (fun hC=>aL (k:=69) rfl (b8 (f:=aI) (s:=g.a_) (TK rfl) rfl rfl rfl)) rfl ?_
  refine G1 70 rfl BI ?_;refine S PA (S As (nil ?_));exact rt b
 refine af (S BI (S As (nil ?_)));refine cE b (fun q b=>?_) (fun q b=>?_)
 ·refine af (S Fv (S Ld (S BI (S Mv (G0 Fv ?_)))));refine gC rfl rfl (fun hC=>aL (k:=79) rfl (dH (TK rfl) rfl rfl (congrArg (fun x=>some (A.d x)) (ag.dB _)))) rfl ?_;refine gC rfl rfl (fun hC=>aL (k:=80) rfl (b8 (f:=ag.c) (s:=g.aN) (TK rfl) rfl rfl rfl)) rfl ?_;refine G1 81 rfl BI ?_;refine S PA (S Mv (G0 Fv ?_));refine G1 85 rfl Ld ?_;refine gC rfl rfl (fun hC=>aL (k:=86) rfl (b8 (f:=aI) (s:=g.a_) (TK rfl) rfl rfl rfl)) rfl ?_
  refine G1 87 rfl BI ?_;refine S PA (S As (nil ?_));exact rt b
 refine af (S BI (S As (nil ?_)));refine cE b (fun t b=>?_) (fun t b=>?_)
 ·refine af (S Fv (S Ld (S BI (S Mv (G0 Fv ?_)))));refine gC rfl rfl (fun hC=>aL (k:=96) rfl (dH (TK rfl) rfl rfl (congrArg (fun x=>some (A.d x)) (ag.dB _)))) rfl ?_;refine gC rfl rfl (fun hC=>aL (k:=97) rfl (b8 (f:=ag.c) (s:=g.aN) (TK rfl) rfl rfl rfl)) rfl ?_;refine G1 98 rfl BI ?_;refine S PA (S Mv (G0 Fv ?_));refine G1 102 rfl Ld ?_;refine gC rfl rfl (fun hC=>aL (k:=103) rfl (b8 (f:=aI) (s:=g.a_) (TK rfl) rfl rfl rfl)) rfl ?_
  refine G1 104 rfl BI ?_;refine S PA (S Mv (G0 Fv ?_));refine G1 108 rfl Ld ?_;obtain⟨E,u,b⟩:=tj (fun _=>(iA _)) b;refine c6 109 rfl rfl rfl rfl rfl (fun hC=>iB (u hC)) ?_;refine S PA (S Mv (G0 Fv ?_));refine G1 113 rfl Ld ?_;refine G1 114 rfl BS ?_;refine S PA (S Mv (G0 Fv ?_));refine G1 118 rfl Ld ?_;refine G1 119 rfl BS ?_;refine S PA (S Mv (G0 Fv ?_));refine G1 123 rfl Ld ?_
  refine G1 124 rfl BS ?_;refine S PA (S As (nil ?_));exact rt b
 refine af (S BI (S As (nil ?_)));refine cE b (fun w b=>?_) (fun w b=>?_)
 ·refine af (S Fv (S Ld (S BI (S Mv (G0 Fv ?_)))));refine G1 133 rfl Ld ?_;refine G1 134 rfl BS ?_;refine S PA (S Mv (G0 Fv ?_));refine G1 138 rfl Ld ?_;refine gC rfl rfl (fun hC=>aL (k:=139) rfl (b8 (f:=aI) (s:=g.a_) (TK rfl) rfl rfl rfl)) rfl ?_;refine G1 140 rfl BI ?_;refine S PA (S As (nil ?_));exact rt b
 refine af (S BI (S As (nil ?_)));refine cE b (fun y b=>?_) (fun y b=>?_)
 ·refine af (S Fv (S Ld (S BI (S Mv (G0 Fv ?_)))));refine G1 149 rfl Ld ?_;refine G1 150 rfl BS ?_;refine S PA (S Mv (G0 Fv ?_));refine G1 154 rfl Ld ?_;refine gC rfl rfl (fun hC=>aL (k:=155) rfl (b8 (f:=aI) (s:=g.a_) (TK rfl) rfl rfl rfl)) rfl ?_;refine G0 Fv ?_;refine gC rfl rfl (fun hC=>aL (k:=157) rfl (dH (TK rfl) rfl rfl (congrArg (fun x=>some (A.d x)) (ag.dB _)))) rfl ?_
  refine gC rfl rfl (fun hC=>aL (k:=158) rfl (b8 (f:=ag.c) (s:=g.aN) (TK rfl) rfl rfl rfl)) rfl ?_;refine G2 156 159 rfl rfl BI ?_;refine S PA (S Mv (G0 Fv ?_));refine G1 163 rfl Ld ?_;obtain⟨F,z,b⟩:=dR (JL _) b;refine c6 164 rfl rfl rfl rfl rfl (fun hC=>JM (z hC)) ?_;refine G1 165 rfl NB ?_;refine S PA (S As (nil ?_));exact rt b
 refine af (S BI (S As (nil ?_)));refine cE b (fun B b=>?_) (fun B b=>?_)
 ·refine af (S Mv (S Mv (G0 Fv ?_)));refine G1 172 rfl Ld ?_;refine G1 173 rfl BI ?_;refine S PA (S Mv (G0 Fv ?_));refine gC rfl rfl (fun hC=>aL (k:=177) rfl (dH (TK rfl) rfl rfl (congrArg (fun x=>some (A.d x)) (ag.dB _)))) rfl ?_;refine gC rfl rfl (fun hC=>aL (k:=178) rfl (b8 (f:=ag.c) (s:=g.aN) (TK rfl) rfl rfl rfl)) rfl ?_;refine G1 179 rfl BI ?_;refine S PA (S Mv (G0 Fv ?_))
  refine G1 183 rfl Ld ?_;refine gC rfl rfl (fun hC=>aL (k:=184) rfl (b8 (f:=aI) (s:=g.a_) (TK rfl) rfl rfl rfl)) rfl ?_;refine G1 185 rfl BI ?_;refine S PA (S Mv (G0 Fv ?_));refine G1 189 rfl Ld ?_;obtain⟨G,C,b⟩:=tj (fun _=>(iA _)) b;refine c6 190 rfl rfl rfl rfl rfl (fun hC=>iB (C hC)) ?_;refine S PA (S As (nil ?_));exact rt b
 refine sk j ?_;clear j l;refine af (S As (nil ?_));exact rt b
def pZ (b:Bool):List Bs->Unit ⊕ Bool
 | []=>Sum.inl ()
 | f::g=>on (bif b then f else([]:Bs)) fun i=>on (bif b then ff i else false) fun j=>bif (b&&(!j)) then(Sum.inr false) else(pZ b (g) )
def kV (b:Bool) (f:ag->Bool->Option Bool):List ag->Option (Unit ⊕ Bool)
 | []=>some (Sum.inl ())
 | g::i=>on (g) fun j=>(f j b).bind fun k=>bif (!k) then(some (Sum.inr false)) else(kV b f (i) )
def jB:Nat->ag->Bool->Option Bool
 | 0,_,_=>none
 | n+1,f,b=>(pY f b).bind fun g=>bif (!g) then(some false) else(on (pZ b f.a_.l ) fun i=>match i with|Sum.inl _=>(on (()) fun _=>Option.bind (kV b (jB n) f.aN.l ) fun j=>match j with|Sum.inl _=>(on (()) fun _=>some true)|Sum.inr k=>(some k))|Sum.inr m=>(some m))
def xH (n:Nat):Prop:=∀{a0:ag}{b:Bool}   {r:Bool},jB n a0 b=some r->∀(H:ak),AC Tryz.prog 130 [.agg (ag.c a0),.d (.bool b)] H fun v h'=>v=.a (.d (.bool r))/\h'=H
theorem JP (n:Nat) (I:xH (az:=az) n):xH (az:=az) (n+1):=by
 intro g i   r b H;rw [jB] at b;refine AC.oW 43 [.tmp 4] Tryz.call130 Tryz.func130 ?_;refine af (S BX (S As (nil ?_)));refine ax fun J o=>?_;refine af (S Ld (S Mv ?_));obtain⟨am,K,b⟩:=qT (JN _ _) b;refine Sc rfl rfl (JO K) ?_;refine S NB (nil ?_);refine cE b (fun L b=>?_) (fun L b=>?_)
 ·refine af (S As (nil ?_));exact rt b
 refine sk o ?_;clear o J;refine aP (TA 1 (TA 2 kN)) (fun(z:Unit)=>[]) (fun z=>H) (fun z=>(Option.bind (kV i (jB n) g.aN.l ) fun M=>match M with|Sum.inl _=>(on (()) fun _=>some true)|Sum.inr N=>(some N))=some r) ?_ ?_
 ·intro an O;refine af (S As (nil ?_));refine block ?_;obtain⟨p,q,b⟩:=bT b;refine bp (TA 1 (TA 2 kN)) (fun(z:Nat)=>[(5,.a (.d (.int .i64 ((z:Nat):Int))))]) (fun z=>H) (fun z=>g.a_.l.length-z) (fun z=>p (pZ i (g.a_.l.drop z) )=some r) 0 b wA ?_;rintro t b ao P;try dsimp only at b
  refine ax fun Q u=>?_;refine af (S Mv (S Fv (S Ld ?_)));refine sLen (f:=aI) (s:=g.a_) (TK rfl) rfl rfl rfl rfl fun ap=>?_;refine S BI (nil ?_);refine ah.bK (fun l=>p (pZ i l )=some r) b rfl (fun ar v j b=>?_) (fun j b=>?_)
  ·rw [pZ] at b;try dsimp only at j
   have au:=oD j;refine sk u ?_;clear u Q;refine ax fun R w=>?_;refine block ?_;refine af (S Mv (S Mv (G0 Fv ?_)));refine G1 20 rfl Ld ?_;refine G0 Mv ?_;obtain⟨av,U,b⟩:=kG (fun _=>v) b;refine gC rfl rfl (fun hC=>aL (k:=21) rfl (aL (k:=22) rfl (dI (f:=aI) (n:=t) (TK rfl) rfl (TK rfl) rfl rfl rfl (U hC)))) rfl ?_;refine G1 23 rfl Ld ?_
   obtain⟨aw,W,b⟩:=kG (fun _=>(iA _)) b;refine c6 24 rfl rfl rfl rfl rfl (fun hC=>iB (W hC)) ?_;refine G1 25 rfl NB ?_;refine S PA (nil ?_);refine cP b (fun X b=>?_) (fun X b=>?_)
   ·refine af (S As (nil ?_));refine ah.ret ?_;repeat (first|refine bE ?_|refine bF ?_)
    have b:=ku q b;obtain rfl:=oJ b;refine bn.bG H rfl ⟨rfl,rfl⟩ ?_;exact(fun _ _ h=>h)
   refine sk w ?_;clear w R;refine region ?_;refine S Mv ?_;refine SI ?_;refine S As (nil ?_);exact P _ (t+1) wA b (dl v)
  rw [pZ] at b;have b:=ku q b;try dsimp only at b
  refine ah.exit ?_;obtain⟨ay,Y,b⟩:=bT b;have b:=ku Y b;exact O _ () wA b
 rintro _ b;try dsimp only at b
 refine aP kN (fun(z:Unit)=>[]) (fun z=>H) (fun z=>(some true)=some r) ?_ ?_
 ·intro aA Z;refine af (S As (nil ?_));refine block ?_;obtain⟨y,B,b⟩:=bY b;refine bp (TA 1 (TA 2 kN)) (fun(z:Nat)=>[(6,.a (.d (.int .i64 ((z:Nat):Int))))]) (fun z=>H) (fun z=>g.aN.l.length-z) (fun z=>Option.bind (kV i (jB n) (g.aN.l.drop z) ) y=some r) 0 b wA ?_;rintro C b aC aa;try dsimp only at b
  refine ax fun ab E=>?_;refine af (S Mv (S Fv ?_));refine s0 (dH (TK rfl) rfl rfl (congrArg (fun x=>some (A.d x)) (ag.dB _))) rfl ?_;refine sLen (f:=ag.c) (s:=g.aN) (TK rfl) rfl rfl rfl rfl fun aD=>?_;refine S BI (nil ?_);refine ah.bK (fun l=>Option.bind (kV i (jB n) l ) y=some r) b rfl (fun aE F m b=>?_) (fun m b=>?_)
  ·rw [kV] at b;try dsimp only at m
   have aF:=oD m;refine sk E ?_;clear E ab;refine ax fun ad G=>?_;refine block ?_;refine af (S Fv ?_);refine s0 (dH (TK rfl) rfl rfl (congrArg (fun x=>some (A.d x)) (ag.dB _))) rfl ?_;refine S Mv ?_;obtain⟨aG,ae,b⟩:=vO F b;refine S (ix ag.c C ae) (S Ld (S Mv ?_));obtain⟨aH,ai,b⟩:=qO rfl b;refine Sc rfl rfl (I ai) ?_;refine S NB (nil ?_)
   refine cO b (fun aj b=>?_) (fun aj b=>?_)
   ·refine af (S As (nil ?_));refine ah.ret ?_;repeat (first|refine bE ?_|refine bF ?_)
    have b:=ku B b;obtain rfl:=oJ b;refine bn.bG H rfl ⟨rfl,rfl⟩ ?_;exact(fun _ _ h=>h)
   refine sk G ?_;clear G ad;refine region ?_;refine S Mv ?_;refine SI ?_;refine S As (nil ?_);exact aa _ (C+1) wA b (dl F)
  rw [kV] at b;have b:=ku B b;try dsimp only at b
  refine ah.exit ?_;obtain⟨aJ,al,b⟩:=bT b;have b:=ku al b;exact Z _ () wA b
 rintro _ b;try dsimp only at b
 refine af (S As (nil ?_));exact rt b
theorem CD:∀(n:Nat),(xH (az:=az) n)
 | 0=>fun b=>by first|cases b|(rw [jB] at b; cases b)
 | n+1=>JP n (CD n)
def CE (f:ag) (b:Bool):Option Bool:=jB F0 f b
theorem JQ {f:ag}{b r:Bool}(g:CE f b=some r) (H:ak) :AC Tryz.prog 130 [.agg (ag.c f),.d (.bool b)] H fun v h'=>v=.a (.d (.bool r))/\h'=H:=(CD F0) g H 
def CF (f:ag) (b:Bool):Option Bool:=jB F0 f b
theorem JR (a0:ag) (b:Bool):CE a0 b=CF a0 b:=rfl
def nY (f:ag):Option Bool:=(xC f).bind fun b=>aU ((decide (b<=(4096:Int)))) (xE f) (0:Int) fun g=>aU (((decide (b<=(4096:Int)))&&(decide (g<=(24:Int))))) (CF f true) false fun i=>some (((decide (b<=(4096:Int)))&&(decide (g<=(24:Int))))&&i)
def tX (b:ag):Option Bool:=nY b
theorem CG (a0:ag):tX a0=nY a0:=rfl
theorem CH {f:ag}{r:Bool}(b:tX f=some r) (H:ak) :AC Tryz.prog 96 [.agg (ag.c f)] H fun v h'=>v=.a (.d (.bool r))/\h'=H:=by
 unfold tX nY at b;refine AC.oW 15 [.tmp 2] Tryz.call96 Tryz.func96 ?_;refine af (S BX (S As (nil ?_)));refine af (S Ld ?_);obtain⟨k,g,b⟩:=qT (JH _) b;refine Sc rfl rfl (JG g) ?_;refine S BI (S Mv (G0 Ld ?_));obtain⟨l,i,b⟩:=dR (JK _) b;refine c6 7 rfl rfl rfl rfl rfl (fun hC=>JJ (i hC)) ?_;refine G1 8 rfl BI ?_;refine S PA (S Mv (G0 Ld ?_));obtain⟨m,j,b⟩:=dR (JR _ _) b
 refine c6 12 rfl rfl rfl rfl rfl (fun hC=>JQ (j hC)) ?_;refine S PA (S As (nil ?_));exact rt b
def mj (b:ag->Option Bool):List ag->Option (Unit ⊕ Bool)
 | []=>some (Sum.inl ())
 | f::g=>on (f) fun i=>(b i).bind fun j=>bif (!j) then(some (Sum.inr false)) else(mj b (g) )
def jZ:Nat->ag->Option Bool
 | 0,_=>none
 | n+1,b=>Option.bind (mj (jZ n) b.aN.l ) fun f=>match f with|Sum.inl _=>(on (()) fun _=>some (!decide (b.ar=(7:Int))))|Sum.inr g=>(some g)
def xI (n:Nat):Prop:=∀{a0:ag}   {r:Bool},jZ n a0=some r->∀(H:ak),AC Tryz.prog 97 [.agg (ag.c a0)] H fun v h'=>v=.a (.d (.bool r))/\h'=H
theorem JS (n:Nat) (t:xI (az:=az) n):xI (az:=az) (n+1):=by
 intro g   r b H;rw [jZ] at b;refine AC.oW 21 [.tmp 2] Tryz.call97 Tryz.func97 ?_;refine af (S BX (S As (nil ?_)));refine aP (TA 1 kN) (fun(z:Unit)=>[]) (fun z=>H) (fun z=>(some (!decide (g.ar=(7:Int))))=some r) ?_ ?_
 ·intro G u;refine af (S As (nil ?_));refine block ?_;obtain⟨j,k,b⟩:=bY b;refine bp (TA 1 kN) (fun(z:Nat)=>[(3,.a (.d (.int .i64 ((z:Nat):Int))))]) (fun z=>H) (fun z=>g.aN.l.length-z) (fun z=>Option.bind (mj (jZ n) (g.aN.l.drop z) ) j=some r) 0 b wA ?_;rintro m b I v;try dsimp only at b
  refine ax fun w o=>?_;refine af (S Mv (S Fv ?_));refine s0 (dH (TK rfl) rfl rfl (congrArg (fun x=>some (A.d x)) (ag.dB _))) rfl ?_;refine sLen (f:=ag.c) (s:=g.aN) (TK rfl) rfl rfl rfl rfl fun J=>?_;refine S BI (nil ?_);refine ah.bK (fun l=>Option.bind (mj (jZ n) l ) j=some r) b rfl (fun K p i b=>?_) (fun i b=>?_)
  ·rw [mj] at b;try dsimp only at i
   have L:=oD i;refine sk o ?_;clear o w;refine ax fun y q=>?_;refine block ?_;refine af (S Fv ?_);refine s0 (dH (TK rfl) rfl rfl (congrArg (fun x=>some (A.d x)) (ag.dB _))) rfl ?_;refine S Mv ?_;obtain⟨M,B,b⟩:=vO p b;refine S (ix ag.c m B) (S Ld ?_);obtain⟨N,C,b⟩:=qO rfl b;refine Sc rfl rfl (t C) ?_;refine S NB (nil ?_);refine cO b (fun E b=>?_) (fun E b=>?_)
   ·refine af (S As (nil ?_));refine ah.ret ?_;repeat (first|refine bE ?_|refine bF ?_)
    have b:=ku k b;obtain rfl:=oJ b;refine bn.bG H rfl ⟨rfl,rfl⟩ ?_;exact(fun _ _ h=>h)
   refine sk q ?_;clear q y;refine region ?_;refine S Mv ?_;refine SI ?_;refine S As (nil ?_);exact v _ (m+1) wA b (dl p)
  rw [mj] at b;have b:=ku k b;try dsimp only at b
  refine ah.exit ?_;obtain⟨O,F,b⟩:=bT b;have b:=ku F b;exact u _ () wA b
 rintro _ b;try dsimp only at b
 refine af (S Fv (S Ld (S BI (S As (nil ?_)))));exact rt b
theorem CI:∀(n:Nat),(xI (az:=az) n)
 | 0=>fun b=>by first|cases b|(rw [jZ] at b; cases b)
 | n+1=>JS n (CI n)
def xJ (b:ag):Option Bool:=jZ F0 b
theorem CJ {b:ag}{r:Bool}(f:xJ b=some r) (H:ak) :AC Tryz.prog 97 [.agg (ag.c b)] H fun v h'=>v=.a (.d (.bool r))/\h'=H:=(CI F0) f H 
def tY (b:ag):Option Bool:=jZ F0 b
theorem CK (a0:ag):xJ a0=tY a0:=rfl
def p4  :Option Bool:=some true
def p5 (b:Nat) (f:Nat->Option Bool) :Option Bool:=f (b+1)
def p6 (j:(Sl av)) (b:Nat) (k:Nat->Option Bool):Nat->Nat->Option Bool
 | 0,_=>none
 | o+1,f=>(j.l[b]?).bind fun p=>bif (decide (((f:Nat):Int)<((p.aF.l.length:Nat):Int))) then((j.l[b]?).bind fun q=>(q.aF.l[f]?).bind fun g=>(q6 g.aa).bind fun i=>aU (!(!i)) (tX g.eW) false fun m=>aU (!((!i)||(!m))) (xJ g.eW) false fun r=>bif (((!i)||(!m))||(!r)) then(some false) else((p6 j b k o) (f+1))) else(p5 b k )
def kW (b:(Sl av)) :Nat->Nat->Option Bool
 | 0,_=>none
 | i+1,f=>bif (decide (((f:Nat):Int)<((b.l.length:Nat):Int))) then((b.l[f]?).bind fun j=>(q6 j.aa).bind fun g=>aU (!(!g)) (b.l[f]?) av.zero fun k=>bif ((!g)||(decide ((16:Int)<((k.aF.l.length:Nat):Int)))) then(some false) else(p6 b f ((kW b i)) (Option.elim (b.l[f]?) 1 (fun m=>m.aF.l.length+1)) 0)) else(p4   )
def tZ (b:(Sl av)):Option Bool:=bif (decide ((16:Int)<((b.l.length:Nat):Int))) then(some false) else(kW b (b.l.length+1) 0)
theorem t_ {g:Sl av}{w0:Option Nat}{r:Bool}(b:tZ g=some r) (H:ak) :AC Tryz.prog 57 [.d (Sl.d 2 av.c w0 g)] H fun v h'=>v=.a (.d (.bool r))/\h'=H:=by
 unfold tZ at b;refine AC.oW 65 [.tmp 2] Tryz.call57 Tryz.func57 ?_;refine af (S As (nil ?_));refine ax fun C t=>?_;refine af (S Mv ?_);refine sLen (f:=av.c) (s:=g) (TK rfl) rfl rfl rfl rfl fun ae=>?_;refine S BI (nil ?_);refine cE b (fun E b=>?_) (fun E b=>?_)
 ·refine af (S As (nil ?_));exact rt b
 refine sk t ?_;clear t C;refine aP kN (fun(z:Unit)=>[]) (fun z=>H) (fun z=>p4 =some r) ?_ ?_
 ·intro ag F;refine af (S As (nil ?_));refine block ?_;refine bp (TA 0 kN) (fun(z:Nat×Nat)=>[(3,.a (.d (.int .i64 ((z.2:Nat):Int))))]) (fun z=>H) (fun z=>z.1) (fun z=>kW g z.1 z.2=some r) ((g.l.length+1),0) b wA ?_;rintro ⟨j,i⟩ b ai G;try dsimp only at b
  cases j with
  | zero=>cases b
  | succ j =>
    rw [kW] at b;refine ax fun I u=>?_;refine af (S Mv (S Mv ?_));refine sLen (f:=av.c) (s:=g) (TK rfl) rfl rfl rfl rfl fun aj=>?_;refine S BI (nil ?_);refine cE b (fun m b=>?_) (fun m b=>?_)
    ·try dsimp only at m
     have al:=oD m;refine sk u ?_;clear u I;refine aP (TA 0 (TA 3 kN)) (fun(z:Unit)=>[]) (fun z=>H) (fun z=>p5 i ((kW g j)) =some r) ?_ ?_
     ·intro am J;refine block ?_;refine ax fun K w=>?_;refine af (S Mv (S Mv ?_));obtain⟨an,L,b⟩:=bO b;refine S (ix av.c i L) (S Fv (S Ld ?_));obtain⟨ao,M,b⟩:=bO b;refine Sc rfl rfl (iB M) ?_;refine S NB (S Mv (G0 Mv (G0 Mv ?_)));obtain⟨N,O,b⟩:=gO b;refine gC rfl rfl (fun hC=>aL (k:=23) rfl (aL (k:=24) rfl (dI (f:=av.c) (n:=i) (TK rfl) rfl (TK rfl) rfl rfl rfl (O hC)))) rfl ?_
      refine G1 25 rfl Fv ?_;refine G1 26 rfl Ld ?_;refine gC rfl rfl (fun hC=>aL (k:=27) rfl (b8 (f:=bz.c) (s:=N.aF) (TK rfl) rfl rfl rfl)) rfl ?_;refine G1 28 rfl BI ?_;refine S PO (nil ?_);refine cE b (fun P b=>?_) (fun P b=>?_)
      ·refine af (S As (nil ?_));exact rt b
      refine sk w ?_;clear w K;refine af (S As (nil ?_));refine block ?_;refine bp (TA 0 (TA 3 kN)) (fun(z:Nat×Nat)=>[(4,.a (.d (.int .i64 ((z.2:Nat):Int))))]) (fun z=>H) (fun z=>z.1) (fun z=>p6 g i ((kW g j)) z.1 z.2=some r) ((Option.elim (g.l[i]?) 1 (fun o=>o.aF.l.length+1)),0) b wA ?_;rintro ⟨p,x⟩ b ap Q;try dsimp only at b
      cases p with
      | zero=>cases b
      | succ p =>
        rw [p6] at b;refine ax fun R y=>?_;refine af (S Mv (S Mv (S Mv ?_)));obtain⟨o,U,b⟩:=bO b;refine S (ix av.c i U) (S Fv (S Ld ?_));refine sLen (f:=bz.c) (s:=o.aF) (TK rfl) rfl rfl rfl rfl fun ar=>?_;refine S BI (nil ?_);refine cE b (fun q b=>?_) (fun q b=>?_)
        ·try dsimp only at q
         have au:=oD q;refine sk y ?_;clear y R;refine ax fun W B=>?_;refine block ?_;refine af (S Mv (S Mv ?_));obtain⟨aw,X,b⟩:=bO b;refine S (ix av.c i X) (S Fv (S Ld (S Mv ?_)));obtain⟨ay,Y,b⟩:=bO b;refine S (ix bz.c x Y) (S Ld ?_);refine Sl ?_;refine Sf ?_;refine nil ?_;refine bA 5 _ rfl (KA 0 (KA 3 (KA 4 aY.nil))) ?_;refine af (S Fv (S Ld ?_))
         obtain⟨az,Z,b⟩:=bO b;refine Sc rfl rfl (iB Z) ?_;refine S NB (S Mv (G0 Fv ?_));refine G1 54 rfl Ld ?_;obtain⟨aA,aa,b⟩:=gO b;refine c6 55 rfl rfl rfl rfl rfl (fun hC=>CH (aa hC)) ?_;refine G1 56 rfl NB ?_;refine S PO (S Mv (G0 Fv ?_));refine G1 60 rfl Ld ?_;obtain⟨aC,ab,b⟩:=gO b;refine c6 61 rfl rfl rfl rfl rfl (fun hC=>CJ (ab hC)) ?_;refine G1 62 rfl NB ?_
         refine S PO (nil ?_);refine cE b (fun ad b=>?_) (fun ad b=>?_)
         ·refine af (S As (nil ?_));exact rt b
         refine sk B ?_;clear B W;refine region ?_;refine S Mv ?_;refine SI ?_;refine S As (nil ?_);exact Q _ (p,(x+1)) wA b (nS _)
        refine ah.exit ?_;exact J _ () wA b
     rintro _ b;try dsimp only at b
     unfold p5 at b;refine region ?_;refine S Mv ?_;refine SI ?_;refine S As (nil ?_);exact G _ (j,(i+1)) wA b (nS _)
    refine ah.exit ?_;exact F _ () wA b
 rintro _ b;try dsimp only at b
 unfold p4 at b;refine af (S As (nil ?_));exact rt b
def nZ (g:av):List bz->Option (Unit ⊕ Bool)
 | []=>some (Sum.inl ())
 | j::k=>on (g) fun m=>on (j) fun b=>on (ff b.aa) fun f=>aU (!(!f)) (nY b.eW) false fun i=>aU (!((!f)||(!i))) (tY b.eW) false fun l=>bif (((!f)||(!i))||(!l)) then(some (Sum.inr false)) else(nZ g (k) )
theorem JT {q:Sl av}{j:Nat}{m:Nat->Option Bool}{i:av}(o:q.l[j]?=some i) (k:(Unit ⊕ Bool)->Option Bool) (r:∀(b:Nat) (f:Nat),p5 j m =k (Sum.inl ())) (s:∀e:Bool,some e=k (Sum.inr e)):∀(b:Nat) (f:Nat),(0<b/\i.aF.l.length<f+b)->p6 q j m b f=Option.bind (nZ i (i.aF.l.drop f) ) k:=by
 intro b;induction b with
 | zero=>intro f hn; exact absurd hn.1 (by omega)
 | succ b t =>
  intro f hn;rw [p6];refine Q.preB o fun u v=>?_;subst v;by_cases aT:f<u.aF.l.length
  ·obtain⟨w,g⟩:=Qa aT;rw [Q.gq g,nZ];refine QT aT ?_;refine Q.e9 o fun x p=>?_;refine Q.e9 (by first|exact g|(simp only [p]; exact g)|(simp only [p] at g ⊢; exact g)) fun y z=>?_;refine Q.e9 (iA _) fun B C=>?_;refine Q.nK (CG _) fun E=>?_;refine Q.nK (CK _) fun F=>?_;refine Q.ir ?_ ?_
   ·all_goals exact s _
   all_goals exact t _ ⟨by omega,by omega⟩
  rw [dL (by omega),nZ];refine QF aT ?_;exact r b f
def n9 :List av->Option (Unit ⊕ Bool)
 | []=>some (Sum.inl ())
 | b::g=>on (b) fun i=>on (ff i.aa) fun f=>on (bif !(!f) then b else av.zero) fun j=>bif ((!f)||(decide ((16:Int)<((j.aF.l.length:Nat):Int)))) then(some (Sum.inr false)) else(Option.bind (nZ b b.aF.l ) fun k=>match k with|Sum.inl _=>(on (()) fun _=>n9  (g) )|Sum.inr m=>(some (Sum.inr m)))
theorem JU {i:Sl av}(j:(Unit ⊕ Bool)->Option Bool) (o:∀(b:Nat) (f:Nat),p4   =j (Sum.inl ())) (k:∀e:Bool,some e=j (Sum.inr e)):∀(b:Nat) (f:Nat),(0<b/\i.l.length<f+b)->kW i b f=Option.bind (n9  (i.l.drop f) ) j:=by
 intro b;induction b with
 | zero=>intro f hn; exact absurd hn.1 (by omega)
 | succ b p =>
  intro f hn;rw [kW];by_cases aT:f<i.l.length
  ·obtain⟨u,g⟩:=Qa aT;rw [Q.gq g,n9];refine QT aT ?_;refine Q.e9 g fun v w=>?_;refine Q.e9 (iA _) fun x y=>?_;refine Q.vW g fun z B=>?_;refine Q.ir ?_ ?_
   ·all_goals exact k _
   refine Q.iu fun q m=>?_;refine JT g q ?_ ?_ _ _ ⟨by rw [g]; exact Nat.succ_pos _,by rw [g]; simp only [Option.elim]; omega⟩
   ·intro C E;refine Qe (m _) ?_;try dsimp only
    refine Q.jQ fun r s=>?_;have t:p5 f (kW i b) =r ():=by
     refine Qe (s _) ?_;unfold p5;all_goals exact p _ ⟨by omega,by omega⟩
    all_goals exact t
   intro F;refine Qe (m _) ?_;try dsimp only
   all_goals exact k _
  rw [dL (by omega),n9];refine QF aT ?_;exact o b f
def mm (b:(Sl av)):Option Bool:=bif (decide ((16:Int)<((b.l.length:Nat):Int))) then(some false) else(Option.bind (n9  b.l ) fun f=>match f with|Sum.inl _=>(on (()) fun _=>some true)|Sum.inr g=>(some g))
theorem ua (a0:(Sl av)):tZ a0=mm a0:=by
 unfold tZ mm;refine Qs ?_;refine Q.ir ?_ ?_
 ·all_goals rfl
 refine Q.iu fun f b=>?_;refine JU  f ?_ ?_ _ _ ⟨Nat.succ_pos _,by omega⟩
 ·intro k l;refine Qe (b _) ?_;try dsimp only
  refine Q.jQ fun g i=>?_;have j:p4  =g ():=by
   refine Qe (i _) ?_;unfold p4;all_goals rfl
  all_goals exact j
 intro m;refine Qe (b _) ?_;try dsimp only
 all_goals rfl
def mo (j:aG):List Int->Nat->Option (Unit ⊕ Bool)
 | [],b=>some (Sum.inl ())
 | f::k,b=>on (f) fun i=>on (bif (!decide (i=(1:Int))) then f else(0:Int)) fun m=>bif ((!decide (i=(1:Int)))&&(!decide (m=(2:Int)))) then(some (Sum.inr false)) else(on (bif (decide ((0:Int)<((b:Nat):Int))) then f else(0:Int)) fun g=>aU (((decide ((0:Int)<((b:Nat):Int)))&&(decide (g=(1:Int))))) (nH ((b:Nat):Int) (1:Int)) (0:Int) fun o=>aU (((decide ((0:Int)<((b:Nat):Int)))&&(decide (g=(1:Int))))) (cI j.aK.l o) (0:Int) fun p=>bif (((decide ((0:Int)<((b:Nat):Int)))&&(decide (g=(1:Int))))&&(decide (p=(1:Int)))) then(some (Sum.inr false)) else(mo j (k) (b+1) ))
def oa (b:aG):Option Bool:=on (ff b.aa) fun f=>bif ((!f)||(decide ((24:Int)<((b.aK.l.length:Nat):Int)))) then(some false) else(Option.bind (mo b b.aK.l 0 ) fun g=>match g with|Sum.inl _=>(on (()) fun _=>some true)|Sum.inr i=>(some i))
def xK (b:aG):Option Bool:=oa b
theorem CL (a0:aG):xK a0=oa a0:=rfl
theorem CM {g:aG}{r:Bool}(b:xK g=some r) (H:ak) :AC Tryz.prog 98 [.agg (aG.c g)] H fun v h'=>v=.a (.d (.bool r))/\h'=H:=by
 unfold xK oa at b;refine AC.oW 54 [.tmp 2] Tryz.call98 Tryz.func98 ?_;refine af (S BX (S As (nil ?_)));refine ax fun x p=>?_;refine af (S Fv (S Ld ?_));obtain⟨R,y,b⟩:=vT (iA _) b;refine Sc rfl rfl (iB y) ?_;refine S NB (S Mv (G0 Fv ?_));refine G1 9 rfl Ld ?_;refine gC rfl rfl (fun hC=>aL (k:=10) rfl (b8 (f:=(bJ .i64)) (s:=g.aK) (TK rfl) rfl rfl rfl)) rfl ?_
 refine G1 11 rfl BI ?_;refine S PO (nil ?_);refine cE b (fun B b=>?_) (fun B b=>?_)
 ·refine af (S As (nil ?_));exact rt b
 refine sk p ?_;clear p x;refine aP kN (fun(z:Unit)=>[]) (fun z=>H) (fun z=>(some true)=some r) ?_ ?_
 ·intro U C;refine af (S As (nil ?_));refine block ?_;obtain⟨q,m,b⟩:=bY b;refine bp (TA 1 kN) (fun(z:Nat)=>[(3,.a (.d (.int .i64 ((z:Nat):Int))))]) (fun z=>H) (fun z=>g.aK.l.length-z) (fun z=>Option.bind (mo g (g.aK.l.drop z) z ) q=some r) 0 b wA ?_;rintro i b W E;try dsimp only at b
  refine ax fun F t=>?_;refine af (S Mv (S Fv (S Ld ?_)));refine sLen (f:=(bJ .i64)) (s:=g.aK) (TK rfl) rfl rfl rfl rfl fun X=>?_;refine S BI (nil ?_);refine ah.bK (fun l=>Option.bind (mo g l i ) q=some r) b rfl (fun Y j o b=>?_) (fun o b=>?_)
  ·rw [mo] at b;try dsimp only at o
   have Z:=oD o;refine sk t ?_;clear t F;refine ax fun G u=>?_;refine block ?_;refine ax fun I w=>?_;refine af (S Fv (S Ld (S Mv ?_)));obtain⟨aa,J,b⟩:=vO j b;refine S (ix (bJ .i64) i J) ?_;refine S Ld (S BI (S Mv (G0 Fv ?_)));refine G1 28 rfl Ld ?_;refine G0 Mv ?_;obtain⟨ab,K,b⟩:=eB (fun _=>j) b;refine gC rfl rfl (fun hC=>aL (k:=29) rfl (aL (k:=30) rfl (dI (f:=(bJ .i64)) (n:=i) (TK rfl) rfl (TK rfl) rfl rfl rfl (K hC)))) rfl ?_
   refine G1 31 rfl Ld ?_;refine G1 32 rfl BI ?_;refine S PA (nil ?_);refine cO b (fun L b=>?_) (fun L b=>?_)
   ·refine af (S As (nil ?_));refine ah.ret ?_;repeat (first|refine bE ?_|refine bF ?_)
    have b:=ku m b;obtain rfl:=oJ b;refine bn.bG H rfl ⟨rfl,rfl⟩ ?_;exact(fun _ _ h=>h)
   refine sk w ?_;clear w I;refine af (S Mv (S BI (S Mv (G0 Fv ?_))));refine G1 38 rfl Ld ?_;refine G0 Mv ?_;obtain⟨ad,M,b⟩:=eB (fun _=>j) b;refine gC rfl rfl (fun hC=>aL (k:=39) rfl (aL (k:=40) rfl (dI (f:=(bJ .i64)) (n:=i) (TK rfl) rfl (TK rfl) rfl rfl rfl (M hC)))) rfl ?_;refine G1 41 rfl Ld ?_;refine G1 42 rfl BI ?_;refine S PA (S Mv (G0 Fv ?_));refine G1 46 rfl Ld ?_
   refine G0 Mv ?_;obtain⟨ae,N,b⟩:=eC rfl b;refine gC rfl rfl (fun hC=>aL (k:=48) rfl (Br rfl rfl (N hC))) rfl ?_;obtain⟨ag,O,b⟩:=eC rfl b;refine gC rfl rfl (fun hC=>aL (k:=47) rfl (aL (k:=49) rfl (je (f:=(bJ .i64)) (TK rfl) rfl (TK rfl) rfl rfl rfl (O hC)))) rfl ?_;refine G1 50 rfl Ld ?_;refine G1 51 rfl BI ?_;refine S PA (nil ?_);refine cO b (fun P b=>?_) (fun P b=>?_)
   ·refine af (S As (nil ?_));refine ah.ret ?_;repeat (first|refine bE ?_|refine bF ?_)
    have b:=ku m b;obtain rfl:=oJ b;refine bn.bG H rfl ⟨rfl,rfl⟩ ?_;exact(fun _ _ h=>h)
   refine sk u ?_;clear u G;refine region ?_;refine S Mv ?_;refine SI ?_;refine S As (nil ?_);exact E _ (i+1) wA b (dl j)
  rw [mo] at b;have b:=ku m b;try dsimp only at b
  refine ah.exit ?_;obtain⟨ai,Q,b⟩:=bT b;have b:=ku Q b;exact C _ () wA b
 rintro _ b;try dsimp only at b
 refine af (S As (nil ?_));exact rt b
end Go.Proofs
