import Derived.Test.YtgkmefkmmafocaaGreatDoorV2
set_option maxRecDepth 100000
set_option maxHeartbeats 2000000
set_option linter.unusedVariables false
set_option linter.unusedSimpArgs false
namespace Go.Proofs
open Go Go.Ab
open aP ar ah aS fp
variable {ax:bK}
def gU (g:az) (m:Int) (i:Z4->az->af->Int->Option (af×Z4)):List af->Z4->af->Option ((Z4×af))
 | [],f,b=>some (f,b)
 | o::p,f,b=>bif (decide (f.cH=(0:Int))) then(on (o) fun q=>(cG m (1:Int)).bind fun r=>(i f g q r).bind fun j=>(aW 80 b.aD (⟨false,[j.1]⟩:Sl af)).bind fun k=>gU g m i (p) j.2 (af.mk b.an b.bl b.bg k.nl k.l b.aN)) else(some (f,b))
def ic (f:aj):List Bs->Z4->Z4
 | [],b=>b
 | g::i,b=>on (g) fun j=>on (gQ f.aL j) fun k=>on (bif (!k.2) then(on (eM b (22:Int)) fun l=>l) else(b)) fun m=>ic f (i) m
def fQ (o:aj) (v:af) (m:Int) (p:Z4->az->af->Int->Option (af×Z4)) (q:Z4->az->af->Int->Option (af×Z4)):List Z8->Nat->Z4->af->Option ((Z4×af))
 | [],j,b,f=>some (b,f)
 | w::x,j,b,f=>bif (decide (b.cH=(0:Int))) then(on (w) fun g=>(q6 o.aL ((j:Nat):Int)).bind fun y=>Option.bind (bif y then(some (b,f)) else((jy v g.aa).bind fun i=>aR (i.2) (mD b i.1) false fun z=>on (fun(B:Z4) (C:af)=>(aW 16 f.aN (⟨false,[g.aa]⟩:Sl Bs)).bind fun E=>(aW 80 f.aD (⟨false,[C]⟩:Sl af)).bind fun r=>some (B,(af.mk f.an f.bl f.bg r.nl r.l E))) fun k=>bif (i.2&&(!z)) then((cG m (1:Int)).bind fun F=>(p b g.aA i.1 F).bind fun s=>k s.2 s.1) else(bif g.bY then((cG m (1:Int)).bind fun G=>(q b g.aA g.cB G).bind fun t=>k t.2 t.1) else(on (gj g.aA) fun H=>bif H then(on (eM b (22:Int)) fun I=>k I af.zero) else(some (b,f)))))) fun u=>fQ o v m p q (x) (j+1) u.1 u.2) else(some (b,f))
mutual
def dY:Nat->Z4->az->af->Int->Option (af×Z4)
 | 0,_,_,_,_=>none
 | n+1,f,g,l,j=>on (gR f.Fd g.aa) fun v=>bif (!v) then(on (eM f (10:Int)) fun w=>some ((af.mk (0:Int) (0:Int) ([]:Bs) true ([]) (Sl.nil:Sl Bs)),w)) else(on (fun(x:Z4) (i:af)=>(iO x j).bind fun b=>bif (!decide (b.cH=(0:Int))) then(some ((af.mk (0:Int) (0:Int) ([]:Bs) true ([]) (Sl.nil:Sl Bs)),b)) else(bif (decide (i.an=(0:Int))) then(on (gj g) fun y=>on (bif y then(on (eM b (23:Int)) fun z=>z) else(b)) fun B=>some ((af.mk (0:Int) (0:Int) ([]:Bs) true ([]) (Sl.nil:Sl Bs)),B)) else((jx g).bind fun m=>bif m.2 then(((iQ n) b m.1 i j).bind fun o=>some (o.1,o.2)) else(on (gJ g.aa) fun C=>bif C then((iz b g.aa i).bind fun p=>some (p.1,p.2)) else(on (eA b.Fd g.aa) fun k=>bif (decide (k.1.an=(4:Int))) then(on (iA b k.1 i) fun q=>some (q.1,q.2)) else(((iR n) b k.1 i j).bind fun r=>some (r.1,r.2))))))) fun s=>bif (f.eO&&(decide (l.an=(7:Int)))) then((jy f.ep l.bg).bind fun t=>bif (!decide (t.1.an=(0:Int))) then((xL f t.1 j).bind fun u=>some (u.1,u.2)) else(s f (af.mk (0:Int) (0:Int) ([]:Bs) true ([]) (Sl.nil:Sl Bs)))) else(s f l))
def iQ:Nat->Z4->az->af->Int->Option (af×Z4)
 | 0,_,_,_,_=>none
 | n+1,k,i,b,m=>on (bif (decide (b.an=(5:Int))) then(b.aD) else((⟨false,[b]⟩:Sl af))) fun j=>Option.bind (gU i m (dY n) j.l k (af.mk (5:Int) (0:Int) ([]:Bs) true ([]) (Sl.nil:Sl Bs))) fun f=>on ((f.1,f.2)) fun g=>some (g.2,g.1)
def iR:Nat->Z4->aj->af->Int->Option (af×Z4)
 | 0,_,_,_,_=>none
 | n+1,j,b,f,p=>bif (!decide (f.an=(6:Int))) then(on (eM j (23:Int)) fun k=>some ((af.mk (0:Int) (0:Int) ([]:Bs) true ([]) (Sl.nil:Sl Bs)),k)) else(on (ic b f.aN.l j) fun m=>on (m) fun o=>Option.bind (fQ b f p (dY n) (fV n) b.aL.l 0 o (af.mk (6:Int) (0:Int) ([]:Bs) true ([]) (Sl.nil:Sl Bs))) fun g=>on ((g.1,g.2)) fun i=>some (i.2,i.1))
def fV:Nat->Z4->az->af->Int->Option (af×Z4)
 | 0,_,_,_,_=>none
 | n+1,b,g,i,j=>((dY n) (Z4.mk b.Fd (af.mk (0:Int) (0:Int) ([]:Bs) true ([]) (Sl.nil:Sl Bs)) true b.gP b.cH) g i j).bind fun f=>some (f.1,(Z4.mk f.2.Fd b.ep b.eO f.2.gP f.2.cH))
end
def tB (n:Nat):Prop:=∀{a0:Z4}{f:az}{a2:af}{a3:Int}  {b:Nat}{r:(af×Z4)},dY n a0 f a2 a3=some r->∀(H:ai) (g:H b=some (.cells (Z4.c a0))),AC Tryz.prog 159 [.d (.ptr b 0),.agg (az.c f),.agg (af.c a2),.d (.int .i64 a3)] H fun v h'=>v=.a (.agg (af.c r.1))/\h'=(H.set b (some (.cells (Z4.c r.2))))
def tC (n:Nat):Prop:=∀{a0:Z4}{f:az}{a2:af}{a3:Int}  {b:Nat}{r:(af×Z4)},iQ n a0 f a2 a3=some r->∀(H:ai) (g:H b=some (.cells (Z4.c a0))),AC Tryz.prog 177 [.d (.ptr b 0),.agg (az.c f),.agg (af.c a2),.d (.int .i64 a3)] H fun v h'=>v=.a (.agg (af.c r.1))/\h'=(H.set b (some (.cells (Z4.c r.2))))
def tD (n:Nat):Prop:=∀{a0:Z4}{f:aj}{a2:af}{a3:Int}  {b:Nat}{r:(af×Z4)},iR n a0 f a2 a3=some r->∀(H:ai) (g:H b=some (.cells (Z4.c a0))),AC Tryz.prog 180 [.d (.ptr b 0),.agg (aj.c f),.agg (af.c a2),.d (.int .i64 a3)] H fun v h'=>v=.a (.agg (af.c r.1))/\h'=(H.set b (some (.cells (Z4.c r.2))))
def tE (n:Nat):Prop:=∀{a0:Z4}{f:az}{a2:af}{a3:Int}  {b:Nat}{r:(af×Z4)},fV n a0 f a2 a3=some r->∀(H:ai) (g:H b=some (.cells (Z4.c a0))),AC Tryz.prog 189 [.d (.ptr b 0),.agg (az.c f),.agg (af.c a2),.d (.int .i64 a3)] H fun v h'=>v=.a (.agg (af.c r.1))/\h'=(H.set b (some (.cells (Z4.c r.2))))
theorem ON (n:Nat) (aF:tB (ax:=ax) n) (x:tC (ax:=ax) n) (y:tD (ax:=ax) n) (aG:tE (ax:=ax) n):tB (ax:=ax) (n+1):=by
 intro g aH aE aY  f r b H aI;rw [dY] at b;refine AC.oW 111 [.cell 8 61] Tryz.call159 Tryz.func159 ?_;refine ah.dx (h':=(H.set f (some (.cells (Z4.c g))))) (by funext n_; simp only [ai.set]; (repeat' split)<;>simp_all) ?_;refine ag (S BX ?_);refine sL (sM rfl (by repeat (first|exact bL.nil|apply bL.cons))) rfl ?_;refine Sl ?_;refine nil ?_;refine ay fun B i=>?_
 refine ah.cr (Sd Mv (Sd NP ?_));refine au.s0 (bE (TK rfl) rfl rfl (TK rfl) rfl rfl) rfl ?_;refine au.s0 (bZ (TK rfl) rfl rfl av rfl) rfl ?_;refine Sd Fv (Sd Ld ?_);obtain⟨aJ,C,b⟩:=vT (AB _ _) b;refine cM rfl rfl (AD C) ?_;refine Sd NB ?_;refine au.nil (by decide +kernel) ?_;refine cE b (fun E b=>?_) (fun E b=>?_)
 ·refine ag (S Mv ?_);obtain⟨F,G,b⟩:=vT (nP _ _) b;refine sH (bP rfl rfl (nQ G _ av)) rfl ?_;refine hq (H.set f (some (.cells (Z4.c F)))) ?_;refine nil ?_;refine ag (S BU ?_);refine Sf ?_;refine nil ?_;exact rt b
 refine sk i ?_;clear i B;obtain⟨I,J,b⟩:=mT b;refine eb (TA 0 (TA 3 (TA 5 (TA 6 (TA 8 kN))))) (fun(z:Z4×af×af)=>[]) (fun z=>[af.c z.2.1,af.c z.2.2]) (fun z=>(H.set f (some (.cells (Z4.c z.1))))) (fun z=>(I z.1 z.2.1)=some r) ?_ ?_
 ·intro aK j;refine ag (S Mv (S NP ?_));refine s0 (bE (TK rfl) rfl rfl (TK rfl) rfl rfl) rfl ?_;refine s0 (bZ (TK rfl) rfl rfl av rfl) rfl ?_;refine S Mv (G0 FL ?_);refine gC rfl rfl (fun hC=>sW (k:=31) rfl (sJ (TK rfl) rfl rfl rfl rfl)) rfl ?_;refine G1 32 rfl BI ?_;refine S PA (nil ?_);refine cE b (fun K b=>?_) (fun K b=>?_)
  ·refine ah.cr (Sd Mv (Sd NP ?_));refine au.s0 (bE (TK rfl) rfl rfl (TK rfl) rfl rfl) rfl ?_;refine au.s0 (bZ (TK rfl) rfl rfl av rfl) rfl ?_;refine Sd FL (Sd LL ?_);obtain⟨aL,L,b⟩:=qT (Ba _ _) b;refine cM rfl rfl (Bb L) ?_;refine Sd Mv (Sd EX (Sd EX ?_));refine au.sB (TK rfl) rfl rfl ?_ (by repeat (first|exact bL.nil|apply bL.cons));refine au.dB (eG (TK rfl) rfl rfl rfl rfl rfl) ?_
   refine Sd As ?_;refine au.nil (by decide +kernel) ?_;refine bu 9 _ rfl (KA 0 (KA 3 (KA 5 (KA 6 (KA 8 aS.nil))))) ?_;refine ay fun M l=>?_;refine ag (S Fv (S Ld (S BI (nil ?_))));refine cE b (fun N b=>?_) (fun N b=>?_)
   ·refine ag (S Mv (S Ld (S Mv ?_)));obtain⟨O,P,b⟩:=qT (OD _ _ _) b;refine sH (bP rfl rfl (OC P _ av)) rfl ?_;refine hq (H.set f (some (.cells (Z4.c O.2)))) ?_;refine Sf ?_;refine nil ?_;exact rt b
   refine sk l ?_;clear l M;refine region ?_;refine S BU ?_;refine Sf ?_;refine nil ?_;exact j _ (g,(af.mk (0:Int) (0:Int) ([]:Bs) true ([]) (Sl.nil:Sl Bs)),af.zero) wA b
  refine ah.skip ?_;exact j _ (g,aE,af.zero) wA b
 rintro ⟨aM,aN,aO⟩ b;try dsimp only at b
 rw [J] at b;try dsimp only at b
 refine ag (S Mv (S Mv ?_));obtain⟨m,Q,b⟩:=qT (Gi _ _) b;refine sH (bP rfl rfl (Gj Q _ av)) rfl ?_;refine hq (H.set f (some (.cells (Z4.c m)))) ?_;refine nil ?_;refine ay fun R o=>?_;refine ag (S Mv (S NP ?_));refine s0 (bE (TK rfl) rfl rfl (TK rfl) rfl rfl) rfl ?_;refine s0 (bZ (TK rfl) rfl rfl av rfl) rfl ?_;refine S BI (nil ?_);refine cE b (fun U b=>?_) (fun U b=>?_)
 ·refine ag (S BU ?_);refine Sf ?_;refine nil ?_;exact rt b
 refine sk o ?_;clear o R;refine ay fun W p=>?_;refine ag (S FL (S LL (S BI (nil ?_))));refine cE b (fun X b=>?_) (fun X b=>?_)
 ·refine aQ (TA 8 kN) (fun(z:Z4)=>[]) (fun z=>(H.set f (some (.cells (Z4.c z))))) (fun z=>(some ((af.mk (0:Int) (0:Int) ([]:Bs) true ([]) (Sl.nil:Sl Bs)),z))=some r) ?_ ?_
  ·intro aP q;refine ag (S Ld ?_);obtain⟨aR,Y,b⟩:=vT (qV _) b;refine Sc rfl rfl (qW Y) ?_;refine nil ?_;obtain⟨aT,s,b⟩:=bW b;refine cP b (fun Z b=>?_) (fun Z b=>?_)
   ·refine region ?_;refine S Mv ?_;obtain⟨t,aa,b⟩:=vP (nP _ _) b;refine sH (bP rfl rfl (nQ aa _ av)) rfl ?_;refine hq (H.set f (some (.cells (Z4.c t)))) ?_;refine nil ?_;have b:=ku s b;exact q _ t wA b
   refine ah.skip ?_;have b:=ku s b;exact q _ m wA b
  rintro aU b;try dsimp only at b
  refine ag (S BU ?_);refine Sf ?_;refine nil ?_;exact rt b
 refine sk p ?_;clear p W;refine ay fun ab u=>?_;refine ag (S Ld ?_);obtain⟨aV,ad,b⟩:=qT (AX _) b;refine Sc rfl rfl (AY ad) ?_;refine S Mv (S EX (S EX ?_));refine Sl ?_;refine Sf ?_;refine S As (nil ?_);refine bu 11 _ rfl (KA 0 (KA 3 (KA 5 (KA 6 (KA 8 (KA 12 aS.nil)))))) ?_;refine ag (S Mv (nil ?_));refine cE b (fun ae b=>?_) (fun ae b=>?_)
 ·refine ag (S Mv (S Ld (S LL (S Mv ?_))));obtain⟨aj,ak,b⟩:=qT rfl b;refine sH (bP rfl rfl (x ak _ av)) rfl ?_;refine hq (H.set f (some (.cells (Z4.c aj.2)))) ?_;refine Sf ?_;refine nil ?_;exact rt b
 refine sk u ?_;clear u ab;refine ay fun al v=>?_;refine ag (S Fv (S Ld ?_));obtain⟨aW,am,b⟩:=vT (s4 _) b;refine Sc rfl rfl (s5 am) ?_;refine nil ?_;refine cE b (fun an b=>?_) (fun an b=>?_)
 ·refine ag (S Mv (S Fv (S Ld (S LL ?_))));obtain⟨ao,ap,b⟩:=qT (OH _ _ _) b;refine sH (bP rfl rfl (OI ap _ av)) rfl ?_;refine hq (H.set f (some (.cells (Z4.c ao.2)))) ?_;refine Sf ?_;refine nil ?_;exact rt b
 refine sk v ?_;clear v al;refine ah.cr (Sd Mv (Sd NP ?_));refine au.s0 (bE (TK rfl) rfl rfl (TK rfl) rfl rfl) rfl ?_;refine au.s0 (bZ (TK rfl) rfl rfl av rfl) rfl ?_;refine Sd Fv (Sd Ld ?_);obtain⟨aX,aq,b⟩:=vT (lc _ _) b;refine cM rfl rfl (lg aq) ?_;refine Sd Mv (Sd EX (Sd EX ?_));refine au.sB (TK rfl) rfl rfl ?_ (by repeat (first|exact bL.nil|apply bL.cons))
 refine au.dB (eG (TK rfl) rfl rfl rfl rfl rfl) ?_;refine Sd As ?_;refine au.nil (by decide +kernel) ?_;refine bu 13 _ rfl (KA 0 (KA 3 (KA 6 (KA 8 aS.nil)))) ?_;refine ay fun aw w=>?_;refine ag (S Fv (S Ld (S BI (nil ?_))));refine cE b (fun az b=>?_) (fun az b=>?_)
 ·refine ag (S Mv (S Ld (S LL ?_)));obtain⟨aA,aB,b⟩:=vT (OJ _ _ _) b;refine sH (bP rfl rfl (OK aB _ av)) rfl ?_;refine hq (H.set f (some (.cells (Z4.c aA.2)))) ?_;refine Sf ?_;refine nil ?_;exact rt b
 refine sk w ?_;clear w aw;refine ag (S Mv (S Ld (S LL (S Mv ?_))));obtain⟨aC,aD,b⟩:=qT rfl b;refine sH (bP rfl rfl (y aD _ av)) rfl ?_;refine hq (H.set f (some (.cells (Z4.c aC.2)))) ?_;refine Sf ?_;refine nil ?_;exact rt b
theorem OO (n:Nat) (P:tB (ax:=ax) n) (aB:tC (ax:=ax) n) (aC:tD (ax:=ax) n) (aE:tE (ax:=ax) n):tC (ax:=ax) (n+1):=by
 intro B C N O  m r b H aF;rw [iQ] at b;refine AC.oW 50 [.cell 8 61] Tryz.call177 Tryz.func177 ?_;refine ah.dx (h':=(H.set m (some (.cells (Z4.c B))))) (by funext n_; simp only [ai.set]; (repeat' split)<;>simp_all) ?_;refine ag (S BX (S BX ?_));refine Sl ?_;refine nil ?_;refine ag (S Ld (S BV (S As (nil ?_))));obtain⟨Q,R,b⟩:=bW b;refine aQ (TA 0 (TA 3 (TA 5 (TA 8 kN)))) (fun(z:(Sl af))=>[(9,.a (.d (Sl.d 5 af.c none z)))]) (fun z=>(H.set m (some (.cells (Z4.c B))))) (fun z=>Q z=some r) ?_ ?_
 ·intro aG E;refine ag (S Fv (S Ld (S BI (nil ?_))));refine cP b (fun U b=>?_) (fun U b=>?_)
  ·refine region ?_;refine S Fv ?_;refine s0 (dZ (TK rfl) rfl rfl (congrArg (fun x=>some (A.d x)) (af.dW _))) rfl ?_;refine S As (nil ?_);exact E _ N.aD wA b
  refine ah.skip ?_;exact E _ (⟨false,[N]⟩:Sl af) wA b
 rintro o b;try dsimp only at b
 have b:=ku R b;refine ag (S BU ?_);refine Sl ?_;refine aP.tok 5 fun g F=>?_;obtain⟨aH,F⟩:=ai.dP F;refine aP.cU 1 _ rfl (fun j w cs hh hx=>tok_cell 3 5 5 hh (t:=g) av hx rfl) ?_;refine Sf ?_;refine aP.cU 1 _ rfl (fun j w cs hh hx=>tok_cell 3 5 5 hh (t:=g) av hx rfl) ?_;refine nil ?_;refine eb (TA 8 (TA 10 kN)) (fun(z:Z4×af)=>[]) (fun z=>[af.c af.zero,((bC .i64) z.2.an++(bC .i64) z.2.bl++aO z.2.bg++[Sl.d 5 af.c (some g) z.2.aD]++(fun s=>[Sl.d 1 aO none s]) z.2.aN)]) (fun z=>((H.set m (some (.cells (Z4.c z.1)))).set g (some (.tok 5 z.2.aD.l.length)))) (fun z=>(some (z.2,z.1))=some r) ?_ ?_
 ·intro aI W;refine ag (S As (nil ?_));refine block ?_;obtain⟨p,X,b⟩:=b_ b;refine gb (TA 0 (TA 3 (TA 5 (TA 8 (TA 9 (TA 10 kN)))))) (fun(z:Nat×Z4×af)=>[(11,.a (.d (.int .i64 ((z.1:Nat):Int))))]) (fun z=>[af.c af.zero,((bC .i64) z.2.2.an++(bC .i64) z.2.2.bl++aO z.2.2.bg++[Sl.d 5 af.c (some g) z.2.2.aD]++(fun s=>[Sl.d 1 aO none s]) z.2.2.aN)]) (fun z=>((H.set m (some (.cells (Z4.c z.2.1)))).set g (some (.tok 5 z.2.2.aD.l.length)))) (fun z=>o.l.length-z.1) (fun z=>Option.bind (gU C O (dY n) (o.l.drop z.1) z.2.1 z.2.2) p=some r) (0,B,(af.mk (5:Int) (0:Int) ([]:Bs) true ([]) (Sl.nil:Sl Bs))) b wA ?_
  rintro ⟨G,q,i⟩ b aJ Y;try dsimp only at b
  refine ay fun Z I=>?_;refine ag (S Mv (S Mv ?_));refine sLen (f:=af.c) (s:=o) (TK rfl) rfl rfl rfl rfl fun aL=>?_;refine S BI (S Mv (G0 Mv ?_));refine G1 26 rfl NP ?_;refine gC rfl rfl (fun hC=>aK (k:=27) rfl (bE (TK rfl) rfl rfl (TK rfl) rfl rfl)) rfl ?_;refine gC rfl rfl (fun hC=>aK (k:=28) rfl (bZ (TK rfl) rfl rfl av rfl)) rfl ?_;refine G1 29 rfl BI ?_;refine S PA (nil ?_)
  refine ah.xf (fun l=>Option.bind (gU C O (dY n) l q i) p=some r) (Option.bind (some (q,i)) p=some r) b (fun b=>by rw [gU] at b; exact b) (fun _ aa b=>by rw [gU] at b; rw [aa] at b; exact b) rfl rfl (fun aM J u ab b=>?_) (fun u b=>?_)
  ·rw [gU] at b;rw [ab,cond_true] at b;try dsimp only at u
   have aR:=oD (and_left u);refine sk I ?_;clear I Z;refine ay fun ad K=>?_;refine block ?_;refine ah.cr (Sd Mv (Sd Ld (Sd Mv (Sd Mv ?_))));obtain⟨aT,ae,b⟩:=vO J b;refine Sd (ix af.c G ae) (Sd Ld (Sd Mv ?_));obtain⟨aU,aj,b⟩:=qO rfl b;refine au.s0 (eR rfl rfl aj) rfl ?_;obtain⟨v,ak,b⟩:=qO rfl b;refine au.sH (bP rfl rfl (P ak _ av)) rfl ?_
   refine au.Dh ((H.set m (some (.cells (Z4.c v.2)))).set g (some (.tok 5 i.aD.l.length))) ?_;refine au.sB (TK rfl) rfl rfl ?_ (by repeat (first|exact bL.nil|apply bL.cons));refine au.dB (eG (TK rfl) rfl rfl rfl rfl rfl) ?_;refine au.nil (by decide +kernel) ?_;refine bu 12 _ rfl (KA 0 (KA 3 (KA 5 (KA 8 (KA 9 (KA 10 (KA 11 aS.nil))))))) ?_;refine region ?_
   refine S FL (S LL (S Ld (S BV ?_)));obtain⟨y,al,b⟩:=qO rfl b;refine SH (am af.c (TK rfl) rfl (TK rfl) (TK rfl) al) ?_;refine hq ((H.set m (some (.cells (Z4.c v.2)))).set g (some (.tok 5 y.l.length))) ?_;refine S FL ?_;refine Sf ?_;refine nil ?_;refine K _ ?_;clear K ad;refine region ?_;refine S Mv ?_;refine SI ?_;refine S As (nil ?_);exact Y _ ((G+1),v.2,(af.mk i.an i.bl i.bg y.nl y.l i.aN)) wA b (dl J)
  have b:=ku X b;try dsimp only at b
  refine ah.exit ?_;obtain⟨aV,ao,b⟩:=bW b;have b:=ku ao b;exact W _ (q,i) wA b
 rintro ⟨ap,aq⟩ b;try dsimp only at b
 refine ay fun aw L=>?_;refine ah.cU 1 _ rfl (fun j w cs hh hx=>jt 3 hx rfl) ?_;refine ah.cU 1 (af.c aq) rfl (fun j w cs hh hx=>by rw [af.jX]; exact hx) ?_;refine region ?_;refine S LL ?_;refine Sf ?_;refine nil ?_;refine L _ ?_;clear L aw;refine ah.ret ?_;repeat (first|refine bF ?_|refine bG ?_)
 obtain rfl:=oJ b;refine bn.bH (H.set m (some (.cells (Z4.c ap)))) rfl ⟨rfl,rfl⟩ ?_;intro az aW M;have aX:az≠g:=fun aA=>by subst aA; simp_all [ai.set]
 rw [<- M];simp only [ai.set] at M ⊢
 (repeat' split)<;>simp_all
theorem OP (n:Nat) (aB:tB (ax:=ax) n) (bz:tC (ax:=ax) n) (bB:tD (ax:=ax) n) (aC:tE (ax:=ax) n):tD (ax:=ax) (n+1):=by
 intro aA p q E  i r b H bD;rw [iR] at b;refine AC.oW 123 [.cell 8 61] Tryz.call180 Tryz.func180 ?_;refine ah.dx (h':=(H.set i (some (.cells (Z4.c aA))))) (by funext n_; simp only [ai.set]; (repeat' split)<;>simp_all) ?_;refine ag (S BX (S BX ?_));refine Sl ?_;refine nil ?_;refine ay fun aE U=>?_;refine ag (S Fv (S Ld (S BI (nil ?_))));refine cE b (fun aF b=>?_) (fun aF b=>?_)
 ·refine ag (S Mv ?_);obtain⟨aG,aH,b⟩:=vT (nP _ _) b;refine sH (bP rfl rfl (nQ aH _ av)) rfl ?_;refine hq (H.set i (some (.cells (Z4.c aG)))) ?_;refine nil ?_;refine ag (S BU ?_);refine Sf ?_;refine nil ?_;exact rt b
 refine sk U ?_;clear U aE;refine aQ (TA 0 (TA 3 (TA 5 (TA 6 (TA 8 kN))))) (fun(z:Z4)=>[]) (fun z=>(H.set i (some (.cells (Z4.c z))))) (fun z=>(Option.bind (fQ p q E (dY n) (fV n) p.aL.l 0 z (af.mk (6:Int) (0:Int) ([]:Bs) true ([]) (Sl.nil:Sl Bs))) fun W=>on ((W.1,W.2)) fun X=>some (X.2,X.1))=some r) ?_ ?_
 ·intro bI aI;refine ag (S As (nil ?_));refine block ?_;obtain⟨F,aJ,b⟩:=bW b;refine bA (TA 0 (TA 3 (TA 5 (TA 6 (TA 8 kN))))) (fun(z:Nat×Z4)=>[(9,.a (.d (.int .i64 ((z.1:Nat):Int))))]) (fun z=>(H.set i (some (.cells (Z4.c z.2))))) (fun z=>q.aN.l.length-z.1) (fun z=>F (ic p (q.aN.l.drop z.1) z.2)=some r) (0,aA) b wA ?_;rintro ⟨G,I⟩ b bK aM
  try dsimp only at b
  refine ay fun aR Y=>?_;refine ag (S Mv (S Fv (S Ld ?_)));refine sLen (f:=aO) (s:=q.aN) (TK rfl) rfl rfl rfl rfl fun bM=>?_;refine S BI (nil ?_);refine ah.bN (fun l=>F (ic p l I)=some r) b rfl (fun bO Z J b=>?_) (fun J b=>?_)
  ·rw [ic] at b;try dsimp only at J
   have bQ:=oD J;refine sk Y ?_;clear Y aR;refine aQ (TA 0 (TA 3 (TA 5 (TA 6 (TA 8 (TA 9 kN)))))) (fun(z:Z4)=>[]) (fun z=>(H.set i (some (.cells (Z4.c z))))) (fun z=>F (ic p (q.aN.l.drop (G+1)) z)=some r) ?_ ?_
   ·intro bR ab;refine block ?_;refine ah.cr (Sd Fv (Sd Ld (Sd Fv (Sd Ld (Sd Mv ?_)))));obtain⟨bS,aT,b⟩:=vP Z b;refine Sd (ix aO G aT) (Sd Ld ?_);obtain⟨bT,aU,b⟩:=vP (xE _ _) b;refine cM rfl rfl (xF aU) ?_;refine Sd Mv (Sd EX (Sd EX ?_));refine au.sB (TK rfl) rfl rfl ?_ (by repeat (first|exact bL.nil|apply bL.cons));refine au.dB (eG (TK rfl) rfl rfl rfl rfl rfl) ?_
    refine Sd As ?_;refine au.nil (by decide +kernel) ?_;refine bu 10 _ rfl (KA 0 (KA 3 (KA 5 (KA 6 (KA 8 (KA 9 (KA 11 aS.nil))))))) ?_;refine ag (S Mv (S NB (nil ?_)));obtain⟨bU,ad,b⟩:=eL b;refine cP b (fun aV b=>?_) (fun aV b=>?_)
    ·refine region ?_;refine S Mv ?_;obtain⟨ae,aX,b⟩:=vP (nP _ _) b;refine sH (bP rfl rfl (nQ aX _ av)) rfl ?_;refine hq (H.set i (some (.cells (Z4.c ae)))) ?_;refine nil ?_;have b:=ku ad b;exact ab _ ae wA b
    refine ah.skip ?_;have b:=ku ad b;exact ab _ I wA b
   rintro aY b;try dsimp only at b
   refine region ?_;refine S Mv ?_;refine SI ?_;refine S As (nil ?_);exact aM _ ((G+1),aY) wA b (dl Z)
  rw [ic] at b;have b:=ku aJ b;refine ah.exit ?_;obtain⟨bV,aZ,b⟩:=bW b;have b:=ku aZ b;exact aI _ I wA b
 rintro a0 b;try dsimp only at b
 refine ag (S BU ?_);refine Sl ?_;refine aP.tok 5 fun m aj=>?_;obtain⟨bX,aj⟩:=ai.dP aj;refine aP.cU 1 _ rfl (fun j w cs hh hx=>tok_cell 3 5 5 hh (t:=m) av hx rfl) ?_;refine aP.tok 1 fun o B=>?_;obtain⟨bY,B⟩:=ai.dP B;obtain⟨b0,B⟩:=ai.dP B;refine aP.cU 1 _ rfl (fun j w cs hh hx=>tok_cell 4 1 1 hh (t:=o) av hx rfl) ?_
 refine Sf ?_;refine aP.cU 1 _ rfl (fun j w cs hh hx=>tok_cell 3 5 5 hh (t:=m) av hx rfl) ?_;refine aP.cU 1 _ rfl (fun j w cs hh hx=>tok_cell 4 1 1 hh (t:=o) av hx rfl) ?_;refine nil ?_;refine eb (TA 8 (TA 12 kN)) (fun(z:Z4×af)=>[]) (fun z=>[af.c af.zero,((bC .i64) z.2.an++(bC .i64) z.2.bl++aO z.2.bg++[Sl.d 5 af.c (some m) z.2.aD]++[Sl.d 1 aO (some o) z.2.aN])]) (fun z=>(((H.set i (some (.cells (Z4.c z.1)))).set m (some (.tok 5 z.2.aD.l.length))).set o (some (.tok 1 z.2.aN.l.length)))) (fun z=>(some (z.2,z.1))=some r) ?_ ?_
 ·intro b1 a1;refine ag (S As (nil ?_));refine block ?_;obtain⟨C,a2,b⟩:=b_ b;refine gb (TA 0 (TA 3 (TA 5 (TA 6 (TA 8 (TA 12 kN)))))) (fun(z:Nat×Z4×af)=>[(13,.a (.d (.int .i64 ((z.1:Nat):Int))))]) (fun z=>[af.c af.zero,((bC .i64) z.2.2.an++(bC .i64) z.2.2.bl++aO z.2.2.bg++[Sl.d 5 af.c (some m) z.2.2.aD]++[Sl.d 1 aO (some o) z.2.2.aN])]) (fun z=>(((H.set i (some (.cells (Z4.c z.2.1)))).set m (some (.tok 5 z.2.2.aD.l.length))).set o (some (.tok 1 z.2.2.aN.l.length)))) (fun z=>p.aL.l.length-z.1) (fun z=>Option.bind (fQ p q E (dY n) (fV n) (p.aL.l.drop z.1) z.1 z.2.1 z.2.2) C=some r) (0,a0,(af.mk (6:Int) (0:Int) ([]:Bs) true ([]) (Sl.nil:Sl Bs))) b wA ?_
  rintro ⟨v,x,g⟩ b b2 a3;try dsimp only at b
  refine ay fun a4 ak=>?_;refine ag (S Mv (S Fv (S Ld ?_)));refine sLen (f:=Z8.c) (s:=p.aL) (TK rfl) rfl rfl rfl rfl fun b3=>?_;refine S BI (S Mv (G0 Mv ?_));refine G1 53 rfl NP ?_;refine gC rfl rfl (fun hC=>aK (k:=54) rfl (bE (TK rfl) rfl rfl (TK rfl) rfl rfl)) rfl ?_;refine gC rfl rfl (fun hC=>aK (k:=55) rfl (bZ (TK rfl) rfl rfl av rfl)) rfl ?_;refine G1 56 rfl BI ?_
  refine S PA (nil ?_);refine ah.xf (fun l=>Option.bind (fQ p q E (dY n) (fV n) l v x g) C=some r) (Option.bind (some (x,g)) C=some r) b (fun b=>by rw [fQ] at b; exact b) (fun _ a5 b=>by rw [fQ] at b; rw [a5] at b; exact b) rfl rfl (fun b4 al K a6 b=>?_) (fun K b=>?_)
  ·rw [fQ] at b;rw [a6,cond_true] at b;try dsimp only at K
   have b5:=oD (and_left K);refine sk ak ?_;clear ak a4;refine eb (TA 0 (TA 3 (TA 5 (TA 6 (TA 8 (TA 12 (TA 13 kN))))))) (fun(z:Z4×af)=>[]) (fun z=>[af.c af.zero,((bC .i64) z.2.an++(bC .i64) z.2.bl++aO z.2.bg++[Sl.d 5 af.c (some m) z.2.aD]++[Sl.d 1 aO (some o) z.2.aN])]) (fun z=>(((H.set i (some (.cells (Z4.c z.1)))).set m (some (.tok 5 z.2.aD.l.length))).set o (some (.tok 1 z.2.aN.l.length)))) (fun z=>Option.bind (fQ p q E (dY n) (fV n) (p.aL.l.drop (v+1)) (v+1) z.1 z.2) C=some r) ?_ ?_
   ·intro b6 L;refine block ?_;refine ag (S Fv (S Ld (S Mv ?_)));obtain⟨a7,a8,b⟩:=vO al b;refine S (ix Z8.c v a8) (S Ld ?_);refine Sl ?_;refine Sf ?_;refine nil ?_;refine bu 14 _ rfl (KA 0 (KA 3 (KA 5 (KA 6 (KA 8 (KA 12 (KA 13 aS.nil))))))) ?_;refine ay fun a9 ao=>?_;refine ag (S Fv (S Ld (S Mv ?_)));obtain⟨b7,a_,b⟩:=qO (OM _ _) b;refine Sc rfl rfl (OL a_) ?_
    refine nil ?_;obtain⟨a',M,b⟩:=dI b;refine cO b (fun ba b=>?_) (fun ba b=>?_)
    ·refine ah.exit ?_;have b:=ku M b;exact L _ (x,g) wA b
    refine sk ao ?_;clear ao a9;refine ag (S Ld (S Fv (S Ld ?_)));obtain⟨b8,bb,b⟩:=qO (Ba _ _) b;refine Sc rfl rfl (Bb bb) ?_;refine S Mv (S EX (S EX ?_));refine Sl ?_;refine Sf ?_;refine S As (nil ?_);refine bu 15 _ rfl (KA 0 (KA 3 (KA 5 (KA 6 (KA 8 (KA 12 (KA 13 (KA 14 (KA 16 aS.nil))))))))) ?_;refine ag ?_;refine Sl ?_;refine nil ?_;refine eb (TA 0 (TA 3 (TA 5 (TA 6 (TA 8 (TA 12 (TA 13 (TA 14 (TA 17 kN))))))))) (fun(z:Z4×af)=>[]) (fun z=>[af.c af.zero,((bC .i64) g.an++(bC .i64) g.bl++aO g.bg++[Sl.d 5 af.c (some m) g.aD]++[Sl.d 1 aO (some o) g.aN]),af.c z.2]) (fun z=>(((H.set i (some (.cells (Z4.c z.1)))).set m (some (.tok 5 g.aD.l.length))).set o (some (.tok 1 g.aN.l.length)))) (fun z=>Option.bind ((aW 16 g.aN (⟨false,[a7.aa]⟩:Sl Bs)).bind fun y=>(aW 80 g.aD (⟨false,[z.2]⟩:Sl af)).bind fun u=>some (z.1,(af.mk g.an g.bl g.bg u.nl u.l y))) a'=some r) ?_ ?_
    ·intro b9 N;refine block ?_;refine ag (S Mv (S Mv (G0 Mv (G0 Ld ?_))));obtain⟨b',bc,b⟩:=eS (Gg _ _) b;refine gC rfl rfl (fun hC=>aK (k:=80) rfl (aK (k:=81) rfl (eu rfl rfl (Gh (bc hC) _ av)))) rfl ?_;refine G1 82 rfl NB ?_;refine S PA (S As (nil ?_));obtain⟨_,rfl,b⟩:=mO b;refine cO b (fun bd b=>?_) (fun bd b=>?_)
     ·refine region ?_;refine S Mv (S Fv (S Ld (S Ld (S Mv ?_))));obtain⟨ca,be,b⟩:=qO rfl b;refine s0 (eR rfl rfl be) rfl ?_;obtain⟨O,bf,b⟩:=qO rfl b;refine sH (bP rfl rfl (aB bf _ av)) rfl ?_;refine hq (((H.set i (some (.cells (Z4.c O.2)))).set m (some (.tok 5 g.aD.l.length))).set o (some (.tok 1 g.aN.l.length))) ?_;refine Sf ?_;refine nil ?_
      exact N _ (O.2,O.1) wA b
     refine ag (S Fv (S Ld (S As (nil ?_))));refine cO b (fun bh b=>?_) (fun bh b=>?_)
     ·refine region ?_;refine S Mv (S Fv (S Ld (S Fv (S Ld (S Mv ?_)))));obtain⟨cb,bi,b⟩:=qO rfl b;refine s0 (eR rfl rfl bi) rfl ?_;obtain⟨P,bj,b⟩:=qO rfl b;refine sH (bP rfl rfl (aC bj _ av)) rfl ?_;refine hq (((H.set i (some (.cells (Z4.c P.2)))).set m (some (.tok 5 g.aD.l.length))).set o (some (.tok 1 g.aN.l.length))) ?_;refine Sf ?_;refine nil ?_
      exact N _ (P.2,P.1) wA b
     refine ag (S Fv (S Ld ?_));obtain⟨cc,bk,b⟩:=vO (qV _) b;refine Sc rfl rfl (qW bk) ?_;refine S As (nil ?_);refine cO b (fun bm b=>?_) (fun bm b=>?_)
     ·refine region ?_;refine S Mv ?_;obtain⟨ap,bo,b⟩:=vO (nP _ _) b;refine sH (bP rfl rfl (nQ bo _ av)) rfl ?_;refine hq (((H.set i (some (.cells (Z4.c ap)))).set m (some (.tok 5 g.aD.l.length))).set o (some (.tok 1 g.aN.l.length))) ?_;refine nil ?_;exact N _ (ap,af.zero) wA b
     refine ah.exit ?_;have b:=ku M b;exact L _ (x,g) wA b
    rintro ⟨Q,cd⟩ b;try dsimp only at b
    refine ag (S FL (S LL (S Fv (S Ld (S BV ?_)))));obtain⟨y,bp,b⟩:=qO rfl b;refine SH (am aO (TK rfl) rfl (TK rfl) (TK rfl) bp) ?_;refine hq (((H.set i (some (.cells (Z4.c Q)))).set m (some (.tok 5 g.aD.l.length))).set o (some (.tok 1 y.l.length))) ?_;refine S FL ?_;refine Sf ?_;refine nil ?_;refine region ?_;refine S FL (S LL (S LL (S BV ?_)));obtain⟨u,bq,b⟩:=qO rfl b
    refine SH (am af.c (TK rfl) rfl (TK rfl) (TK rfl) bq) ?_;refine hq (((H.set i (some (.cells (Z4.c Q)))).set m (some (.tok 5 u.l.length))).set o (some (.tok 1 y.l.length))) ?_;refine S FL ?_;refine Sf ?_;refine nil ?_;have b:=ku M b;exact L _ (Q,(af.mk g.an g.bl g.bg u.nl u.l y)) wA b
   rintro ⟨br,bs⟩ b;try dsimp only at b
   refine region ?_;refine S Mv ?_;refine SI ?_;refine S As (nil ?_);exact a3 _ ((v+1),br,bs) wA b (dl al)
  have b:=ku a2 b;try dsimp only at b
  refine ah.exit ?_;obtain⟨ce,bt,b⟩:=bW b;have b:=ku bt b;exact a1 _ (x,g) wA b
 rintro ⟨bv,bw⟩ b;try dsimp only at b
 refine ay fun bx aq=>?_;refine ah.cU 1 _ rfl (fun j w cs hh hx=>jt 3 hx rfl) ?_;refine ah.cU 1 _ rfl (fun j w cs hh hx=>jt 4 hx rfl) ?_;refine ah.cU 1 (af.c bw) rfl (fun j w cs hh hx=>by rw [af.jX]; exact hx) ?_;refine region ?_;refine S LL ?_;refine Sf ?_;refine nil ?_;refine aq _ ?_;clear aq bx;refine ah.ret ?_;repeat (first|refine bF ?_|refine bG ?_)
 obtain rfl:=oJ b;refine bn.bH (H.set i (some (.cells (Z4.c bv)))) rfl ⟨rfl,rfl⟩ ?_;intro aw cf az;have cg:aw≠m:=fun R=>by subst R; simp_all [ai.set]
 have ch:aw≠o:=fun R=>by subst R; simp_all [ai.set]
 rw [<- az];simp only [ai.set] at az ⊢
 (repeat' split)<;>simp_all
theorem OQ (n:Nat) (j:tB (ax:=ax) n) (l:tC (ax:=ax) n) (m:tD (ax:=ax) n) (o:tE (ax:=ax) n):tE (ax:=ax) (n+1):=by
 intro b p s t  g r i H q;rw [fV] at i;refine AC.oW 41 [.cell 8 61] Tryz.call189 Tryz.func189 ?_;refine ah.dx (h':=(H.set g (some (.cells (Z4.c b))))) (by funext n_; simp only [ai.set]; (repeat' split)<;>simp_all) ?_;refine ag (S BX (S BX ?_));refine Sl ?_;refine nil ?_;refine ah.cr (Sd Mv (Sd NP ?_));refine au.s0 (bE (TK rfl) rfl rfl (TK rfl) rfl rfl) rfl ?_;refine au.s0 (bZ (TK rfl) rfl rfl av rfl) rfl ?_
 refine Sd Mv (Sd NP ?_);refine au.s0 (bE (TK rfl) rfl rfl (TK rfl) rfl rfl) rfl ?_;refine au.s0 (bZ (TK rfl) rfl rfl av rfl) rfl ?_;refine au.sB (TK rfl) rfl rfl ?_ (by repeat (first|exact bL.nil|apply bL.cons));refine au.dB (eG (TK rfl) rfl rfl rfl rfl rfl) ?_;refine Sd As ?_;refine au.nil (by decide +kernel) ?_;refine bu 9 _ rfl (KA 0 (KA 3 (KA 5 (KA 6 (KA 8 (KA 10 aS.nil)))))) ?_
 refine ag (S Mv (S Mv (S BU (S NP ?_))));refine s0 (bE (TK rfl) rfl rfl (TK rfl) rfl rfl) rfl ?_;refine dA (qF (TK rfl) rfl rfl av rfl (Nat.le_of_ble_eq_true rfl) rfl rfl) rfl rfl ?_;refine hq (H.set g (some (.cells (Z4.c (Z4.mk b.Fd (af.mk (0:Int) (0:Int) ([]:Bs) true ([]) (Sl.nil:Sl Bs)) b.eO b.gP b.cH))))) ?_;refine S NP ?_;refine s0 (bE (TK rfl) rfl rfl (TK rfl) rfl rfl) rfl ?_
 refine dA (fO (TK rfl) rfl rfl av rfl (by repeat (first|exact bJ.zero|apply bJ.succ))) rfl rfl ?_;refine hq (H.set g (some (.cells (Z4.c (Z4.mk b.Fd (af.mk (0:Int) (0:Int) ([]:Bs) true ([]) (Sl.nil:Sl Bs)) true b.gP b.cH))))) ?_;refine nil ?_;refine ag (S Mv (S Ld (S Ld (S Mv ?_))));obtain⟨f,k,i⟩:=qT rfl i;refine sH (bP rfl rfl (j k _ av)) rfl ?_;refine hq (H.set g (some (.cells (Z4.c f.2)))) ?_
 refine Sl ?_;refine Sf ?_;refine nil ?_;refine bu 11 _ rfl (KA 0 (KA 8 (KA 9 (KA 10 aS.nil)))) ?_;refine ag (S Mv (S Mv (S Ld (S Mv (S NP ?_)))));refine s0 (bE (TK rfl) rfl rfl (TK rfl) rfl rfl) rfl ?_;refine dA (qF (TK rfl) rfl rfl av rfl (Nat.le_of_ble_eq_true rfl) rfl rfl) rfl rfl ?_;refine hq (H.set g (some (.cells (Z4.c (Z4.mk f.2.Fd b.ep f.2.eO f.2.gP f.2.cH))))) ?_
 refine S NP ?_;refine s0 (bE (TK rfl) rfl rfl (TK rfl) rfl rfl) rfl ?_;refine dA (fO (TK rfl) rfl rfl av rfl (by repeat (first|exact bJ.zero|apply bJ.succ))) rfl rfl ?_;refine hq (H.set g (some (.cells (Z4.c (Z4.mk f.2.Fd b.ep b.eO f.2.gP f.2.cH))))) ?_;refine nil ?_;refine ag (S Ld ?_);refine Sf ?_;refine nil ?_;exact rt i
theorem gV:∀(n:Nat),(tB (ax:=ax) n)/\(tC (ax:=ax) n)/\(tD (ax:=ax) n)/\(tE (ax:=ax) n)
 | 0=>⟨fun b=>by first|cases b|(rw [dY] at b; cases b),fun b=>by first|cases b|(rw [iQ] at b; cases b),fun b=>by first|cases b|(rw [iR] at b; cases b),fun b=>by first|cases b|(rw [fV] at b; cases b)⟩
 | n+1=>⟨ON n (gV n).1 (gV n).2.1 (gV n).2.2.1 (gV n).2.2.2,OO n (gV n).1 (gV n).2.1 (gV n).2.2.1 (gV n).2.2.2,OP n (gV n).1 (gV n).2.1 (gV n).2.2.1 (gV n).2.2.2,OQ n (gV n).1 (gV n).2.1 (gV n).2.2.1 (gV n).2.2.2⟩
def Gr (a0:Z4) (b:az) (a2:af) (a3:Int):Option (af×Z4):=dY F0 a0 b a2 a3
theorem OR {g:Z4}{f:az}{i:af}{j:Int}{b:Nat}{r:af×Z4}(k:Gr g f i j=some r) (H:ai) (l:H b=some (.cells (Z4.c g))):AC Tryz.prog 159 [.d (.ptr b 0),.agg (az.c f),.agg (af.c i),.d (.int .i64 j)] H fun v h'=>v=.a (.agg (af.c r.1))/\h'=(H.set b (some (.cells (Z4.c r.2)))):=(gV F0).1 k H l
def vk (f:Z4) (b:az) (g:af) (i:Int):Option (af×Z4):=dY F0 f b g i
theorem OS (a0:Z4) (b:az) (a2:af) (a3:Int):Gr a0 b a2 a3=vk a0 b a2 a3:=rfl
def mF (g:Z4) (f:az) (i:af):Option (af×Int×Z4):=(vk g f i (1:Int)).bind fun b=>bif (!decide (b.2.cH=(0:Int))) then(some ((af.mk (0:Int) (0:Int) ([]:Bs) true ([]) (Sl.nil:Sl Bs)),b.2.cH,b.2)) else(some (b.1,(0:Int),b.2))
def Bl (f:Z4) (b:az) (g:af):Option (af×Int×Z4):=mF f b g
theorem OT (a0:Z4) (b:az) (a2:af):Bl a0 b a2=mF a0 b a2:=rfl
theorem OU {g:Z4}{i:az}{k:af}{f:Nat}{r:af×Int×Z4}(b:Bl g i k=some r) (H:ai) (q:H f=some (.cells (Z4.c g))):AC Tryz.prog 127 [.d (.ptr f 0),.agg (az.c i),.agg (af.c k)] H fun v h'=>v=.cF [.agg (af.c r.1),.d (.int .i64 r.2.1)]/\h'=(H.set f (some (.cells (Z4.c r.2.2)))):=by
 unfold Bl mF at b;refine AC.oW 24 [.cell 6 61,.tmp 7] Tryz.call127 Tryz.func127 ?_;refine ah.dx (h':=(H.set f (some (.cells (Z4.c g))))) (by funext n_; simp only [ai.set]; (repeat' split)<;>simp_all) ?_;refine ag (S BX (S BX ?_));refine Sl ?_;refine S As (nil ?_);refine ag (S Mv (S Ld (S Ld ?_)));obtain⟨l,m,b⟩:=qT (OS _ _ _ _) b;refine sH (bP rfl rfl (OR m _ av)) rfl ?_
 refine hq (H.set f (some (.cells (Z4.c l.2)))) ?_;refine Sl ?_;refine Sf ?_;refine nil ?_;refine bu 8 _ rfl (KA 0 (KA 6 aS.nil)) ?_;refine ay fun o j=>?_;refine ag (S Mv (S NP ?_));refine s0 (bE (TK rfl) rfl rfl (TK rfl) rfl rfl) rfl ?_;refine s0 (bZ (TK rfl) rfl rfl av rfl) rfl ?_;refine S BI (nil ?_);refine cE b (fun p b=>?_) (fun p b=>?_)
 ·refine ah.cr (Sd BU (Sd Mv (Sd NP ?_)));refine au.s0 (bE (TK rfl) rfl rfl (TK rfl) rfl rfl) rfl ?_;refine au.s0 (bZ (TK rfl) rfl rfl av rfl) rfl ?_;refine au.dB (eG (TK rfl) rfl rfl rfl rfl rfl) ?_;refine Sd As ?_;refine au.nil (by decide +kernel) ?_;exact rt b
 refine sk j ?_;clear j o;refine ag (S Ld ?_);refine Sf ?_;refine S As (nil ?_);exact rt b
def iB (b:ak) (f:az) (j:af) (k:af):Option (af×Int):=on (gR b f.aa) fun g=>aR (g) (mD (Z4.mk b k true (0:Int) (0:Int)) j) false fun l=>bif (g&&l) then(some ((af.mk (0:Int) (0:Int) ([]:Bs) true ([]) (Sl.nil:Sl Bs)),(8:Int))) else((mF (Z4.mk b k true (0:Int) (0:Int)) f j).bind fun i=>some (i.1,i.2.1))
def Bm (f:ak) (b:az) (g:af) (i:af):Option (af×Int):=iB f b g i
theorem OV (a0:ak) (b:az) (a2:af) (a3:af):Bm a0 b a2 a3=iB a0 b a2 a3:=rfl
theorem OW {g:ak}{j:az}{o i:af}{r:af×Int}(b:Bm g j o i=some r) (H:ai) :AC Tryz.prog 93 [.agg (ak.c g),.agg (az.c j),.agg (af.c o),.agg (af.c i)] H fun v h'=>v=.cF [.agg (af.c r.1),.d (.int .i64 r.2)]/\h'=H:=by
 unfold Bm iB at b;refine AC.oW 31 [.cell 8 61,.tmp 9] Tryz.call93 Tryz.func93 ?_;refine ag (S BX (S BX (S BX (S BX ?_))));refine Sl ?_;refine S As (nil ?_);refine ag (S Ld (S Ld (S BU ?_)));refine sE (c_.uP rfl) rfl (fun _ _ _ ⟨l,f,p,q,s⟩=>?_); subst p q s;refine hq (H.set l (some (.cells (Z4.c (Z4.mk g i true (0:Int) (0:Int)))))) ?_;refine S As (nil ?_)
 refine ay fun t m=>?_;refine ag (S Ld (S Fv (S Ld ?_)));obtain⟨B,u,b⟩:=vT (AB _ _) b;refine Sc rfl rfl (AD u) ?_;refine S Mv (G0 Mv (G0 Ld ?_));obtain⟨C,w,b⟩:=dQ (Gg _ _) b;refine gC rfl rfl (fun hC=>aK (k:=20) rfl (aK (k:=21) rfl (eu rfl rfl (Gh (w hC) _ av)))) rfl ?_;refine S PA (nil ?_);refine cE b (fun x b=>?_) (fun x b=>?_)
 ·refine ag (S BU ?_);refine Sf ?_;refine S As (nil ?_);refine ah.ret ?_;repeat (first|refine bF ?_|refine bG ?_)
  obtain rfl:=oJ b;refine bn.bH H rfl ⟨rfl,rfl⟩ ?_
  first|exact ai.cm f|(simp only [ai.set_set]; exact ai.cm f)
 refine sk m ?_;clear m t;refine ag (S Mv (S Ld (S Ld ?_)));obtain⟨y,z,b⟩:=qT (OT _ _ _) b;refine sH (bP rfl rfl (OU z _ av)) rfl ?_;refine hq (H.set l (some (.cells (Z4.c y.2.2)))) ?_;refine S EX (S EX ?_);refine Sf ?_;refine S As (nil ?_);refine ah.ret ?_;repeat (first|refine bF ?_|refine bG ?_)
 obtain rfl:=oJ b;refine bn.bH H rfl ⟨rfl,rfl⟩ ?_
 first|exact ai.cm f|(simp only [ai.set_set]; exact ai.cm f)
def nT (g:ak) (i:Bs) (j:Bs) (k:Bs):List Z8->(Sl Z6)->Option ((Sl Z6))
 | [],b=>some b
 | f::l,b=>on (f) fun m=>Option.bind (bif (!m.bY) then(some b) else(on (f) fun o=>on (f) fun p=>(iB g o.aA p.cB (af.mk (0:Int) (0:Int) ([]:Bs) true ([]) (Sl.nil:Sl Bs))).bind fun q=>bif (!decide (q.2=(0:Int))) then((bM i j).bind fun r=>on (f) fun s=>(bM r s.aa).bind fun t=>(bM t k).bind fun u=>(aW 24 b (⟨false,[(Z6.mk (23:Int) u)]⟩:Sl Z6)).bind fun v=>some v) else(some b))) fun w=>nT g i j k (l) w
def px (i:ak) (b:(Sl Z8)) (j:Bs) (k:Bs) (m:Bs):Option (Sl Z6):=Option.bind (nT i j k m b.l (Sl.nil:Sl Z6)) fun f=>on (f) fun g=>some g
def Bn (f:ak) (b:(Sl Z8)) (g:Bs) (i:Bs) (j:Bs):Option (Sl Z6):=px f b g i j
theorem Gs (a0:ak) (b:(Sl Z8)) (a2:Bs) (a3:Bs) (a4:Bs):Bn a0 b a2 a3 a4=px a0 b a2 a3 a4:=rfl
theorem Gt {m:ak}{i:Sl Z8}{o p q:Bs}{G:Option Nat}{r:Sl Z6}(b:Bn m i o p q=some r) (H:ai) :AC Tryz.prog 55 [.agg (ak.c m),.d (Sl.d 10 Z8.c G i),.d (.str o),.d (.str p),.d (.str q)] H fun v h'=>v=.a (.d (Sl.d 2 Z6.c none r))/\h'=H:=by
 unfold Bn px at b;refine AC.oW 61 [.tmp 10] Tryz.call55 Tryz.func55 ?_;refine ah.tok 2 fun g B=>?_;refine ag (S BX ?_);refine s0 (dR (k':=2) rfl) rfl ?_;refine nil ?_;refine ag (S As (nil ?_));refine ah.fJ 11 2 g rfl av ?_;refine aQ kN (fun(z:(Sl Z6))=>[(11,.a (.d (Sl.d 2 Z6.c (some g) z)))]) (fun z=>(H.set g (some (.tok 2 z.l.length)))) (fun z=>(some z)=some r) ?_ ?_
 ·intro ae I;refine ag (S As (nil ?_));refine block ?_;obtain⟨u,J,b⟩:=b_ b;refine bA (TA 1 (TA 2 (TA 3 (TA 4 (TA 5 kN))))) (fun(z:(Sl Z6)×Nat)=>[(11,.a (.d (Sl.d 2 Z6.c (some g) z.1))),(12,.a (.d (.int .i64 ((z.2:Nat):Int))))]) (fun z=>(H.set g (some (.tok 2 z.1.l.length)))) (fun z=>i.l.length-z.2) (fun z=>Option.bind (nT m o p q (i.l.drop z.2) z.1) u=some r) ((Sl.nil:Sl Z6),0) b wA ?_
  rintro ⟨t,j⟩ b af K;try dsimp only at b
  refine ay fun L C=>?_;refine ag (S Mv (S Mv ?_));refine sLen (f:=Z8.c) (s:=i) (TK rfl) rfl rfl rfl rfl fun aj=>?_;refine S BI (nil ?_);refine ah.bN (fun l=>Option.bind (nT m o p q l t) u=some r) b rfl (fun al k w b=>?_) (fun w b=>?_)
  ·rw [nT] at b;try dsimp only at w
   have an:=oD w;refine sk C ?_;clear C L;refine aQ (TA 1 (TA 2 (TA 3 (TA 4 (TA 5 (TA 12 kN)))))) (fun(z:(Sl Z6))=>[(11,.a (.d (Sl.d 2 Z6.c (some g) z)))]) (fun z=>(H.set g (some (.tok 2 z.l.length)))) (fun z=>Option.bind (nT m o p q (i.l.drop (j+1)) z) u=some r) ?_ ?_
   ·intro ao x;refine block ?_;refine ay fun M E=>?_;refine ag (S Mv (S Mv ?_));obtain⟨ap,N,b⟩:=vO k b;refine S (ix Z8.c j N) (S Fv (S Ld (S NB (nil ?_))));obtain⟨aq,y,b⟩:=dI b;refine cO b (fun O b=>?_) (fun O b=>?_)
    ·refine ah.exit ?_;have b:=ku y b;exact x _ t wA b
    refine sk E ?_;clear E M;refine ah.cr (Sd Ld (Sd Mv (Sd Mv ?_)));obtain⟨aw,P,b⟩:=vO k b;refine Sd (ix Z8.c j P) (Sd Fv (Sd Ld (Sd Mv (Sd Mv ?_))));obtain⟨ax,Q,b⟩:=vO k b;refine Sd (ix Z8.c j Q) (Sd Fv (Sd Ld (Sd BU ?_)));obtain⟨az,R,b⟩:=qO (OV _ _ _ _) b;refine cM rfl rfl (OW R) ?_;refine Sd Mv (Sd EX (Sd EX ?_));refine au.sB (TK rfl) rfl rfl ?_ (by repeat (first|exact bL.nil|apply bL.cons))
    refine au.dB (eG (TK rfl) rfl rfl rfl rfl rfl) ?_;refine Sd As ?_;refine au.nil (by decide +kernel) ?_;refine bu 13 _ rfl (KA 1 (KA 2 (KA 3 (KA 4 (KA 5 (KA 11 (KA 12 (KA 14 aS.nil)))))))) ?_;refine ag (S Mv (S BI (nil ?_)));refine cO b (fun U b=>?_) (fun U b=>?_)
    ·refine region ?_;refine S Mv (S Mv (S Mv ?_));obtain⟨aA,W,b⟩:=qO rfl b;refine s0 (cL rfl rfl W) rfl ?_;refine S Mv (S Mv ?_);obtain⟨aB,X,b⟩:=vO k b;refine S (ix Z8.c j X) (S Fv (S Ld ?_));obtain⟨aC,Y,b⟩:=qO rfl b;refine s0 (cL rfl rfl Y) rfl ?_;refine S Mv ?_;obtain⟨aD,Z,b⟩:=qO rfl b;refine s0 (cL rfl rfl Z) rfl ?_;refine S BU (S BV ?_);obtain⟨F,aa,b⟩:=qO rfl b
     refine SH (am Z6.c (TK rfl) rfl (TK rfl) (TK rfl) aa) ?_;refine hq (H.set g (some (.tok 2 F.l.length))) ?_;refine S As (nil ?_);have b:=ku y b;exact x _ F wA b
    refine ah.skip ?_;have b:=ku y b;exact x _ t wA b
   rintro ab b;try dsimp only at b
   refine region ?_;refine S Mv ?_;refine SI ?_;refine S As (nil ?_);exact K _ (ab,(j+1)) wA b (dl k)
  rw [nT] at b;have b:=ku J b;refine ah.exit ?_;obtain⟨aE,ad,b⟩:=bW b;have b:=ku ad b;exact I _ t wA b
 rintro aF b;try dsimp only at b
 refine ag (S Mv (S As (nil ?_)));refine ah.dU 10 rfl ?_;refine ah.ret ?_;repeat (first|refine bF ?_|refine bG ?_)
 obtain rfl:=oJ b;refine bn.bH H rfl ⟨rfl,rfl⟩ ?_
 first|exact ai.cm B|(simp only [ai.set_set]; exact ai.cm B)
def py (i:ak) (f:aj):List Z7->(Sl Z6)->Option ((Sl Z6))
 | [],b=>some b
 | g::j,b=>on (g) fun k=>(bM f.aa ([46]:Bs)).bind fun l=>on (g) fun m=>(bM l m.aa).bind fun o=>(px i k.aH o ([40]:Bs) ([41]:Bs)).bind fun p=>(aW 24 b p).bind fun q=>py i f (j) q
def mG (g:ak):List aj->(Sl Z6)->Option ((Sl Z6))
 | [],f=>some f
 | i::j,f=>on (i) fun b=>Option.bind (py g b b.aB.l f) fun k=>on (k) fun m=>(px g b.aL b.aa ([46]:Bs) ([]:Bs)).bind fun o=>(aW 24 m o).bind fun p=>on (p) fun q=>mG g (j) q
def kg (b:ak):Option (Sl Z6):=Option.bind (mG b b.aq.l (Sl.nil:Sl Z6)) fun f=>on (f) fun g=>some g
def Bo (b:ak):Option (Sl Z6):=kg b
theorem OX (a0:ak):Bo a0=kg a0:=rfl
theorem OY {g:ak}{r:Sl Z6}(b:Bo g=some r) (H:ai) :AC Tryz.prog 29 [.agg (ak.c g)] H fun v h'=>v=.a (.d (Sl.d 2 Z6.c none r))/\h'=H:=by
 unfold Bo kg at b;refine AC.oW 55 [.tmp 2] Tryz.call29 Tryz.func29 ?_;refine ah.tok 2 fun i y=>?_;refine ag (S BX ?_);refine s0 (dR (k':=2) rfl) rfl ?_;refine nil ?_;refine ag (S As (nil ?_));refine ah.fJ 3 2 i rfl av ?_;refine aQ kN (fun(z:(Sl Z6))=>[(3,.a (.d (Sl.d 2 Z6.c (some i) z)))]) (fun z=>(H.set i (some (.tok 2 z.l.length)))) (fun z=>(some z)=some r) ?_ ?_
 ·intro az L;refine ag (S As (nil ?_));refine block ?_;obtain⟨k,M,b⟩:=b_ b;refine bA (TA 1 kN) (fun(z:(Sl Z6)×Nat)=>[(3,.a (.d (Sl.d 2 Z6.c (some i) z.1))),(4,.a (.d (.int .i64 ((z.2:Nat):Int))))]) (fun z=>(H.set i (some (.tok 2 z.1.l.length)))) (fun z=>g.aq.l.length-z.2) (fun z=>Option.bind (mG g (g.aq.l.drop z.2) z.1) k=some r) ((Sl.nil:Sl Z6),0) b wA ?_
  rintro ⟨p,m⟩ b aA N;try dsimp only at b
  refine ay fun O B=>?_;refine ag (S Mv (S Fv (S Ld ?_)));refine sLen (f:=aj.c) (s:=g.aq) (TK rfl) rfl rfl rfl rfl fun aC=>?_;refine S BI (nil ?_);refine ah.bN (fun l=>Option.bind (mG g l p) k=some r) b rfl (fun aD C q b=>?_) (fun q b=>?_)
  ·rw [mG] at b;try dsimp only at q
   have aE:=oD q;refine sk B ?_;clear B O;refine aQ (TA 1 (TA 4 kN)) (fun(z:(Sl Z6))=>[(3,.a (.d (Sl.d 2 Z6.c (some i) z)))]) (fun z=>(H.set i (some (.tok 2 z.l.length)))) (fun z=>Option.bind (mG g (g.aq.l.drop (m+1)) z) k=some r) ?_ ?_
   ·intro aF P;refine block ?_;refine ag (S Fv (S Ld (S Mv ?_)));obtain⟨j,Q,b⟩:=vO C b;refine S (ix aj.c m Q) (S Ld ?_);refine Sl ?_;refine Sf ?_;refine nil ?_;refine bu 5 _ rfl (KA 1 (KA 3 (KA 4 aS.nil))) ?_;refine aQ (TA 1 (TA 4 (TA 5 kN))) (fun(z:(Sl Z6))=>[(3,.a (.d (Sl.d 2 Z6.c (some i) z)))]) (fun z=>(H.set i (some (.tok 2 z.l.length)))) (fun z=>Option.bind ((px g j.aL j.aa ([46]:Bs) ([]:Bs)).bind fun E=>(aW 24 z E).bind fun o=>on (o) fun t=>mG g (g.aq.l.drop (m+1)) t) k=some r) ?_ ?_
    ·intro aG R;refine ag (S As (nil ?_));refine block ?_;obtain⟨F,U,b⟩:=dI b;refine bA (TA 1 (TA 4 (TA 5 kN))) (fun(z:(Sl Z6)×Nat)=>[(3,.a (.d (Sl.d 2 Z6.c (some i) z.1))),(6,.a (.d (.int .i64 ((z.2:Nat):Int))))]) (fun z=>(H.set i (some (.tok 2 z.1.l.length)))) (fun z=>j.aB.l.length-z.2) (fun z=>Option.bind (py g j (j.aB.l.drop z.2) z.1) F=some r) (p,0) b wA ?_
     rintro ⟨G,u⟩ b aH W;try dsimp only at b
     refine ay fun X I=>?_;refine ag (S Mv (S Fv (S Ld ?_)));refine sLen (f:=Z7.c) (s:=j.aB) (TK rfl) rfl rfl rfl rfl fun aI=>?_;refine S BI (nil ?_);refine ah.bN (fun l=>Option.bind (py g j l G) F=some r) b rfl (fun aJ w x b=>?_) (fun x b=>?_)
     ·rw [py] at b;try dsimp only at x
      have aK:=oD x;refine sk I ?_;clear I X;refine ay fun Y J=>?_;refine block ?_;refine ah.draw rfl ?_;refine Sd Mv (Sd Ld (Sd Fv (Sd Ld (Sd Mv ?_))));obtain⟨aM,Z,b⟩:=vO w b;refine Sd (ix Z7.c u Z) (Sd Fv (Sd Ld (Sd Fv (Sd Ld ?_))));obtain⟨aN,ab,b⟩:=qO rfl b;refine au.s0 (cL rfl rfl ab) rfl ?_;refine Sd Fv (Sd Ld (Sd Mv ?_));obtain⟨aO,ad,b⟩:=vO w b
      refine Sd (ix Z7.c u ad) (Sd Fv (Sd Ld ?_));obtain⟨aP,ae,b⟩:=qO rfl b;refine au.s0 (cL rfl rfl ae) rfl ?_;obtain⟨aR,af,b⟩:=qO (Gs _ _ _ _ _) b;refine cM rfl rfl (Gt af) ?_;obtain⟨K,al,b⟩:=qO rfl b;refine au.sH (jU (f:=Z6.c) (TK rfl) rfl (TK rfl) (TK rfl) ⟨_,rfl⟩ rfl rfl (by decide) rfl rfl rfl rfl av rfl al) rfl ?_;refine au.Dh (H.set i (some (.tok 2 K.l.length))) ?_
      refine Sd As ?_;refine au.nil (by decide +kernel) ?_;refine J _ ?_;clear J Y;refine region ?_;refine S Mv ?_;refine SI ?_;refine S As (nil ?_);exact W _ (K,(u+1)) wA b (dl w)
     rw [py] at b;have b:=ku U b;refine ah.exit ?_;obtain⟨aT,an,b⟩:=gH b;have b:=ku an b;exact R _ G wA b
    rintro aU b;try dsimp only at b
    refine region ?_;refine S Mv (S Ld (S Fv (S Ld (S Fv (S Ld ?_)))));obtain⟨E,ao,b⟩:=qO (Gs _ _ _ _ _) b;refine Sc rfl rfl (Gt ao) ?_;obtain⟨o,ap,b⟩:=qO rfl b;refine SH (am Z6.c (TK rfl) rfl (TK rfl) (TK rfl) ap) ?_;refine hq (H.set i (some (.tok 2 o.l.length))) ?_;refine S As (nil ?_);obtain⟨aV,aw,b⟩:=gH b;have b:=ku aw b;exact P _ o wA b
   rintro t b;try dsimp only at b
   refine region ?_;refine S Mv ?_;refine SI ?_;refine S As (nil ?_);exact N _ (t,(m+1)) wA b (dl C)
  rw [mG] at b;have b:=ku M b;refine ah.exit ?_;obtain⟨aX,ax,b⟩:=bW b;have b:=ku ax b;exact L _ p wA b
 rintro aY b;try dsimp only at b
 refine ag (S Mv (S As (nil ?_)));refine ah.dU 2 rfl ?_;refine ah.ret ?_;repeat (first|refine bF ?_|refine bG ?_)
 obtain rfl:=oJ b;refine bn.bH H rfl ⟨rfl,rfl⟩ ?_
 first|exact ai.cm y|(simp only [ai.set_set]; exact ai.cm y)
def tF (f:ak):Option (Sl Z6):=(tr f true).bind fun b=>bif (decide ((0:Int)<((b.l.length:Nat):Int))) then(some b) else((tA f).bind fun g=>(aW 24 b g).bind fun i=>(kg f).bind fun j=>(aW 24 i j).bind fun k=>some k)
def Bp (b:ak):Option (Sl Z6):=tF b
theorem OZ (a0:ak):Bp a0=tF a0:=rfl
theorem O3 {m:ak}{r:Sl Z6}(b:Bp m=some r) (H:ai) :AC Tryz.prog 11 [.agg (ak.c m)] H fun v h'=>v=.a (.d (Sl.d 2 Z6.c none r))/\h'=H:=by
 unfold Bp tF at b;refine AC.oW 18 [.tmp 2] Tryz.call11 Tryz.func11 ?_;refine ag (S BX ?_);refine s0 (dR (k':=2) rfl) rfl ?_;refine nil ?_;refine ah.tok 2 fun i g=>?_;refine ag (S Ld ?_);obtain⟨j,o,b⟩:=qT (NZ _ _) b;refine sH (bP rfl rfl (N0 o _ av)) rfl ?_;refine hq (H.set i (some (.tok 2 j.l.length))) ?_;refine S As (nil ?_);refine ay fun p k=>?_
 refine ag (S Mv ?_);refine sLen (f:=Z6.c) (s:=j) (TK rfl) rfl rfl rfl rfl fun B=>?_;refine S BI (nil ?_);refine cE b (fun q b=>?_) (fun q b=>?_)
 ·refine ag (S Mv (S As (nil ?_)));refine ah.dU 2 rfl ?_;refine ah.ret ?_;repeat (first|refine bF ?_|refine bG ?_)
  obtain rfl:=oJ b;refine bn.bH H rfl ⟨rfl,rfl⟩ ?_
  first|exact ai.cm g|(simp only [ai.set_set]; exact ai.cm g)
 refine sk k ?_;clear k p;refine ag (S Mv (S Ld ?_));obtain⟨C,t,b⟩:=qT (Ov _) b;refine Sc rfl rfl (Ow t) ?_;obtain⟨u,w,b⟩:=qT rfl b;refine SH (am Z6.c (TK rfl) rfl (TK rfl) (TK rfl) w) ?_;refine hq (H.set i (some (.tok 2 u.l.length))) ?_;refine S As (nil ?_);refine ag (S Mv (S Ld ?_));obtain⟨E,x,b⟩:=qT (OX _) b;refine Sc rfl rfl (OY x) ?_
 obtain⟨y,z,b⟩:=qT rfl b;refine SH (am Z6.c (TK rfl) rfl (TK rfl) (TK rfl) z) ?_;refine hq (H.set i (some (.tok 2 y.l.length))) ?_;refine S As (nil ?_);refine ah.dU 2 rfl ?_;refine ah.ret ?_;repeat (first|refine bF ?_|refine bG ?_)
 obtain rfl:=oJ b;refine bn.bH H rfl ⟨rfl,rfl⟩ ?_
 first|exact ai.cm g|(simp only [ai.set_set]; exact ai.cm g)
def pz :List Z7->Int->Option (Int)
 | [],b=>some b
 | f::g,b=>on (f) fun i=>on (f) fun j=>(cG ((i.aH.l.length:Nat):Int) ((j.bp.l.length:Nat):Int)).bind fun k=>(cG b k).bind fun m=>pz  (g) m
def nU :List aj->Int->Option (Int)
 | [],f=>some f
 | g::i,f=>on (g) fun b=>(cG (1:Int) ((b.aB.l.length:Nat):Int)).bind fun j=>(cG j ((b.aG.l.length:Nat):Int)).bind fun k=>(cG k ((b.aL.l.length:Nat):Int)).bind fun m=>(cG m ((b.bp.l.length:Nat):Int)).bind fun o=>(cG o ((b.aX.l.length:Nat):Int)).bind fun p=>(cG f p).bind fun q=>Option.bind (pz  b.aB.l q) fun r=>on (r) fun s=>nU  (i) s
def tG (b:ak):Option Bool:=bif (decide ((70:Int)<((b.aq.l.length:Nat):Int))) then(some true) else(Option.bind (nU  b.aq.l (0:Int)) fun f=>on (f) fun g=>some (decide ((1000:Int)<g)))
def Bq (b:ak):Option Bool:=tG b
theorem O4 (a0:ak):Bq a0=tG a0:=rfl
theorem O5 {i:ak}{r:Bool}(b:Bq i=some r) (H:ai) :AC Tryz.prog 12 [.agg (ak.c i)] H fun v h'=>v=.a (.d (.bool r))/\h'=H:=by
 unfold Bq tG at b;refine AC.oW 71 [.tmp 2] Tryz.call12 Tryz.func12 ?_;refine ag (S BX (S As (nil ?_)));refine ay fun F t=>?_;refine ag (S Fv (S Ld ?_));refine sLen (f:=aj.c) (s:=i.aq) (TK rfl) rfl rfl rfl rfl fun az=>?_;refine S BI (nil ?_);refine cE b (fun G b=>?_) (fun G b=>?_)
 ·refine ag (S As (nil ?_));exact rt b
 refine sk t ?_;clear t F;refine ag (S As (nil ?_));refine aQ kN (fun(z:Int)=>[(3,.a (.d (.int .i64 z)))]) (fun z=>H) (fun z=>(some (decide ((1000:Int)<z)))=some r) ?_ ?_
 ·intro aA I;refine ag (S As (nil ?_));refine block ?_;obtain⟨j,J,b⟩:=b_ b;refine bA (TA 1 kN) (fun(z:Int×Nat)=>[(3,.a (.d (.int .i64 z.1))),(4,.a (.d (.int .i64 ((z.2:Nat):Int))))]) (fun z=>H) (fun z=>i.aq.l.length-z.2) (fun z=>Option.bind (nU  (i.aq.l.drop z.2) z.1) j=some r) ((0:Int),0) b wA ?_;rintro ⟨u,k⟩ b aD K;try dsimp only at b
  refine ay fun L w=>?_;refine ag (S Mv (S Fv (S Ld ?_)));refine sLen (f:=aj.c) (s:=i.aq) (TK rfl) rfl rfl rfl rfl fun aE=>?_;refine S BI (nil ?_);refine ah.bN (fun l=>Option.bind (nU  l u) j=some r) b rfl (fun aF x m b=>?_) (fun m b=>?_)
  ·rw [nU] at b;try dsimp only at m
   have aI:=oD m;refine sk w ?_;clear w L;refine aQ (TA 1 (TA 4 kN)) (fun(z:Int)=>[(3,.a (.d (.int .i64 z)))]) (fun z=>H) (fun z=>Option.bind (nU  (i.aq.l.drop (k+1)) z) j=some r) ?_ ?_
   ·intro aJ M;refine block ?_;refine ag (S Fv (S Ld (S Mv ?_)));obtain⟨g,N,b⟩:=vO x b;refine S (ix aj.c k N) (S Ld ?_);refine Sl ?_;refine Sf ?_;refine nil ?_;refine bu 5 _ rfl (KA 1 (KA 3 (KA 4 aS.nil))) ?_;refine ag (S Mv (S Fv (S Ld ?_)));refine sLen (f:=Z7.c) (s:=g.aB) (TK rfl) rfl rfl rfl rfl fun aK=>?_;obtain⟨aM,O,b⟩:=qO rfl b;refine s0 (eR rfl rfl O) rfl ?_
    refine S Fv (S Ld ?_);refine sLen (f:=Z9.c) (s:=g.aG) (TK rfl) rfl rfl rfl rfl fun aN=>?_;obtain⟨aP,P,b⟩:=qO rfl b;refine s0 (eR rfl rfl P) rfl ?_;refine S Fv (S Ld ?_);refine sLen (f:=Z8.c) (s:=g.aL) (TK rfl) rfl rfl rfl rfl fun aR=>?_;obtain⟨aT,Q,b⟩:=qO rfl b;refine s0 (eR rfl rfl Q) rfl ?_;refine S Fv (S Ld ?_);refine sLen (f:=aC.c) (s:=g.bp) (TK rfl) rfl rfl rfl rfl fun aU=>?_
    obtain⟨aV,R,b⟩:=qO rfl b;refine s0 (eR rfl rfl R) rfl ?_;refine S Fv (S Ld ?_);refine sLen (f:=aO) (s:=g.aX) (TK rfl) rfl rfl rfl rfl fun aW=>?_;obtain⟨aY,U,b⟩:=qO rfl b;refine s0 (eR rfl rfl U) rfl ?_;obtain⟨W,X,b⟩:=qO rfl b;refine s0 (eR rfl rfl X) rfl ?_;refine S As (nil ?_);refine ag (S As (nil ?_));refine block ?_;obtain⟨y,Y,b⟩:=dI b
    refine bA (TA 1 (TA 4 (TA 5 kN))) (fun(z:Int×Nat)=>[(3,.a (.d (.int .i64 z.1))),(6,.a (.d (.int .i64 ((z.2:Nat):Int))))]) (fun z=>H) (fun z=>g.aB.l.length-z.2) (fun z=>Option.bind (pz  (g.aB.l.drop z.2) z.1) y=some r) (W,0) b wA ?_;rintro ⟨B,o⟩ b aZ Z;try dsimp only at b
    refine ay fun aa C=>?_;refine ag (S Mv (S Fv (S Ld ?_)));refine sLen (f:=Z7.c) (s:=g.aB) (TK rfl) rfl rfl rfl rfl fun a0=>?_;refine S BI (nil ?_);refine ah.bN (fun l=>Option.bind (pz  l B) y=some r) b rfl (fun a1 p q b=>?_) (fun q b=>?_)
    ·rw [pz] at b;try dsimp only at q
     have a2:=oD q;refine sk C ?_;clear C aa;refine ay fun ab E=>?_;refine block ?_;refine ah.draw rfl ?_;refine Sd Mv (Sd Fv (Sd Ld (Sd Mv ?_)));obtain⟨ad,ae,b⟩:=vO p b;refine Sd (ix Z7.c o ae) (Sd Fv (Sd Ld ?_));refine au.s0 (cK (f:=Z8.c) (s:=ad.aH) (TK rfl) rfl rfl rfl) rfl ?_;refine Sd Fv (Sd Ld (Sd Mv ?_));obtain⟨af,al,b⟩:=vO p b
     refine Sd (ix Z7.c o al) (Sd Fv (Sd Ld ?_));refine au.s0 (cK (f:=aC.c) (s:=af.bp) (TK rfl) rfl rfl rfl) rfl ?_;obtain⟨a3,am,b⟩:=qO rfl b;refine au.s0 (eR rfl rfl am) rfl ?_;obtain⟨an,ao,b⟩:=qO rfl b;refine au.s0 (eR rfl rfl ao) rfl ?_;refine Sd As ?_;refine au.nil (by decide +kernel) ?_;refine E _ ?_;clear E ab;refine region ?_;refine S Mv ?_;refine SI ?_
     refine S As (nil ?_);exact Z _ (an,(o+1)) wA b (dl p)
    rw [pz] at b;have b:=ku Y b;refine ah.exit ?_;obtain⟨a4,ap,b⟩:=gH b;have b:=ku ap b;exact M _ B wA b
   rintro aw b;try dsimp only at b
   refine region ?_;refine S Mv ?_;refine SI ?_;refine S As (nil ?_);exact K _ (aw,(k+1)) wA b (dl x)
  rw [nU] at b;have b:=ku J b;refine ah.exit ?_;obtain⟨a5,ax,b⟩:=bW b;have b:=ku ax b;exact I _ u wA b
 rintro a6 b;try dsimp only at b
 refine ag (S Mv (S BI (S As (nil ?_))));exact rt b
def pE (f:af->Option Int):List af->Int->Option (Int)
 | [],b=>some b
 | g::i,b=>on (g) fun j=>(f j).bind fun k=>(cG b k).bind fun l=>pE f (i) l
def lG:Nat->af->Option Int
 | 0,_=>none
 | n+1,g=>Option.bind (pE (lG n) g.aD.l (1:Int)) fun b=>on (b) fun f=>some f
def Br (n:Nat):Prop:=∀{a0:af}   {r:Int},lG n a0=some r->∀(H:ai),AC Tryz.prog 128 [.agg (af.c a0)] H fun v h'=>v=.a (.d (.int .i64 r))/\h'=H
theorem O6 (n:Nat) (t:Br (ax:=ax) n):Br (ax:=ax) (n+1):=by
 intro i   r b H;rw [lG] at b;refine AC.oW 21 [.tmp 2] Tryz.call128 Tryz.func128 ?_;refine ag (S BX (S As (nil ?_)));refine ag (S As (nil ?_));refine aQ kN (fun(z:Int)=>[(3,.a (.d (.int .i64 z)))]) (fun z=>H) (fun z=>(some z)=some r) ?_ ?_
 ·intro J u;refine ag (S As (nil ?_));refine block ?_;obtain⟨j,v,b⟩:=b_ b;refine bA (TA 1 kN) (fun(z:Int×Nat)=>[(3,.a (.d (.int .i64 z.1))),(4,.a (.d (.int .i64 ((z.2:Nat):Int))))]) (fun z=>H) (fun z=>i.aD.l.length-z.2) (fun z=>Option.bind (pE (lG n) (i.aD.l.drop z.2) z.1) j=some r) ((1:Int),0) b wA ?_;rintro ⟨k,m⟩ b K w;try dsimp only at b
  refine ay fun y o=>?_;refine ag (S Mv (S Fv ?_));refine s0 (dZ (TK rfl) rfl rfl (congrArg (fun x=>some (A.d x)) (af.dW _))) rfl ?_;refine sLen (f:=af.c) (s:=i.aD) (TK rfl) rfl rfl rfl rfl fun L=>?_;refine S BI (nil ?_);refine ah.bN (fun l=>Option.bind (pE (lG n) l k) j=some r) b rfl (fun M p g b=>?_) (fun g b=>?_)
  ·rw [pE] at b;try dsimp only at g
   have N:=oD g;refine sk o ?_;clear o y;refine ay fun B q=>?_;refine block ?_;refine region ?_;refine S Mv (S Fv ?_);refine s0 (dZ (TK rfl) rfl rfl (congrArg (fun x=>some (A.d x)) (af.dW _))) rfl ?_;refine S Mv ?_;obtain⟨O,C,b⟩:=vO p b;refine S (ix af.c m C) (S Ld ?_);obtain⟨P,E,b⟩:=qO rfl b;refine Sc rfl rfl (t E) ?_;obtain⟨F,G,b⟩:=qO rfl b
   refine s0 (eR rfl rfl G) rfl ?_;refine S As (nil ?_);refine q _ ?_;clear q B;refine region ?_;refine S Mv ?_;refine SI ?_;refine S As (nil ?_);exact w _ (F,(m+1)) wA b (dl p)
  rw [pE] at b;have b:=ku v b;refine ah.exit ?_;obtain⟨Q,I,b⟩:=bW b;have b:=ku I b;exact u _ k wA b
 rintro R b;try dsimp only at b
 refine ag (S Mv (S As (nil ?_)));exact rt b
theorem Gu:∀(n:Nat),(Br (ax:=ax) n)
 | 0=>fun b=>by first|cases b|(rw [lG] at b; cases b)
 | n+1=>O6 n (Gu n)
def Gv (b:af):Option Int:=lG F0 b
theorem O7 {b:af}{r:Int}(f:Gv b=some r) (H:ai) :AC Tryz.prog 128 [.agg (af.c b)] H fun v h'=>v=.a (.d (.int .i64 r))/\h'=H:=(Gu F0) f H 
def Bt (b:af):Option Int:=lG F0 b
theorem O8 (a0:af):Gv a0=Bt a0:=rfl
def pF (f:af->Option Int):List af->Int->Option (Int)
 | [],b=>some b
 | i::j,b=>on (i) fun k=>(f k).bind fun g=>pF f (j) (if g>b then g else b)
def lH:Nat->af->Option Int
 | 0,_=>none
 | n+1,i=>Option.bind (pF (lH n) i.aD.l (0:Int)) fun b=>on (b) fun f=>(cG f (1:Int)).bind fun g=>some g
def Bu (n:Nat):Prop:=∀{a0:af}   {r:Int},lH n a0=some r->∀(H:ai),AC Tryz.prog 129 [.agg (af.c a0)] H fun v h'=>v=.a (.d (.int .i64 r))/\h'=H
theorem O9 (n:Nat) (v:Bu (ax:=ax) n):Bu (ax:=ax) (n+1):=by
 intro j   r b H;rw [lH] at b;refine AC.oW 22 [.tmp 2] Tryz.call129 Tryz.func129 ?_;refine ag (S BX (S As (nil ?_)));refine ag (S As (nil ?_));refine aQ kN (fun(z:Int)=>[(3,.a (.d (.int .i64 z)))]) (fun z=>H) (fun z=>((cG z (1:Int)).bind fun k=>some k)=some r) ?_ ?_
 ·intro K w;refine ag (S As (nil ?_));refine block ?_;obtain⟨m,y,b⟩:=b_ b;refine bA (TA 1 kN) (fun(z:Int×Nat)=>[(3,.a (.d (.int .i64 z.1))),(4,.a (.d (.int .i64 ((z.2:Nat):Int))))]) (fun z=>H) (fun z=>j.aD.l.length-z.2) (fun z=>Option.bind (pF (lH n) (j.aD.l.drop z.2) z.1) m=some r) ((0:Int),0) b wA ?_;rintro ⟨g,o⟩ b L B;try dsimp only at b
  refine ay fun C p=>?_;refine ag (S Mv (S Fv ?_));refine s0 (dZ (TK rfl) rfl rfl (congrArg (fun x=>some (A.d x)) (af.dW _))) rfl ?_;refine sLen (f:=af.c) (s:=j.aD) (TK rfl) rfl rfl rfl rfl fun M=>?_;refine S BI (nil ?_);refine ah.bN (fun l=>Option.bind (pF (lH n) l g) m=some r) b rfl (fun N q i b=>?_) (fun i b=>?_)
  ·rw [pF] at b;try dsimp only at i
   have O:=oD i;refine sk p ?_;clear p C;refine ay fun E t=>?_;refine block ?_;refine region ?_;refine S Mv (S Fv ?_);refine s0 (dZ (TK rfl) rfl rfl (congrArg (fun x=>some (A.d x)) (af.dW _))) rfl ?_;refine S Mv ?_;obtain⟨P,F,b⟩:=vO q b;refine S (ix af.c o F) (S Ld ?_);obtain⟨u,G,b⟩:=qO rfl b;refine Sc rfl rfl (v G) ?_
   refine s0 (MA rfl rfl) rfl ?_;refine S As (nil ?_);refine t _ ?_;clear t E;refine region ?_;refine S Mv ?_;refine SI ?_;refine S As (nil ?_);exact B _ ((if u>g then u else g),(o+1)) wA b (dl q)
  rw [pF] at b;have b:=ku y b;refine ah.exit ?_;obtain⟨Q,I,b⟩:=bW b;have b:=ku I b;exact w _ g wA b
 rintro R b;try dsimp only at b
 refine ag (S Mv ?_);obtain⟨k,J,b⟩:=qT rfl b;refine s0 (eR rfl rfl J) rfl ?_;refine S As (nil ?_);exact rt b
theorem Gw:∀(n:Nat),(Bu (ax:=ax) n)
 | 0=>fun b=>by first|cases b|(rw [lH] at b; cases b)
 | n+1=>O9 n (Gw n)
def Gx (b:af):Option Int:=lH F0 b
theorem O_ {b:af}{r:Int}(f:Gx b=some r) (H:ai) :AC Tryz.prog 129 [.agg (af.c b)] H fun v h'=>v=.a (.d (.int .i64 r))/\h'=H:=(Gw F0) f H 
def Bv (b:af):Option Int:=lH F0 b
theorem Pa (a0:af):Gx a0=Bv a0:=rfl
def pG (g:(Sl Bs)) (f:Bs):Nat->Nat->Option (Unit ⊕ Bool)
 | 0,b=>some (Sum.inl ())
 | i+1,b=>on (f) fun j=>(g.l[b]?).bind fun k=>bif ((j==k)) then(some (Sum.inr true)) else(pG g f (i) (b+1) )
def nV (f:(Sl Bs)):List Bs->Nat->Option (Unit ⊕ Bool)
 | [],b=>some (Sum.inl ())
 | g::i,b=>Option.bind (pG f g b 0 ) fun j=>match j with|Sum.inl _=>(on (()) fun _=>nV f (i) (b+1) )|Sum.inr k=>(some (Sum.inr k))
def tH (b:(Sl Bs)):Option Bool:=Option.bind (nV b b.l 0 ) fun f=>match f with|Sum.inl _=>(on (()) fun _=>some false)|Sum.inr g=>(some g)
def Bw (b:(Sl Bs)):Option Bool:=tH b
theorem Pb (a0:(Sl Bs)):Bw a0=tH a0:=rfl
theorem Pc {g:Sl Bs}{w0:Option Nat}{r:Bool}(b:Bw g=some r) (H:ai) :AC Tryz.prog 181 [.d (Sl.d 1 aO w0 g)] H fun v h'=>v=.a (.d (.bool r))/\h'=H:=by
 unfold Bw tH at b;refine AC.oW 25 [.tmp 2] Tryz.call181 Tryz.func181 ?_;refine ag (S As (nil ?_));refine aQ kN (fun(z:Unit)=>[]) (fun z=>H) (fun z=>(some false)=some r) ?_ ?_
 ·intro R C;refine ag (S As (nil ?_));refine block ?_;obtain⟨j,p,b⟩:=b_ b;refine bA (TA 0 kN) (fun(z:Nat)=>[(3,.a (.d (.int .i64 ((z:Nat):Int))))]) (fun z=>H) (fun z=>g.l.length-z) (fun z=>Option.bind (nV g (g.l.drop z) z ) j=some r) 0 b wA ?_;rintro i b U E;try dsimp only at b
  refine ay fun F q=>?_;refine ag (S Mv (S Mv ?_));refine sLen (f:=aO) (s:=g) (TK rfl) rfl rfl rfl rfl fun W=>?_;refine S BI (nil ?_);refine ah.bN (fun l=>Option.bind (nV g l i ) j=some r) b rfl (fun t u k b=>?_) (fun k b=>?_)
  ·rw [nV] at b;try dsimp only at k
   have X:=oD k;refine sk q ?_;clear q F;refine aQ (TA 0 (TA 3 kN)) (fun(z:Unit)=>[]) (fun z=>H) (fun z=>Option.bind (nV g (g.l.drop (i+1)) (i+1) ) j=some r) ?_ ?_
   ·intro Y G;refine block ?_;refine ag (S As (nil ?_));refine block ?_;obtain⟨w,x,b⟩:=dI b;refine bA (TA 0 (TA 3 kN)) (fun(z:Nat)=>[(4,.a (.d (.int .i64 ((z:Nat):Int))))]) (fun z=>H) (fun z=>i-z) (fun z=>Option.bind (pG g t (i-z) z ) w=some r) 0 b wA ?_;rintro m b Z I;try dsimp only at b
    refine ay fun J y=>?_;refine ag (S Mv (S Mv (S BI (nil ?_))));refine ah.Fw (fun l=>Option.bind (pG g t l m ) w=some r) b rfl (fun K o b=>?_) (fun o b=>?_)
    ·rw [pG] at b;try dsimp only at o
     have aa:=oD o;refine sk y ?_;clear y J;refine ay fun L B=>?_;refine block ?_;refine ah.cr (Sd Mv (Sd Mv ?_));obtain⟨ab,M,b⟩:=vO u b;refine Sd (ix aO i M) (Sd Ld (Sd Mv (Sd Mv ?_)));obtain⟨ad,N,b⟩:=qO rfl b;refine Sd (ix aO m N) (Sd Ld (Sd BS ?_));refine au.nil (by decide +kernel) ?_;refine cO b (fun O b=>?_) (fun O b=>?_)
     ·refine ag (S As (nil ?_));refine ah.ret ?_;repeat (first|refine bF ?_|refine bG ?_)
      have b:=ku x b;have b:=ku p b;obtain rfl:=oJ b;refine bn.bH H rfl ⟨rfl,rfl⟩ ?_;exact(fun _ _ h=>h)
     refine sk B ?_;clear B L;refine region ?_;refine S Mv ?_;refine SI ?_;refine S As (nil ?_);exact I _ (m+1) wA b (dn K)
    rw [pG] at b;have b:=ku x b;try dsimp only at b
    refine ah.exit ?_;obtain⟨ae,P,b⟩:=gH b;have b:=ku P b;exact G _ () wA b
   rintro _ b;try dsimp only at b
   refine region ?_;refine S Mv ?_;refine SI ?_;refine S As (nil ?_);exact E _ (i+1) wA b (dl u)
  rw [nV] at b;have b:=ku p b;try dsimp only at b
  refine ah.exit ?_;obtain⟨af,Q,b⟩:=bW b;have b:=ku Q b;exact C _ () wA b
 rintro _ b;try dsimp only at b
 refine ag (S As (nil ?_));exact rt b
def nW (b:af) (f:Bool):Option Bool:=bif (decide (b.an=(0:Int))) then(some ((((decide (b.bl=(0:Int)))&&((b.bg==([]:Bs))))&&(decide (((b.aD.l.length:Nat):Int)=(0:Int))))&&(decide (((b.aN.l.length:Nat):Int)=(0:Int))))) else(bif (decide (b.an=(1:Int))) then(some (((((decide (b.bl=(0:Int)))||(decide (b.bl=(1:Int))))&&((b.bg==([]:Bs))))&&(decide (((b.aD.l.length:Nat):Int)=(0:Int))))&&(decide (((b.aN.l.length:Nat):Int)=(0:Int))))) else(bif (decide (b.an=(2:Int))) then(some ((((b.bg==([]:Bs)))&&(decide (((b.aD.l.length:Nat):Int)=(0:Int))))&&(decide (((b.aN.l.length:Nat):Int)=(0:Int))))) else(bif (decide (b.an=(3:Int))) then(some (((decide (b.bl=(0:Int)))&&(decide (((b.aD.l.length:Nat):Int)=(0:Int))))&&(decide (((b.aN.l.length:Nat):Int)=(0:Int))))) else(bif (decide (b.an=(4:Int))) then(on (bif (((decide (b.bl=(0:Int)))&&(decide (((b.aD.l.length:Nat):Int)=(0:Int))))&&(decide (((b.aN.l.length:Nat):Int)=(0:Int)))) then d_ b.bg else false) fun g=>some (((((((decide (b.bl=(0:Int)))&&(decide (((b.aD.l.length:Nat):Int)=(0:Int))))&&(decide (((b.aN.l.length:Nat):Int)=(0:Int))))&&g)&&(!(b.bg==([116,114,117,101]:Bs))))&&(!(b.bg==([102,97,108,115,101]:Bs))))&&(!(b.bg==([110,117,108,108]:Bs))))) else(bif (decide (b.an=(5:Int))) then(some (((decide (b.bl=(0:Int)))&&((b.bg==([]:Bs))))&&(decide (((b.aN.l.length:Nat):Int)=(0:Int))))) else(bif (decide (b.an=(6:Int))) then(aR ((((decide (b.bl=(0:Int)))&&((b.bg==([]:Bs))))&&(decide (((b.aN.l.length:Nat):Int)=((b.aD.l.length:Nat):Int))))) (tH b.aN) false fun i=>some ((((decide (b.bl=(0:Int)))&&((b.bg==([]:Bs))))&&(decide (((b.aN.l.length:Nat):Int)=((b.aD.l.length:Nat):Int))))&&(!i))) else(bif (decide (b.an=(7:Int))) then(on (bif (((f&&(decide (b.bl=(0:Int))))&&(decide (((b.aD.l.length:Nat):Int)=(0:Int))))&&(decide (((b.aN.l.length:Nat):Int)=(0:Int)))) then d_ b.bg else false) fun j=>some ((((f&&(decide (b.bl=(0:Int))))&&(decide (((b.aD.l.length:Nat):Int)=(0:Int))))&&(decide (((b.aN.l.length:Nat):Int)=(0:Int))))&&j)) else(some false))))))))
def Bx (f:af) (b:Bool):Option Bool:=nW f b
theorem Pd (a0:af) (b:Bool):Bx a0 b=nW a0 b:=rfl
theorem Pe {g:af}{i r:Bool}(b:Bx g i=some r) (H:ai) :AC Tryz.prog 160 [.agg (af.c g),.d (.bool i)] H fun v h'=>v=.a (.d (.bool r))/\h'=H:=by
 unfold Bx nW at b;refine AC.oW 193 [.tmp 4] Tryz.call160 Tryz.func160 ?_;refine ag (S BX (S As (nil ?_)));refine ay fun l j=>?_;refine ag (S Fv (S Ld (nil ?_)));refine block ?_;refine ag (S BI (S As (nil ?_)));refine cE b (fun m b=>?_) (fun m b=>?_)
 ·refine ag (S Fv (S Ld (S BI (S Mv (G0 Fv ?_)))));refine G1 13 rfl Ld ?_;refine G1 14 rfl BS ?_;refine S PA (S Mv (G0 Fv ?_));refine gC rfl rfl (fun hC=>aK (k:=18) rfl (dZ (TK rfl) rfl rfl (congrArg (fun x=>some (A.d x)) (af.dW _)))) rfl ?_;refine gC rfl rfl (fun hC=>aK (k:=19) rfl (cK (f:=af.c) (s:=g.aD) (TK rfl) rfl rfl rfl)) rfl ?_;refine G1 20 rfl BI ?_;refine S PA (S Mv (G0 Fv ?_))
  refine G1 24 rfl Ld ?_;refine gC rfl rfl (fun hC=>aK (k:=25) rfl (cK (f:=aO) (s:=g.aN) (TK rfl) rfl rfl rfl)) rfl ?_;refine G1 26 rfl BI ?_;refine S PA (S As (nil ?_));exact rt b
 refine ag (S BI (S As (nil ?_)));refine cE b (fun o b=>?_) (fun o b=>?_)
 ·refine ag (S Fv (S Ld (S BI (S Mv (G0 Fv ?_)))));refine G1 35 rfl Ld ?_;refine G1 36 rfl BI ?_;refine S PO (S Mv (G0 Fv ?_));refine G1 40 rfl Ld ?_;refine G1 41 rfl BS ?_;refine S PA (S Mv (G0 Fv ?_));refine gC rfl rfl (fun hC=>aK (k:=45) rfl (dZ (TK rfl) rfl rfl (congrArg (fun x=>some (A.d x)) (af.dW _)))) rfl ?_;refine gC rfl rfl (fun hC=>aK (k:=46) rfl (cK (f:=af.c) (s:=g.aD) (TK rfl) rfl rfl rfl)) rfl ?_
  refine G1 47 rfl BI ?_;refine S PA (S Mv (G0 Fv ?_));refine G1 51 rfl Ld ?_;refine gC rfl rfl (fun hC=>aK (k:=52) rfl (cK (f:=aO) (s:=g.aN) (TK rfl) rfl rfl rfl)) rfl ?_;refine G1 53 rfl BI ?_;refine S PA (S As (nil ?_));exact rt b
 refine ag (S BI (S As (nil ?_)));refine cE b (fun p b=>?_) (fun p b=>?_)
 ·refine ag (S Fv (S Ld (S BS (S Mv (G0 Fv ?_)))));refine gC rfl rfl (fun hC=>aK (k:=62) rfl (dZ (TK rfl) rfl rfl (congrArg (fun x=>some (A.d x)) (af.dW _)))) rfl ?_;refine gC rfl rfl (fun hC=>aK (k:=63) rfl (cK (f:=af.c) (s:=g.aD) (TK rfl) rfl rfl rfl)) rfl ?_;refine G1 64 rfl BI ?_;refine S PA (S Mv (G0 Fv ?_));refine G1 68 rfl Ld ?_;refine gC rfl rfl (fun hC=>aK (k:=69) rfl (cK (f:=aO) (s:=g.aN) (TK rfl) rfl rfl rfl)) rfl ?_
  refine G1 70 rfl BI ?_;refine S PA (S As (nil ?_));exact rt b
 refine ag (S BI (S As (nil ?_)));refine cE b (fun q b=>?_) (fun q b=>?_)
 ·refine ag (S Fv (S Ld (S BI (S Mv (G0 Fv ?_)))));refine gC rfl rfl (fun hC=>aK (k:=79) rfl (dZ (TK rfl) rfl rfl (congrArg (fun x=>some (A.d x)) (af.dW _)))) rfl ?_;refine gC rfl rfl (fun hC=>aK (k:=80) rfl (cK (f:=af.c) (s:=g.aD) (TK rfl) rfl rfl rfl)) rfl ?_;refine G1 81 rfl BI ?_;refine S PA (S Mv (G0 Fv ?_));refine G1 85 rfl Ld ?_;refine gC rfl rfl (fun hC=>aK (k:=86) rfl (cK (f:=aO) (s:=g.aN) (TK rfl) rfl rfl rfl)) rfl ?_
  refine G1 87 rfl BI ?_;refine S PA (S As (nil ?_));exact rt b
 refine ag (S BI (S As (nil ?_)));refine cE b (fun t b=>?_) (fun t b=>?_)
 ·refine ag (S Fv (S Ld (S BI (S Mv (G0 Fv ?_)))));refine gC rfl rfl (fun hC=>aK (k:=96) rfl (dZ (TK rfl) rfl rfl (congrArg (fun x=>some (A.d x)) (af.dW _)))) rfl ?_;refine gC rfl rfl (fun hC=>aK (k:=97) rfl (cK (f:=af.c) (s:=g.aD) (TK rfl) rfl rfl rfl)) rfl ?_;refine G1 98 rfl BI ?_;refine S PA (S Mv (G0 Fv ?_));refine G1 102 rfl Ld ?_;refine gC rfl rfl (fun hC=>aK (k:=103) rfl (cK (f:=aO) (s:=g.aN) (TK rfl) rfl rfl rfl)) rfl ?_
  refine G1 104 rfl BI ?_;refine S PA (S Mv (G0 Fv ?_));refine G1 108 rfl Ld ?_;obtain⟨E,u,b⟩:=k9 (fun _=>(jY _)) b;refine dz 109 rfl rfl rfl rfl rfl (fun hC=>jZ (u hC)) ?_;refine S PA (S Mv (G0 Fv ?_));refine G1 113 rfl Ld ?_;refine G1 114 rfl BS ?_;refine S PA (S Mv (G0 Fv ?_));refine G1 118 rfl Ld ?_;refine G1 119 rfl BS ?_;refine S PA (S Mv (G0 Fv ?_));refine G1 123 rfl Ld ?_
  refine G1 124 rfl BS ?_;refine S PA (S As (nil ?_));exact rt b
 refine ag (S BI (S As (nil ?_)));refine cE b (fun w b=>?_) (fun w b=>?_)
 ·refine ag (S Fv (S Ld (S BI (S Mv (G0 Fv ?_)))));refine G1 133 rfl Ld ?_;refine G1 134 rfl BS ?_;refine S PA (S Mv (G0 Fv ?_));refine G1 138 rfl Ld ?_;refine gC rfl rfl (fun hC=>aK (k:=139) rfl (cK (f:=aO) (s:=g.aN) (TK rfl) rfl rfl rfl)) rfl ?_;refine G1 140 rfl BI ?_;refine S PA (S As (nil ?_));exact rt b
 refine ag (S BI (S As (nil ?_)));refine cE b (fun y b=>?_) (fun y b=>?_)
 ·refine ag (S Fv (S Ld (S BI (S Mv (G0 Fv ?_)))));refine G1 149 rfl Ld ?_;refine G1 150 rfl BS ?_;refine S PA (S Mv (G0 Fv ?_));refine G1 154 rfl Ld ?_;refine gC rfl rfl (fun hC=>aK (k:=155) rfl (cK (f:=aO) (s:=g.aN) (TK rfl) rfl rfl rfl)) rfl ?_;refine G0 Fv ?_;refine gC rfl rfl (fun hC=>aK (k:=157) rfl (dZ (TK rfl) rfl rfl (congrArg (fun x=>some (A.d x)) (af.dW _)))) rfl ?_
  refine gC rfl rfl (fun hC=>aK (k:=158) rfl (cK (f:=af.c) (s:=g.aD) (TK rfl) rfl rfl rfl)) rfl ?_;refine G2 156 159 rfl rfl BI ?_;refine S PA (S Mv (G0 Fv ?_));refine G1 163 rfl Ld ?_;obtain⟨F,z,b⟩:=dQ (Pb _) b;refine dz 164 rfl rfl rfl rfl rfl (fun hC=>Pc (z hC)) ?_;refine G1 165 rfl NB ?_;refine S PA (S As (nil ?_));exact rt b
 refine ag (S BI (S As (nil ?_)));refine cE b (fun B b=>?_) (fun B b=>?_)
 ·refine ag (S Mv (S Mv (G0 Fv ?_)));refine G1 172 rfl Ld ?_;refine G1 173 rfl BI ?_;refine S PA (S Mv (G0 Fv ?_));refine gC rfl rfl (fun hC=>aK (k:=177) rfl (dZ (TK rfl) rfl rfl (congrArg (fun x=>some (A.d x)) (af.dW _)))) rfl ?_;refine gC rfl rfl (fun hC=>aK (k:=178) rfl (cK (f:=af.c) (s:=g.aD) (TK rfl) rfl rfl rfl)) rfl ?_;refine G1 179 rfl BI ?_;refine S PA (S Mv (G0 Fv ?_))
  refine G1 183 rfl Ld ?_;refine gC rfl rfl (fun hC=>aK (k:=184) rfl (cK (f:=aO) (s:=g.aN) (TK rfl) rfl rfl rfl)) rfl ?_;refine G1 185 rfl BI ?_;refine S PA (S Mv (G0 Fv ?_));refine G1 189 rfl Ld ?_;obtain⟨G,C,b⟩:=k9 (fun _=>(jY _)) b;refine dz 190 rfl rfl rfl rfl rfl (fun hC=>jZ (C hC)) ?_;refine S PA (S As (nil ?_));exact rt b
 refine sk j ?_;clear j l;refine ag (S As (nil ?_));exact rt b
def nX (b:Bool):List Bs->Unit ⊕ Bool
 | []=>Sum.inl ()
 | f::g=>on (bif b then f else([]:Bs)) fun i=>on (bif b then d_ i else false) fun j=>bif (b&&(!j)) then(Sum.inr false) else(nX b (g) )
def iS (b:Bool) (f:af->Bool->Option Bool):List af->Option (Unit ⊕ Bool)
 | []=>some (Sum.inl ())
 | g::i=>on (g) fun j=>(f j b).bind fun k=>bif (!k) then(some (Sum.inr false)) else(iS b f (i) )
def fW:Nat->af->Bool->Option Bool
 | 0,_,_=>none
 | n+1,f,b=>(nW f b).bind fun g=>bif (!g) then(some false) else(on (nX b f.aN.l ) fun i=>match i with|Sum.inl _=>(on (()) fun _=>Option.bind (iS b (fW n) f.aD.l ) fun j=>match j with|Sum.inl _=>(on (()) fun _=>some true)|Sum.inr k=>(some k))|Sum.inr m=>(some m))
def By (n:Nat):Prop:=∀{a0:af}{b:Bool}   {r:Bool},fW n a0 b=some r->∀(H:ai),AC Tryz.prog 130 [.agg (af.c a0),.d (.bool b)] H fun v h'=>v=.a (.d (.bool r))/\h'=H
theorem Pf (n:Nat) (I:By (ax:=ax) n):By (ax:=ax) (n+1):=by
 intro g i   r b H;rw [fW] at b;refine AC.oW 43 [.tmp 4] Tryz.call130 Tryz.func130 ?_;refine ag (S BX (S As (nil ?_)));refine ay fun J o=>?_;refine ag (S Ld (S Mv ?_));obtain⟨am,K,b⟩:=qT (Pd _ _) b;refine Sc rfl rfl (Pe K) ?_;refine S NB (nil ?_);refine cE b (fun L b=>?_) (fun L b=>?_)
 ·refine ag (S As (nil ?_));exact rt b
 refine sk o ?_;clear o J;refine aQ (TA 1 (TA 2 kN)) (fun(z:Unit)=>[]) (fun z=>H) (fun z=>(Option.bind (iS i (fW n) g.aD.l ) fun M=>match M with|Sum.inl _=>(on (()) fun _=>some true)|Sum.inr N=>(some N))=some r) ?_ ?_
 ·intro an O;refine ag (S As (nil ?_));refine block ?_;obtain⟨p,q,b⟩:=bW b;refine bA (TA 1 (TA 2 kN)) (fun(z:Nat)=>[(5,.a (.d (.int .i64 ((z:Nat):Int))))]) (fun z=>H) (fun z=>g.aN.l.length-z) (fun z=>p (nX i (g.aN.l.drop z) )=some r) 0 b wA ?_;rintro t b ao P;try dsimp only at b
  refine ay fun Q u=>?_;refine ag (S Mv (S Fv (S Ld ?_)));refine sLen (f:=aO) (s:=g.aN) (TK rfl) rfl rfl rfl rfl fun ap=>?_;refine S BI (nil ?_);refine ah.bN (fun l=>p (nX i l )=some r) b rfl (fun aq v j b=>?_) (fun j b=>?_)
  ·rw [nX] at b;try dsimp only at j
   have au:=oD j;refine sk u ?_;clear u Q;refine ay fun R w=>?_;refine block ?_;refine ag (S Mv (S Mv (G0 Fv ?_)));refine G1 20 rfl Ld ?_;refine G0 Mv ?_;obtain⟨aw,U,b⟩:=iu (fun _=>v) b;refine gC rfl rfl (fun hC=>aK (k:=21) rfl (aK (k:=22) rfl (ee (f:=aO) (n:=t) (TK rfl) rfl (TK rfl) rfl rfl rfl (U hC)))) rfl ?_;refine G1 23 rfl Ld ?_
   obtain⟨az,W,b⟩:=iu (fun _=>(jY _)) b;refine dz 24 rfl rfl rfl rfl rfl (fun hC=>jZ (W hC)) ?_;refine G1 25 rfl NB ?_;refine S PA (nil ?_);refine cP b (fun X b=>?_) (fun X b=>?_)
   ·refine ag (S As (nil ?_));refine ah.ret ?_;repeat (first|refine bF ?_|refine bG ?_)
    have b:=ku q b;obtain rfl:=oJ b;refine bn.bH H rfl ⟨rfl,rfl⟩ ?_;exact(fun _ _ h=>h)
   refine sk w ?_;clear w R;refine region ?_;refine S Mv ?_;refine SI ?_;refine S As (nil ?_);exact P _ (t+1) wA b (dl v)
  rw [nX] at b;have b:=ku q b;try dsimp only at b
  refine ah.exit ?_;obtain⟨aA,Y,b⟩:=bW b;have b:=ku Y b;exact O _ () wA b
 rintro _ b;try dsimp only at b
 refine aQ kN (fun(z:Unit)=>[]) (fun z=>H) (fun z=>(some true)=some r) ?_ ?_
 ·intro aB Z;refine ag (S As (nil ?_));refine block ?_;obtain⟨y,B,b⟩:=b_ b;refine bA (TA 1 (TA 2 kN)) (fun(z:Nat)=>[(6,.a (.d (.int .i64 ((z:Nat):Int))))]) (fun z=>H) (fun z=>g.aD.l.length-z) (fun z=>Option.bind (iS i (fW n) (g.aD.l.drop z) ) y=some r) 0 b wA ?_;rintro C b aC aa;try dsimp only at b
  refine ay fun ab E=>?_;refine ag (S Mv (S Fv ?_));refine s0 (dZ (TK rfl) rfl rfl (congrArg (fun x=>some (A.d x)) (af.dW _))) rfl ?_;refine sLen (f:=af.c) (s:=g.aD) (TK rfl) rfl rfl rfl rfl fun aE=>?_;refine S BI (nil ?_);refine ah.bN (fun l=>Option.bind (iS i (fW n) l ) y=some r) b rfl (fun aF F m b=>?_) (fun m b=>?_)
  ·rw [iS] at b;try dsimp only at m
   have aG:=oD m;refine sk E ?_;clear E ab;refine ay fun ad G=>?_;refine block ?_;refine ag (S Fv ?_);refine s0 (dZ (TK rfl) rfl rfl (congrArg (fun x=>some (A.d x)) (af.dW _))) rfl ?_;refine S Mv ?_;obtain⟨aH,ae,b⟩:=vO F b;refine S (ix af.c C ae) (S Ld (S Mv ?_));obtain⟨aI,aj,b⟩:=qO rfl b;refine Sc rfl rfl (I aj) ?_;refine S NB (nil ?_)
   refine cO b (fun ak b=>?_) (fun ak b=>?_)
   ·refine ag (S As (nil ?_));refine ah.ret ?_;repeat (first|refine bF ?_|refine bG ?_)
    have b:=ku B b;obtain rfl:=oJ b;refine bn.bH H rfl ⟨rfl,rfl⟩ ?_;exact(fun _ _ h=>h)
   refine sk G ?_;clear G ad;refine region ?_;refine S Mv ?_;refine SI ?_;refine S As (nil ?_);exact aa _ (C+1) wA b (dl F)
  rw [iS] at b;have b:=ku B b;try dsimp only at b
  refine ah.exit ?_;obtain⟨aJ,al,b⟩:=bW b;have b:=ku al b;exact Z _ () wA b
 rintro _ b;try dsimp only at b
 refine ag (S As (nil ?_));exact rt b
theorem Gy:∀(n:Nat),(By (ax:=ax) n)
 | 0=>fun b=>by first|cases b|(rw [fW] at b; cases b)
 | n+1=>Pf n (Gy n)
def Gz (f:af) (b:Bool):Option Bool:=fW F0 f b
theorem Pg {f:af}{b r:Bool}(g:Gz f b=some r) (H:ai) :AC Tryz.prog 130 [.agg (af.c f),.d (.bool b)] H fun v h'=>v=.a (.d (.bool r))/\h'=H:=(Gy F0) g H 
def GA (f:af) (b:Bool):Option Bool:=fW F0 f b
theorem Ph (a0:af) (b:Bool):Gz a0 b=GA a0 b:=rfl
def fE (f:af):Option Bool:=(Bt f).bind fun b=>aR ((decide (b<=(4096:Int)))) (Bv f) (0:Int) fun g=>aR (((decide (b<=(4096:Int)))&&(decide (g<=(24:Int))))) (GA f true) false fun i=>some (((decide (b<=(4096:Int)))&&(decide (g<=(24:Int))))&&i)
def xN (b:af):Option Bool:=fE b
theorem GB (a0:af):xN a0=fE a0:=rfl
theorem GC {f:af}{r:Bool}(b:xN f=some r) (H:ai) :AC Tryz.prog 96 [.agg (af.c f)] H fun v h'=>v=.a (.d (.bool r))/\h'=H:=by
 unfold xN fE at b;refine AC.oW 15 [.tmp 2] Tryz.call96 Tryz.func96 ?_;refine ag (S BX (S As (nil ?_)));refine ag (S Ld ?_);obtain⟨k,g,b⟩:=qT (O8 _) b;refine Sc rfl rfl (O7 g) ?_;refine S BI (S Mv (G0 Ld ?_));obtain⟨l,i,b⟩:=dQ (Pa _) b;refine dz 7 rfl rfl rfl rfl rfl (fun hC=>O_ (i hC)) ?_;refine G1 8 rfl BI ?_;refine S PA (S Mv (G0 Ld ?_));obtain⟨m,j,b⟩:=dQ (Ph _ _) b
 refine dz 12 rfl rfl rfl rfl rfl (fun hC=>Pg (j hC)) ?_;refine S PA (S As (nil ?_));exact rt b
def pH (b:af->Option Bool):List af->Option (Unit ⊕ Bool)
 | []=>some (Sum.inl ())
 | f::g=>on (f) fun i=>(b i).bind fun j=>bif (!j) then(some (Sum.inr false)) else(pH b (g) )
def mH:Nat->af->Option Bool
 | 0,_=>none
 | n+1,b=>Option.bind (pH (mH n) b.aD.l ) fun f=>match f with|Sum.inl _=>(on (()) fun _=>some (!decide (b.an=(7:Int))))|Sum.inr g=>(some g)
def Bz (n:Nat):Prop:=∀{a0:af}   {r:Bool},mH n a0=some r->∀(H:ai),AC Tryz.prog 97 [.agg (af.c a0)] H fun v h'=>v=.a (.d (.bool r))/\h'=H
theorem Pj (n:Nat) (t:Bz (ax:=ax) n):Bz (ax:=ax) (n+1):=by
 intro g   r b H;rw [mH] at b;refine AC.oW 21 [.tmp 2] Tryz.call97 Tryz.func97 ?_;refine ag (S BX (S As (nil ?_)));refine aQ (TA 1 kN) (fun(z:Unit)=>[]) (fun z=>H) (fun z=>(some (!decide (g.an=(7:Int))))=some r) ?_ ?_
 ·intro G u;refine ag (S As (nil ?_));refine block ?_;obtain⟨j,k,b⟩:=b_ b;refine bA (TA 1 kN) (fun(z:Nat)=>[(3,.a (.d (.int .i64 ((z:Nat):Int))))]) (fun z=>H) (fun z=>g.aD.l.length-z) (fun z=>Option.bind (pH (mH n) (g.aD.l.drop z) ) j=some r) 0 b wA ?_;rintro m b I v;try dsimp only at b
  refine ay fun w o=>?_;refine ag (S Mv (S Fv ?_));refine s0 (dZ (TK rfl) rfl rfl (congrArg (fun x=>some (A.d x)) (af.dW _))) rfl ?_;refine sLen (f:=af.c) (s:=g.aD) (TK rfl) rfl rfl rfl rfl fun J=>?_;refine S BI (nil ?_);refine ah.bN (fun l=>Option.bind (pH (mH n) l ) j=some r) b rfl (fun K p i b=>?_) (fun i b=>?_)
  ·rw [pH] at b;try dsimp only at i
   have L:=oD i;refine sk o ?_;clear o w;refine ay fun y q=>?_;refine block ?_;refine ag (S Fv ?_);refine s0 (dZ (TK rfl) rfl rfl (congrArg (fun x=>some (A.d x)) (af.dW _))) rfl ?_;refine S Mv ?_;obtain⟨M,B,b⟩:=vO p b;refine S (ix af.c m B) (S Ld ?_);obtain⟨N,C,b⟩:=qO rfl b;refine Sc rfl rfl (t C) ?_;refine S NB (nil ?_);refine cO b (fun E b=>?_) (fun E b=>?_)
   ·refine ag (S As (nil ?_));refine ah.ret ?_;repeat (first|refine bF ?_|refine bG ?_)
    have b:=ku k b;obtain rfl:=oJ b;refine bn.bH H rfl ⟨rfl,rfl⟩ ?_;exact(fun _ _ h=>h)
   refine sk q ?_;clear q y;refine region ?_;refine S Mv ?_;refine SI ?_;refine S As (nil ?_);exact v _ (m+1) wA b (dl p)
  rw [pH] at b;have b:=ku k b;try dsimp only at b
  refine ah.exit ?_;obtain⟨O,F,b⟩:=bW b;have b:=ku F b;exact u _ () wA b
 rintro _ b;try dsimp only at b
 refine ag (S Fv (S Ld (S BI (S As (nil ?_)))));exact rt b
theorem GD:∀(n:Nat),(Bz (ax:=ax) n)
 | 0=>fun b=>by first|cases b|(rw [mH] at b; cases b)
 | n+1=>Pj n (GD n)
def BA (b:af):Option Bool:=mH F0 b
theorem GF {b:af}{r:Bool}(f:BA b=some r) (H:ai) :AC Tryz.prog 97 [.agg (af.c b)] H fun v h'=>v=.a (.d (.bool r))/\h'=H:=(GD F0) f H 
def xO (b:af):Option Bool:=mH F0 b
theorem GG (a0:af):BA a0=xO a0:=rfl
def tI  :Option Bool:=some true
def tJ (b:Nat) (f:Nat->Option Bool) :Option Bool:=f (b+1)
def tK (j:(Sl aC)) (b:Nat) (k:Nat->Option Bool):Nat->Nat->Option Bool
 | 0,_=>none
 | o+1,f=>(j.l[b]?).bind fun p=>bif (decide (((f:Nat):Int)<((p.aH.l.length:Nat):Int))) then((j.l[b]?).bind fun q=>(q.aH.l[f]?).bind fun g=>(u7 g.aa).bind fun i=>aR (!(!i)) (xN g.gh) false fun m=>aR (!((!i)||(!m))) (BA g.gh) false fun r=>bif (((!i)||(!m))||(!r)) then(some false) else((tK j b k o) (f+1))) else(tJ b k )
def nY (b:(Sl aC)) :Nat->Nat->Option Bool
 | 0,_=>none
 | i+1,f=>bif (decide (((f:Nat):Int)<((b.l.length:Nat):Int))) then((b.l[f]?).bind fun j=>(u7 j.aa).bind fun g=>aR (!(!g)) (b.l[f]?) aC.zero fun k=>bif ((!g)||(decide ((16:Int)<((k.aH.l.length:Nat):Int)))) then(some false) else(tK b f ((nY b i)) (Option.elim (b.l[f]?) 1 (fun m=>m.aH.l.length+1)) 0)) else(tI   )
def xP (b:(Sl aC)):Option Bool:=bif (decide ((16:Int)<((b.l.length:Nat):Int))) then(some false) else(nY b (b.l.length+1) 0)
theorem xQ {g:Sl aC}{w0:Option Nat}{r:Bool}(b:xP g=some r) (H:ai) :AC Tryz.prog 57 [.d (Sl.d 2 aC.c w0 g)] H fun v h'=>v=.a (.d (.bool r))/\h'=H:=by
 unfold xP at b;refine AC.oW 65 [.tmp 2] Tryz.call57 Tryz.func57 ?_;refine ag (S As (nil ?_));refine ay fun C t=>?_;refine ag (S Mv ?_);refine sLen (f:=aC.c) (s:=g) (TK rfl) rfl rfl rfl rfl fun ae=>?_;refine S BI (nil ?_);refine cE b (fun E b=>?_) (fun E b=>?_)
 ·refine ag (S As (nil ?_));exact rt b
 refine sk t ?_;clear t C;refine aQ kN (fun(z:Unit)=>[]) (fun z=>H) (fun z=>tI =some r) ?_ ?_
 ·intro af F;refine ag (S As (nil ?_));refine block ?_;refine bA (TA 0 kN) (fun(z:Nat×Nat)=>[(3,.a (.d (.int .i64 ((z.2:Nat):Int))))]) (fun z=>H) (fun z=>z.1) (fun z=>nY g z.1 z.2=some r) ((g.l.length+1),0) b wA ?_;rintro ⟨j,i⟩ b aj G;try dsimp only at b
  cases j with
  | zero=>cases b
  | succ j =>
    rw [nY] at b;refine ay fun I u=>?_;refine ag (S Mv (S Mv ?_));refine sLen (f:=aC.c) (s:=g) (TK rfl) rfl rfl rfl rfl fun ak=>?_;refine S BI (nil ?_);refine cE b (fun m b=>?_) (fun m b=>?_)
    ·try dsimp only at m
     have al:=oD m;refine sk u ?_;clear u I;refine aQ (TA 0 (TA 3 kN)) (fun(z:Unit)=>[]) (fun z=>H) (fun z=>tJ i ((nY g j)) =some r) ?_ ?_
     ·intro am J;refine block ?_;refine ay fun K w=>?_;refine ag (S Mv (S Mv ?_));obtain⟨an,L,b⟩:=bO b;refine S (ix aC.c i L) (S Fv (S Ld ?_));obtain⟨ao,M,b⟩:=bO b;refine Sc rfl rfl (jZ M) ?_;refine S NB (S Mv (G0 Mv (G0 Mv ?_)));obtain⟨N,O,b⟩:=gO b;refine gC rfl rfl (fun hC=>aK (k:=23) rfl (aK (k:=24) rfl (ee (f:=aC.c) (n:=i) (TK rfl) rfl (TK rfl) rfl rfl rfl (O hC)))) rfl ?_
      refine G1 25 rfl Fv ?_;refine G1 26 rfl Ld ?_;refine gC rfl rfl (fun hC=>aK (k:=27) rfl (cK (f:=bQ.c) (s:=N.aH) (TK rfl) rfl rfl rfl)) rfl ?_;refine G1 28 rfl BI ?_;refine S PO (nil ?_);refine cE b (fun P b=>?_) (fun P b=>?_)
      ·refine ag (S As (nil ?_));exact rt b
      refine sk w ?_;clear w K;refine ag (S As (nil ?_));refine block ?_;refine bA (TA 0 (TA 3 kN)) (fun(z:Nat×Nat)=>[(4,.a (.d (.int .i64 ((z.2:Nat):Int))))]) (fun z=>H) (fun z=>z.1) (fun z=>tK g i ((nY g j)) z.1 z.2=some r) ((Option.elim (g.l[i]?) 1 (fun o=>o.aH.l.length+1)),0) b wA ?_;rintro ⟨p,x⟩ b ap Q;try dsimp only at b
      cases p with
      | zero=>cases b
      | succ p =>
        rw [tK] at b;refine ay fun R y=>?_;refine ag (S Mv (S Mv (S Mv ?_)));obtain⟨o,U,b⟩:=bO b;refine S (ix aC.c i U) (S Fv (S Ld ?_));refine sLen (f:=bQ.c) (s:=o.aH) (TK rfl) rfl rfl rfl rfl fun aq=>?_;refine S BI (nil ?_);refine cE b (fun q b=>?_) (fun q b=>?_)
        ·try dsimp only at q
         have au:=oD q;refine sk y ?_;clear y R;refine ay fun W B=>?_;refine block ?_;refine ag (S Mv (S Mv ?_));obtain⟨aw,X,b⟩:=bO b;refine S (ix aC.c i X) (S Fv (S Ld (S Mv ?_)));obtain⟨ax,Y,b⟩:=bO b;refine S (ix bQ.c x Y) (S Ld ?_);refine Sl ?_;refine Sf ?_;refine nil ?_;refine bu 5 _ rfl (KA 0 (KA 3 (KA 4 aS.nil))) ?_;refine ag (S Fv (S Ld ?_))
         obtain⟨az,Z,b⟩:=bO b;refine Sc rfl rfl (jZ Z) ?_;refine S NB (S Mv (G0 Fv ?_));refine G1 54 rfl Ld ?_;obtain⟨aA,aa,b⟩:=gO b;refine dz 55 rfl rfl rfl rfl rfl (fun hC=>GC (aa hC)) ?_;refine G1 56 rfl NB ?_;refine S PO (S Mv (G0 Fv ?_));refine G1 60 rfl Ld ?_;obtain⟨aB,ab,b⟩:=gO b;refine dz 61 rfl rfl rfl rfl rfl (fun hC=>GF (ab hC)) ?_;refine G1 62 rfl NB ?_
         refine S PO (nil ?_);refine cE b (fun ad b=>?_) (fun ad b=>?_)
         ·refine ag (S As (nil ?_));exact rt b
         refine sk B ?_;clear B W;refine region ?_;refine S Mv ?_;refine SI ?_;refine S As (nil ?_);exact Q _ (p,(x+1)) wA b (nS _)
        refine ah.exit ?_;exact J _ () wA b
     rintro _ b;try dsimp only at b
     unfold tJ at b;refine region ?_;refine S Mv ?_;refine SI ?_;refine S As (nil ?_);exact G _ (j,(i+1)) wA b (nS _)
    refine ah.exit ?_;exact F _ () wA b
 rintro _ b;try dsimp only at b
 unfold tI at b;refine ag (S As (nil ?_));exact rt b
def q7 (g:aC):List bQ->Option (Unit ⊕ Bool)
 | []=>some (Sum.inl ())
 | j::k=>on (g) fun m=>on (j) fun b=>on (d_ b.aa) fun f=>aR (!(!f)) (fE b.gh) false fun i=>aR (!((!f)||(!i))) (xO b.gh) false fun l=>bif (((!f)||(!i))||(!l)) then(some (Sum.inr false)) else(q7 g (k) )
theorem Pk {q:Sl aC}{j:Nat}{m:Nat->Option Bool}{i:aC}(o:q.l[j]?=some i) (k:(Unit ⊕ Bool)->Option Bool) (r:∀(b:Nat) (f:Nat),tJ j m =k (Sum.inl ())) (s:∀e:Bool,some e=k (Sum.inr e)):∀(b:Nat) (f:Nat),(0<b/\i.aH.l.length<f+b)->tK q j m b f=Option.bind (q7 i (i.aH.l.drop f) ) k:=by
 intro b;induction b with
 | zero=>intro f hn; exact absurd hn.1 (by omega)
 | succ b t =>
  intro f hn;rw [tK];refine Q.preB o fun u v=>?_;subst v;by_cases bw:f<u.aH.l.length
  ·obtain⟨w,g⟩:=Qa bw;rw [Q.k8 g,q7];refine QT bw ?_;refine Q.pg o fun x p=>?_;refine Q.pg (by first|exact g|(simp only [p]; exact g)|(simp only [p] at g ⊢; exact g)) fun y z=>?_;refine Q.pg (jY _) fun B C=>?_;refine Q.qN (GB _) fun E=>?_;refine Q.qN (GG _) fun F=>?_;refine Q.pe ?_ ?_
   ·all_goals exact s _
   all_goals exact t _ ⟨by omega,by omega⟩
  rw [dL (by omega),q7];refine QF bw ?_;exact r b f
def q8 :List aC->Option (Unit ⊕ Bool)
 | []=>some (Sum.inl ())
 | b::g=>on (b) fun i=>on (d_ i.aa) fun f=>on (bif !(!f) then b else aC.zero) fun j=>bif ((!f)||(decide ((16:Int)<((j.aH.l.length:Nat):Int)))) then(some (Sum.inr false)) else(Option.bind (q7 b b.aH.l ) fun k=>match k with|Sum.inl _=>(on (()) fun _=>q8  (g) )|Sum.inr m=>(some (Sum.inr m)))
theorem Pm {i:Sl aC}(j:(Unit ⊕ Bool)->Option Bool) (o:∀(b:Nat) (f:Nat),tI   =j (Sum.inl ())) (k:∀e:Bool,some e=j (Sum.inr e)):∀(b:Nat) (f:Nat),(0<b/\i.l.length<f+b)->nY i b f=Option.bind (q8  (i.l.drop f) ) j:=by
 intro b;induction b with
 | zero=>intro f hn; exact absurd hn.1 (by omega)
 | succ b p =>
  intro f hn;rw [nY];by_cases bw:f<i.l.length
  ·obtain⟨u,g⟩:=Qa bw;rw [Q.k8 g,q8];refine QT bw ?_;refine Q.pg g fun v w=>?_;refine Q.pg (jY _) fun x y=>?_;refine Q.Ai g fun z B=>?_;refine Q.pe ?_ ?_
   ·all_goals exact k _
   refine Q.xe fun q m=>?_;refine Pk g q ?_ ?_ _ _ ⟨by rw [g]; exact Nat.succ_pos _,by rw [g]; simp only [Option.elim]; omega⟩
   ·intro C E;refine Qe (m _) ?_;try dsimp only
    refine Q.xd fun r s=>?_;have t:tJ f (nY i b) =r ():=by
     refine Qe (s _) ?_;unfold tJ;all_goals exact p _ ⟨by omega,by omega⟩
    all_goals exact t
   intro F;refine Qe (m _) ?_;try dsimp only
   all_goals exact k _
  rw [dL (by omega),q8];refine QF bw ?_;exact o b f
def pI (b:(Sl aC)):Option Bool:=bif (decide ((16:Int)<((b.l.length:Nat):Int))) then(some false) else(Option.bind (q8  b.l ) fun f=>match f with|Sum.inl _=>(on (()) fun _=>some true)|Sum.inr g=>(some g))
theorem xR (a0:(Sl aC)):xP a0=pI a0:=by
 unfold xP pI;refine Qs ?_;refine Q.pe ?_ ?_
 ·all_goals rfl
 refine Q.xe fun f b=>?_;refine Pm  f ?_ ?_ _ _ ⟨Nat.succ_pos _,by omega⟩
 ·intro k l;refine Qe (b _) ?_;try dsimp only
  refine Q.xd fun g i=>?_;have j:tI  =g ():=by
   refine Qe (i _) ?_;unfold tI;all_goals rfl
  all_goals exact j
 intro m;refine Qe (b _) ?_;try dsimp only
 all_goals rfl
def pJ (j:az):List Int->Nat->Option (Unit ⊕ Bool)
 | [],b=>some (Sum.inl ())
 | f::k,b=>on (f) fun i=>on (bif (!decide (i=(1:Int))) then f else(0:Int)) fun m=>bif ((!decide (i=(1:Int)))&&(!decide (m=(2:Int)))) then(some (Sum.inr false)) else(on (bif (decide ((0:Int)<((b:Nat):Int))) then f else(0:Int)) fun g=>aR (((decide ((0:Int)<((b:Nat):Int)))&&(decide (g=(1:Int))))) (qJ ((b:Nat):Int) (1:Int)) (0:Int) fun o=>aR (((decide ((0:Int)<((b:Nat):Int)))&&(decide (g=(1:Int))))) (dh j.aF.l o) (0:Int) fun p=>bif (((decide ((0:Int)<((b:Nat):Int)))&&(decide (g=(1:Int))))&&(decide (p=(1:Int)))) then(some (Sum.inr false)) else(pJ j (k) (b+1) ))
def q9 (b:az):Option Bool:=on (d_ b.aa) fun f=>bif ((!f)||(decide ((24:Int)<((b.aF.l.length:Nat):Int)))) then(some false) else(Option.bind (pJ b b.aF.l 0 ) fun g=>match g with|Sum.inl _=>(on (()) fun _=>some true)|Sum.inr i=>(some i))
def BB (b:az):Option Bool:=q9 b
theorem GH (a0:az):BB a0=q9 a0:=rfl
theorem GI {g:az}{r:Bool}(b:BB g=some r) (H:ai) :AC Tryz.prog 98 [.agg (az.c g)] H fun v h'=>v=.a (.d (.bool r))/\h'=H:=by
 unfold BB q9 at b;refine AC.oW 54 [.tmp 2] Tryz.call98 Tryz.func98 ?_;refine ag (S BX (S As (nil ?_)));refine ay fun x p=>?_;refine ag (S Fv (S Ld ?_));obtain⟨R,y,b⟩:=vT (jY _) b;refine Sc rfl rfl (jZ y) ?_;refine S NB (S Mv (G0 Fv ?_));refine G1 9 rfl Ld ?_;refine gC rfl rfl (fun hC=>aK (k:=10) rfl (cK (f:=(bC .i64)) (s:=g.aF) (TK rfl) rfl rfl rfl)) rfl ?_
 refine G1 11 rfl BI ?_;refine S PO (nil ?_);refine cE b (fun B b=>?_) (fun B b=>?_)
 ·refine ag (S As (nil ?_));exact rt b
 refine sk p ?_;clear p x;refine aQ kN (fun(z:Unit)=>[]) (fun z=>H) (fun z=>(some true)=some r) ?_ ?_
 ·intro U C;refine ag (S As (nil ?_));refine block ?_;obtain⟨q,m,b⟩:=b_ b;refine bA (TA 1 kN) (fun(z:Nat)=>[(3,.a (.d (.int .i64 ((z:Nat):Int))))]) (fun z=>H) (fun z=>g.aF.l.length-z) (fun z=>Option.bind (pJ g (g.aF.l.drop z) z ) q=some r) 0 b wA ?_;rintro i b W E;try dsimp only at b
  refine ay fun F t=>?_;refine ag (S Mv (S Fv (S Ld ?_)));refine sLen (f:=(bC .i64)) (s:=g.aF) (TK rfl) rfl rfl rfl rfl fun X=>?_;refine S BI (nil ?_);refine ah.bN (fun l=>Option.bind (pJ g l i ) q=some r) b rfl (fun Y j o b=>?_) (fun o b=>?_)
  ·rw [pJ] at b;try dsimp only at o
   have Z:=oD o;refine sk t ?_;clear t F;refine ay fun G u=>?_;refine block ?_;refine ay fun I w=>?_;refine ag (S Fv (S Ld (S Mv ?_)));obtain⟨aa,J,b⟩:=vO j b;refine S (ix (bC .i64) i J) ?_;refine S Ld (S BI (S Mv (G0 Fv ?_)));refine G1 28 rfl Ld ?_;refine G0 Mv ?_;obtain⟨ab,K,b⟩:=eH (fun _=>j) b;refine gC rfl rfl (fun hC=>aK (k:=29) rfl (aK (k:=30) rfl (ee (f:=(bC .i64)) (n:=i) (TK rfl) rfl (TK rfl) rfl rfl rfl (K hC)))) rfl ?_
   refine G1 31 rfl Ld ?_;refine G1 32 rfl BI ?_;refine S PA (nil ?_);refine cO b (fun L b=>?_) (fun L b=>?_)
   ·refine ag (S As (nil ?_));refine ah.ret ?_;repeat (first|refine bF ?_|refine bG ?_)
    have b:=ku m b;obtain rfl:=oJ b;refine bn.bH H rfl ⟨rfl,rfl⟩ ?_;exact(fun _ _ h=>h)
   refine sk w ?_;clear w I;refine ag (S Mv (S BI (S Mv (G0 Fv ?_))));refine G1 38 rfl Ld ?_;refine G0 Mv ?_;obtain⟨ad,M,b⟩:=eH (fun _=>j) b;refine gC rfl rfl (fun hC=>aK (k:=39) rfl (aK (k:=40) rfl (ee (f:=(bC .i64)) (n:=i) (TK rfl) rfl (TK rfl) rfl rfl rfl (M hC)))) rfl ?_;refine G1 41 rfl Ld ?_;refine G1 42 rfl BI ?_;refine S PA (S Mv (G0 Fv ?_));refine G1 46 rfl Ld ?_
   refine G0 Mv ?_;obtain⟨ae,N,b⟩:=eS rfl b;refine gC rfl rfl (fun hC=>aK (k:=48) rfl (Fc rfl rfl (N hC))) rfl ?_;obtain⟨af,O,b⟩:=eS rfl b;refine gC rfl rfl (fun hC=>aK (k:=47) rfl (aK (k:=49) rfl (jS (f:=(bC .i64)) (TK rfl) rfl (TK rfl) rfl rfl rfl (O hC)))) rfl ?_;refine G1 50 rfl Ld ?_;refine G1 51 rfl BI ?_;refine S PA (nil ?_);refine cO b (fun P b=>?_) (fun P b=>?_)
   ·refine ag (S As (nil ?_));refine ah.ret ?_;repeat (first|refine bF ?_|refine bG ?_)
    have b:=ku m b;obtain rfl:=oJ b;refine bn.bH H rfl ⟨rfl,rfl⟩ ?_;exact(fun _ _ h=>h)
   refine sk u ?_;clear u G;refine region ?_;refine S Mv ?_;refine SI ?_;refine S As (nil ?_);exact E _ (i+1) wA b (dl j)
  rw [pJ] at b;have b:=ku m b;try dsimp only at b
  refine ah.exit ?_;obtain⟨aj,Q,b⟩:=bW b;have b:=ku Q b;exact C _ () wA b
 rintro _ b;try dsimp only at b
 refine ag (S As (nil ?_));exact rt b
end Go.Proofs
