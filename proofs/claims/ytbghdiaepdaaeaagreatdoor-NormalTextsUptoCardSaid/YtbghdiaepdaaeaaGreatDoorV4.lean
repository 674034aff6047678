import Derived.Test.YtbghdiaepdaaeaaGreatDoorV3
set_option maxRecDepth 100000
set_option maxHeartbeats 2000000
set_option linter.unusedVariables false
set_option linter.unusedSimpArgs false
namespace Go.Proofs
open Go Go.Ab
open aS aq ah aU dV
variable {an:bf}
def jv (k:aB) (m:Int) (g:Z4->aB->af->Int->Option (af×Z4)):List af->Z4->af->Option ((Z4×af))
 | [],f,b=>some (f,b)
 | o::p,f,b=>bif (decide (f.dz=(0:Int))) then(on (o) fun q=>(bY m (1:Int)).bind fun r=>(g f k q r).bind fun i=>(bp 80 b.av (⟨false,[i.1]⟩:Sl af)).bind fun j=>jv k m g (p) i.2 (af.mk b.ak b.bl b.aV j.nl j.l b.aF)) else(some (f,b))
def iT (f:az):List Bs->Z4->Z4
 | [],b=>b
 | g::i,b=>on (g) fun j=>on (jm f.bP j) fun k=>on (bif (!k.2) then(on (fE b (22:Int)) fun l=>l) else(b)) fun m=>iT f (i) m
def iE (u:az) (v:af) (m:Int) (o:Z4->aB->af->Int->Option (af×Z4)) (p:Z4->aB->af->Int->Option (af×Z4)):List Z8->Nat->Z4->af->Option ((Z4×af))
 | [],j,b,f=>some (b,f)
 | w::x,j,b,f=>bif (decide (b.dz=(0:Int))) then(on (w) fun g=>(wJ u.bP ((j:Nat):Int)).bind fun y=>Option.bind (bif y then(some (b,f)) else((jV v g.ai).bind fun i=>aQ (i.2) (mV b i.1) false fun z=>on (fun(B:Z4) (C:af)=>(bp 16 f.aF (⟨false,[g.ai]⟩:Sl Bs)).bind fun E=>(bp 80 f.av (⟨false,[C]⟩:Sl af)).bind fun q=>some (B,(af.mk f.ak f.bl f.aV q.nl q.l E))) fun k=>bif (i.2&&(!z)) then((bY m (1:Int)).bind fun F=>(o b g.aO i.1 F).bind fun r=>k r.2 r.1) else(bif g.dO then((bY m (1:Int)).bind fun G=>(p b g.aO g.eE G).bind fun s=>k s.2 s.1) else(on (fw g.aO) fun H=>bif H then(on (fE b (22:Int)) fun I=>k I af.zero) else(some (b,f)))))) fun t=>iE u v m o p (x) (j+1) t.1 t.2) else(some (b,f))
mutual
def fM:Nat->Z4->aB->af->Int->Option (af×Z4)
 | 0,_,_,_,_=>none
 | n+1,f,g,l,j=>on (jo f.Fd g.ai) fun v=>bif (!v) then(on (fE f (10:Int)) fun w=>some ((af.mk (0:Int) (0:Int) ([]:Bs) true ([]) (Sl.nil:Sl Bs)),w)) else(on (fun(x:Z4) (i:af)=>(kV x j).bind fun b=>bif (!decide (b.dz=(0:Int))) then(some ((af.mk (0:Int) (0:Int) ([]:Bs) true ([]) (Sl.nil:Sl Bs)),b)) else(bif (decide (i.ak=(0:Int))) then(on (fw g) fun y=>on (bif y then(on (fE b (23:Int)) fun z=>z) else(b)) fun B=>some ((af.mk (0:Int) (0:Int) ([]:Bs) true ([]) (Sl.nil:Sl Bs)),B)) else((lM g).bind fun m=>bif m.2 then(((lS n) b m.1 i j).bind fun o=>some (o.1,o.2)) else(on (iQ g.ai) fun C=>bif C then((lR b g.ai i).bind fun p=>some (p.1,p.2)) else(on (cV b.Fd g.ai) fun k=>bif (decide (k.1.ak=(4:Int))) then(on (jt b k.1 i) fun q=>some (q.1,q.2)) else(((lT n) b k.1 i j).bind fun r=>some (r.1,r.2))))))) fun s=>bif (f.fC&&(decide (l.ak=(7:Int)))) then((jV f.en l.aV).bind fun t=>bif (!decide (t.1.ak=(0:Int))) then((Hy f t.1 j).bind fun u=>some (u.1,u.2)) else(s f (af.mk (0:Int) (0:Int) ([]:Bs) true ([]) (Sl.nil:Sl Bs)))) else(s f l))
def lS:Nat->Z4->aB->af->Int->Option (af×Z4)
 | 0,_,_,_,_=>none
 | n+1,j,k,b,m=>on (bif (decide (b.ak=(5:Int))) then(b.av) else((⟨false,[b]⟩:Sl af))) fun i=>Option.bind (jv k m (fM n) i.l j (af.mk (5:Int) (0:Int) ([]:Bs) true ([]) (Sl.nil:Sl Bs))) fun f=>on ((f.1,f.2)) fun g=>some (g.2,g.1)
def lT:Nat->Z4->az->af->Int->Option (af×Z4)
 | 0,_,_,_,_=>none
 | n+1,j,b,f,p=>bif (!decide (f.ak=(6:Int))) then(on (fE j (23:Int)) fun k=>some ((af.mk (0:Int) (0:Int) ([]:Bs) true ([]) (Sl.nil:Sl Bs)),k)) else(on (iT b f.aF.l j) fun m=>on (m) fun o=>Option.bind (iE b f p (fM n) (iF n) b.bP.l 0 o (af.mk (6:Int) (0:Int) ([]:Bs) true ([]) (Sl.nil:Sl Bs))) fun g=>on ((g.1,g.2)) fun i=>some (i.2,i.1))
def iF:Nat->Z4->aB->af->Int->Option (af×Z4)
 | 0,_,_,_,_=>none
 | n+1,b,g,i,j=>((fM n) (Z4.mk b.Fd (af.mk (0:Int) (0:Int) ([]:Bs) true ([]) (Sl.nil:Sl Bs)) true b.eW b.dz) g i j).bind fun f=>some (f.1,(Z4.mk f.2.Fd b.en b.fC f.2.eW f.2.dz))
end
def rP (n:Nat):Prop:=∀{a0:Z4}{a1:aB}{a2:af}{a3:Int}  {b:Nat}{r:(af×Z4)},fM n a0 a1 a2 a3=some r->∀(H:ag) (f:H b=some (.cells (Z4.c a0))),AC Tryz.prog 231 [.d (.ptr b 0),.agg (aB.c a1),.agg (af.c a2),.d (.int .i64 a3)] H fun v h'=>v=.a (.agg (af.c r.1))/\h'=(H.set b (some (.cells (Z4.c r.2))))
def rQ (n:Nat):Prop:=∀{a0:Z4}{a1:aB}{a2:af}{a3:Int}  {b:Nat}{r:(af×Z4)},lS n a0 a1 a2 a3=some r->∀(H:ag) (f:H b=some (.cells (Z4.c a0))),AC Tryz.prog 259 [.d (.ptr b 0),.agg (aB.c a1),.agg (af.c a2),.d (.int .i64 a3)] H fun v h'=>v=.a (.agg (af.c r.1))/\h'=(H.set b (some (.cells (Z4.c r.2))))
def rR (n:Nat):Prop:=∀{a0:Z4}{a1:az}{a2:af}{a3:Int}  {b:Nat}{r:(af×Z4)},lT n a0 a1 a2 a3=some r->∀(H:ag) (f:H b=some (.cells (Z4.c a0))),AC Tryz.prog 262 [.d (.ptr b 0),.agg (az.c a1),.agg (af.c a2),.d (.int .i64 a3)] H fun v h'=>v=.a (.agg (af.c r.1))/\h'=(H.set b (some (.cells (Z4.c r.2))))
def rS (n:Nat):Prop:=∀{a0:Z4}{a1:aB}{a2:af}{a3:Int}  {b:Nat}{r:(af×Z4)},iF n a0 a1 a2 a3=some r->∀(H:ag) (f:H b=some (.cells (Z4.c a0))),AC Tryz.prog 274 [.d (.ptr b 0),.agg (aB.c a1),.agg (af.c a2),.d (.int .i64 a3)] H fun v h'=>v=.a (.agg (af.c r.1))/\h'=(H.set b (some (.cells (Z4.c r.2))))
theorem P4 (n:Nat) (aE:rP (an:=an) n) (x:rQ (an:=an) n) (y:rR (an:=an) n) (aF:rS (an:=an) n):rP (an:=an) (n+1):=by
 intro g aX aD aY  f r b H aG;rw [fM] at b;refine AC.oW 111 [.cell 8 58] Tryz.call231 Tryz.func231 ?_;refine ah.ga (h':=(H.set f (some (.cells (Z4.c g))))) (by funext n_; simp only [ag.set]; (repeat' split)<;>simp_all) ?_;refine aa (S BX ?_);refine sL (yW rfl (by repeat (first|exact bT.nil|apply bT.cons))) rfl ?_;refine Sl ?_;refine nil ?_;refine ay fun B i=>?_
 refine ah.cH (Sd Mv (Sd NP ?_));refine au.s0 (dr (TK rfl) rfl rfl (TK rfl) rfl rfl) rfl ?_;refine au.s0 (ew (TK rfl) rfl rfl aJ rfl) rfl ?_;refine Sd Fv (Sd Ld ?_);obtain⟨aH,C,b⟩:=vT (Aq _ _) b;refine cN rfl rfl (Ar C) ?_;refine Sd NB ?_;refine au.nil (by decide +kernel) ?_;refine cE b (fun E b=>?_) (fun E b=>?_)
 ·refine aa (S Mv ?_);obtain⟨F,G,b⟩:=vT (mW _ _) b;refine sH (cU rfl rfl (mX G _ aJ)) rfl ?_;refine hq (H.set f (some (.cells (Z4.c F)))) ?_;refine nil ?_;refine aa (S BU ?_);refine Sf ?_;refine nil ?_;exact rt b
 refine sk i ?_;clear i B;obtain⟨I,J,b⟩:=mT b;refine fO (TA 0 (TA 3 (TA 5 (TA 6 (TA 8 kN))))) (fun(z:Z4×af×af)=>[]) (fun z=>[af.c z.2.1,af.c z.2.2]) (fun z=>(H.set f (some (.cells (Z4.c z.1))))) (fun z=>(I z.1 z.2.1)=some r) ?_ ?_
 ·intro aI j;refine aa (S Mv (S NP ?_));refine s0 (dr (TK rfl) rfl rfl (TK rfl) rfl rfl) rfl ?_;refine s0 (ew (TK rfl) rfl rfl aJ rfl) rfl ?_;refine S Mv (G0 FL ?_);refine gC rfl rfl (fun hC=>zh (k:=31) rfl (vj (TK rfl) rfl rfl rfl rfl)) rfl ?_;refine G1 32 rfl BI ?_;refine S PA (nil ?_);refine cE b (fun K b=>?_) (fun K b=>?_)
  ·refine ah.cH (Sd Mv (Sd NP ?_));refine au.s0 (dr (TK rfl) rfl rfl (TK rfl) rfl rfl) rfl ?_;refine au.s0 (ew (TK rfl) rfl rfl aJ rfl) rfl ?_;refine Sd FL (Sd LL ?_);obtain⟨aK,L,b⟩:=qT (A5 _ _) b;refine cN rfl rfl (A6 L) ?_;refine Sd Mv (Sd EX (Sd EX ?_));refine au.sB (TK rfl) rfl rfl ?_ (by repeat (first|exact bT.nil|apply bT.cons));refine au.dU (eA (TK rfl) rfl rfl rfl rfl rfl) ?_
   refine Sd As ?_;refine au.nil (by decide +kernel) ?_;refine bH 9 _ rfl (KA 0 (KA 3 (KA 5 (KA 6 (KA 8 aU.nil))))) ?_;refine ay fun M l=>?_;refine aa (S Fv (S Ld (S BI (nil ?_))));refine cE b (fun N b=>?_) (fun N b=>?_)
   ·refine aa (S Mv (S Ld (S Mv ?_)));obtain⟨O,P,b⟩:=qT (PU _ _ _) b;refine sH (cU rfl rfl (PT P _ aJ)) rfl ?_;refine hq (H.set f (some (.cells (Z4.c O.2)))) ?_;refine Sf ?_;refine nil ?_;exact rt b
   refine sk l ?_;clear l M;refine region ?_;refine S BU ?_;refine Sf ?_;refine nil ?_;exact j _ (g,(af.mk (0:Int) (0:Int) ([]:Bs) true ([]) (Sl.nil:Sl Bs)),af.zero) wA b
  refine ah.skip ?_;exact j _ (g,aD,af.zero) wA b
 rintro ⟨aL,aM,aN⟩ b;try dsimp only at b
 rw [J] at b;try dsimp only at b
 refine aa (S Mv (S Mv ?_));obtain⟨m,Q,b⟩:=qT (Hu _ _) b;refine sH (cU rfl rfl (Hv Q _ aJ)) rfl ?_;refine hq (H.set f (some (.cells (Z4.c m)))) ?_;refine nil ?_;refine ay fun R o=>?_;refine aa (S Mv (S NP ?_));refine s0 (dr (TK rfl) rfl rfl (TK rfl) rfl rfl) rfl ?_;refine s0 (ew (TK rfl) rfl rfl aJ rfl) rfl ?_;refine S BI (nil ?_);refine cE b (fun U b=>?_) (fun U b=>?_)
 ·refine aa (S BU ?_);refine Sf ?_;refine nil ?_;exact rt b
 refine sk o ?_;clear o R;refine ay fun W p=>?_;refine aa (S FL (S LL (S BI (nil ?_))));refine cE b (fun X b=>?_) (fun X b=>?_)
 ·refine aP (TA 8 kN) (fun(z:Z4)=>[]) (fun z=>(H.set f (some (.cells (Z4.c z))))) (fun z=>(some ((af.mk (0:Int) (0:Int) ([]:Bs) true ([]) (Sl.nil:Sl Bs)),z))=some r) ?_ ?_
  ·intro aO q;refine aa (S Ld ?_);obtain⟨aQ,Y,b⟩:=vT (oe _) b;refine Sc rfl rfl (og Y) ?_;refine nil ?_;obtain⟨aR,s,b⟩:=cC b;refine cP b (fun Z b=>?_) (fun Z b=>?_)
   ·refine region ?_;refine S Mv ?_;obtain⟨t,ab,b⟩:=vP (mW _ _) b;refine sH (cU rfl rfl (mX ab _ aJ)) rfl ?_;refine hq (H.set f (some (.cells (Z4.c t)))) ?_;refine nil ?_;have b:=ku s b;exact q _ t wA b
   refine ah.skip ?_;have b:=ku s b;exact q _ m wA b
  rintro aS b;try dsimp only at b
  refine aa (S BU ?_);refine Sf ?_;refine nil ?_;exact rt b
 refine sk p ?_;clear p W;refine ay fun ad u=>?_;refine aa (S Ld ?_);obtain⟨aT,ae,b⟩:=qT (AN _) b;refine Sc rfl rfl (AO ae) ?_;refine S Mv (S EX (S EX ?_));refine Sl ?_;refine Sf ?_;refine S As (nil ?_);refine bH 11 _ rfl (KA 0 (KA 3 (KA 5 (KA 6 (KA 8 (KA 12 aU.nil)))))) ?_;refine aa (S Mv (nil ?_));refine cE b (fun ai b=>?_) (fun ai b=>?_)
 ·refine aa (S Mv (S Ld (S LL (S Mv ?_))));obtain⟨aj,ak,b⟩:=qT rfl b;refine sH (cU rfl rfl (x ak _ aJ)) rfl ?_;refine hq (H.set f (some (.cells (Z4.c aj.2)))) ?_;refine Sf ?_;refine nil ?_;exact rt b
 refine sk u ?_;clear u ad;refine ay fun al v=>?_;refine aa (S Fv (S Ld ?_));obtain⟨aV,am,b⟩:=vT (rB _) b;refine Sc rfl rfl (rC am) ?_;refine nil ?_;refine cE b (fun ao b=>?_) (fun ao b=>?_)
 ·refine aa (S Mv (S Fv (S Ld (S LL ?_))));obtain⟨ap,ar,b⟩:=qT (PW _ _ _) b;refine sH (cU rfl rfl (PX ar _ aJ)) rfl ?_;refine hq (H.set f (some (.cells (Z4.c ap.2)))) ?_;refine Sf ?_;refine nil ?_;exact rt b
 refine sk v ?_;clear v al;refine ah.cH (Sd Mv (Sd NP ?_));refine au.s0 (dr (TK rfl) rfl rfl (TK rfl) rfl rfl) rfl ?_;refine au.s0 (ew (TK rfl) rfl rfl aJ rfl) rfl ?_;refine Sd Fv (Sd Ld ?_);obtain⟨aW,av,b⟩:=vT (jj _ _) b;refine cN rfl rfl (jk av) ?_;refine Sd Mv (Sd EX (Sd EX ?_));refine au.sB (TK rfl) rfl rfl ?_ (by repeat (first|exact bT.nil|apply bT.cons))
 refine au.dU (eA (TK rfl) rfl rfl rfl rfl rfl) ?_;refine Sd As ?_;refine au.nil (by decide +kernel) ?_;refine bH 13 _ rfl (KA 0 (KA 3 (KA 6 (KA 8 aU.nil)))) ?_;refine ay fun aw w=>?_;refine aa (S Fv (S Ld (S BI (nil ?_))));refine cE b (fun ax b=>?_) (fun ax b=>?_)
 ·refine aa (S Mv (S Ld (S LL ?_)));obtain⟨az,aA,b⟩:=vT (PY _ _ _) b;refine sH (cU rfl rfl (PZ aA _ aJ)) rfl ?_;refine hq (H.set f (some (.cells (Z4.c az.2)))) ?_;refine Sf ?_;refine nil ?_;exact rt b
 refine sk w ?_;clear w aw;refine aa (S Mv (S Ld (S LL (S Mv ?_))));obtain⟨aB,aC,b⟩:=qT rfl b;refine sH (cU rfl rfl (y aC _ aJ)) rfl ?_;refine hq (H.set f (some (.cells (Z4.c aB.2)))) ?_;refine Sf ?_;refine nil ?_;exact rt b
theorem P5 (n:Nat) (P:rP (an:=an) n) (aB:rQ (an:=an) n) (aC:rR (an:=an) n) (aD:rS (an:=an) n):rQ (an:=an) (n+1):=by
 intro B M N O  m r b H aE;rw [lS] at b;refine AC.oW 50 [.cell 8 58] Tryz.call259 Tryz.func259 ?_;refine ah.ga (h':=(H.set m (some (.cells (Z4.c B))))) (by funext n_; simp only [ag.set]; (repeat' split)<;>simp_all) ?_;refine aa (S BX (S BX ?_));refine Sl ?_;refine nil ?_;refine aa (S Ld (S BV (S As (nil ?_))));obtain⟨Q,R,b⟩:=cC b;refine aP (TA 0 (TA 3 (TA 5 (TA 8 kN)))) (fun(z:(Sl af))=>[(9,.a (.d (Sl.d 5 af.c none z)))]) (fun z=>(H.set m (some (.cells (Z4.c B))))) (fun z=>Q z=some r) ?_ ?_
 ·intro aG C;refine aa (S Fv (S Ld (S BI (nil ?_))));refine cP b (fun U b=>?_) (fun U b=>?_)
  ·refine region ?_;refine S Fv ?_;refine s0 (ck (TK rfl) rfl rfl (congrArg (fun x=>some (A.d x)) (af.di _))) rfl ?_;refine S As (nil ?_);exact C _ N.av wA b
  refine ah.skip ?_;exact C _ (⟨false,[N]⟩:Sl af) wA b
 rintro o b;try dsimp only at b
 have b:=ku R b;refine aa (S BU ?_);refine Sl ?_;refine aS.tok 5 fun g E=>?_;obtain⟨aH,E⟩:=ag.hG E;refine aS.dX 1 _ rfl (fun j w cs hh hx=>tok_cell 3 5 5 hh (t:=g) aJ hx rfl) ?_;refine Sf ?_;refine aS.dX 1 _ rfl (fun j w cs hh hx=>tok_cell 3 5 5 hh (t:=g) aJ hx rfl) ?_;refine nil ?_;refine fO (TA 8 (TA 10 kN)) (fun(z:Z4×af)=>[]) (fun z=>[af.c af.zero,((bE .i64) z.2.ak++(bE .i64) z.2.bl++aM z.2.aV++[Sl.d 5 af.c (some g) z.2.av]++(fun s=>[Sl.d 1 aM none s]) z.2.aF)]) (fun z=>((H.set m (some (.cells (Z4.c z.1)))).set g (some (.tok 5 z.2.av.l.length)))) (fun z=>(some (z.2,z.1))=some r) ?_ ?_
 ·intro aK W;refine aa (S As (nil ?_));refine block ?_;obtain⟨p,X,b⟩:=cG b;refine jf (TA 0 (TA 3 (TA 5 (TA 8 (TA 9 (TA 10 kN)))))) (fun(z:Nat×Z4×af)=>[(11,.a (.d (.int .i64 ((z.1:Nat):Int))))]) (fun z=>[af.c af.zero,((bE .i64) z.2.2.ak++(bE .i64) z.2.2.bl++aM z.2.2.aV++[Sl.d 5 af.c (some g) z.2.2.av]++(fun s=>[Sl.d 1 aM none s]) z.2.2.aF)]) (fun z=>((H.set m (some (.cells (Z4.c z.2.1)))).set g (some (.tok 5 z.2.2.av.l.length)))) (fun z=>o.l.length-z.1) (fun z=>Option.bind (jv M O (fM n) (o.l.drop z.1) z.2.1 z.2.2) p=some r) (0,B,(af.mk (5:Int) (0:Int) ([]:Bs) true ([]) (Sl.nil:Sl Bs))) b wA ?_
  rintro ⟨F,q,i⟩ b aL Y;try dsimp only at b
  refine ay fun Z G=>?_;refine aa (S Mv (S Mv ?_));refine sLen (f:=af.c) (s:=o) (TK rfl) rfl rfl rfl rfl fun aN=>?_;refine S BI (S Mv (G0 Mv ?_));refine G1 26 rfl NP ?_;refine gC rfl rfl (fun hC=>aI (k:=27) rfl (dr (TK rfl) rfl rfl (TK rfl) rfl rfl)) rfl ?_;refine gC rfl rfl (fun hC=>aI (k:=28) rfl (ew (TK rfl) rfl rfl aJ rfl)) rfl ?_;refine G1 29 rfl BI ?_;refine S PA (nil ?_)
  refine ah.iM (fun l=>Option.bind (jv M O (fM n) l q i) p=some r) (Option.bind (some (q,i)) p=some r) b (fun b=>by rw [jv] at b; exact b) (fun _ ab b=>by rw [jv] at b; rw [ab] at b; exact b) rfl rfl (fun aO I u ad b=>?_) (fun u b=>?_)
  ·rw [jv] at b;rw [ad,cond_true] at b;try dsimp only at u
   have aQ:=oD (and_left u);refine sk G ?_;clear G Z;refine ay fun ae J=>?_;refine block ?_;refine ah.cH (Sd Mv (Sd Ld (Sd Mv (Sd Mv ?_))));obtain⟨aR,ai,b⟩:=vO I b;refine Sd (ix af.c F ai) (Sd Ld (Sd Mv ?_));obtain⟨aT,aj,b⟩:=qO rfl b;refine au.s0 (dc rfl rfl aj) rfl ?_;obtain⟨v,al,b⟩:=qO rfl b;refine au.sH (cU rfl rfl (P al _ aJ)) rfl ?_
   refine au.Dh ((H.set m (some (.cells (Z4.c v.2)))).set g (some (.tok 5 i.av.l.length))) ?_;refine au.sB (TK rfl) rfl rfl ?_ (by repeat (first|exact bT.nil|apply bT.cons));refine au.dU (eA (TK rfl) rfl rfl rfl rfl rfl) ?_;refine au.nil (by decide +kernel) ?_;refine bH 12 _ rfl (KA 0 (KA 3 (KA 5 (KA 8 (KA 9 (KA 10 (KA 11 aU.nil))))))) ?_;refine region ?_
   refine S FL (S LL (S Ld (S BV ?_)));obtain⟨y,ao,b⟩:=qO rfl b;refine SH (am af.c (TK rfl) rfl (TK rfl) (TK rfl) ao) ?_;refine hq ((H.set m (some (.cells (Z4.c v.2)))).set g (some (.tok 5 y.l.length))) ?_;refine S FL ?_;refine Sf ?_;refine nil ?_;refine J _ ?_;clear J ae;refine region ?_;refine S Mv ?_;refine SI ?_;refine S As (nil ?_);exact Y _ ((F+1),v.2,(af.mk i.ak i.bl i.aV y.nl y.l i.aF)) wA b (dl I)
  have b:=ku X b;try dsimp only at b
  refine ah.exit ?_;obtain⟨aW,ap,b⟩:=cC b;have b:=ku ap b;exact W _ (q,i) wA b
 rintro ⟨ar,aw⟩ b;try dsimp only at b
 refine ay fun ax K=>?_;refine ah.dX 1 _ rfl (fun j w cs hh hx=>qY 3 hx rfl) ?_;refine ah.dX 1 (af.c aw) rfl (fun j w cs hh hx=>by rw [af.gm]; exact hx) ?_;refine region ?_;refine S LL ?_;refine Sf ?_;refine nil ?_;refine K _ ?_;clear K ax;refine ah.ret ?_;repeat (first|refine bM ?_|refine bN ?_)
 obtain rfl:=oJ b;refine bF.bK (H.set m (some (.cells (Z4.c ar)))) rfl ⟨rfl,rfl⟩ ?_;intro az aX L;have aY:az≠g:=fun aA=>by subst aA; simp_all [ag.set]
 rw [<- L];simp only [ag.set] at L ⊢
 (repeat' split)<;>simp_all
theorem P6 (n:Nat) (aB:rP (an:=an) n) (bv:rQ (an:=an) n) (bw:rR (an:=an) n) (aC:rS (an:=an) n):rR (an:=an) (n+1):=by
 intro aA p q E  i r b H bx;rw [lT] at b;refine AC.oW 123 [.cell 8 58] Tryz.call262 Tryz.func262 ?_;refine ah.ga (h':=(H.set i (some (.cells (Z4.c aA))))) (by funext n_; simp only [ag.set]; (repeat' split)<;>simp_all) ?_;refine aa (S BX (S BX ?_));refine Sl ?_;refine nil ?_;refine ay fun aD U=>?_;refine aa (S Fv (S Ld (S BI (nil ?_))));refine cE b (fun aE b=>?_) (fun aE b=>?_)
 ·refine aa (S Mv ?_);obtain⟨aG,aH,b⟩:=vT (mW _ _) b;refine sH (cU rfl rfl (mX aH _ aJ)) rfl ?_;refine hq (H.set i (some (.cells (Z4.c aG)))) ?_;refine nil ?_;refine aa (S BU ?_);refine Sf ?_;refine nil ?_;exact rt b
 refine sk U ?_;clear U aD;refine aP (TA 0 (TA 3 (TA 5 (TA 6 (TA 8 kN))))) (fun(z:Z4)=>[]) (fun z=>(H.set i (some (.cells (Z4.c z))))) (fun z=>(Option.bind (iE p q E (fM n) (iF n) p.bP.l 0 z (af.mk (6:Int) (0:Int) ([]:Bs) true ([]) (Sl.nil:Sl Bs))) fun W=>on ((W.1,W.2)) fun X=>some (X.2,X.1))=some r) ?_ ?_
 ·intro bz aK;refine aa (S As (nil ?_));refine block ?_;obtain⟨F,aL,b⟩:=cC b;refine bD (TA 0 (TA 3 (TA 5 (TA 6 (TA 8 kN))))) (fun(z:Nat×Z4)=>[(9,.a (.d (.int .i64 ((z.1:Nat):Int))))]) (fun z=>(H.set i (some (.cells (Z4.c z.2))))) (fun z=>q.aF.l.length-z.1) (fun z=>F (iT p (q.aF.l.drop z.1) z.2)=some r) (0,aA) b wA ?_;rintro ⟨G,I⟩ b bA aN
  try dsimp only at b
  refine ay fun aO Y=>?_;refine aa (S Mv (S Fv (S Ld ?_)));refine sLen (f:=aM) (s:=q.aF) (TK rfl) rfl rfl rfl rfl fun bB=>?_;refine S BI (nil ?_);refine ah.cL (fun l=>F (iT p l I)=some r) b rfl (fun bC Z J b=>?_) (fun J b=>?_)
  ·rw [iT] at b;try dsimp only at J
   have bG:=oD J;refine sk Y ?_;clear Y aO;refine aP (TA 0 (TA 3 (TA 5 (TA 6 (TA 8 (TA 9 kN)))))) (fun(z:Z4)=>[]) (fun z=>(H.set i (some (.cells (Z4.c z))))) (fun z=>F (iT p (q.aF.l.drop (G+1)) z)=some r) ?_ ?_
   ·intro bI ab;refine block ?_;refine ah.cH (Sd Fv (Sd Ld (Sd Fv (Sd Ld (Sd Mv ?_)))));obtain⟨bJ,aQ,b⟩:=vP Z b;refine Sd (ix aM G aQ) (Sd Ld ?_);obtain⟨bL,aR,b⟩:=vP (wx _ _) b;refine cN rfl rfl (wy aR) ?_;refine Sd Mv (Sd EX (Sd EX ?_));refine au.sB (TK rfl) rfl rfl ?_ (by repeat (first|exact bT.nil|apply bT.cons));refine au.dU (eA (TK rfl) rfl rfl rfl rfl rfl) ?_
    refine Sd As ?_;refine au.nil (by decide +kernel) ?_;refine bH 10 _ rfl (KA 0 (KA 3 (KA 5 (KA 6 (KA 8 (KA 9 (KA 11 aU.nil))))))) ?_;refine aa (S Mv (S NB (nil ?_)));obtain⟨bO,ad,b⟩:=fo b;refine cP b (fun aT b=>?_) (fun aT b=>?_)
    ·refine region ?_;refine S Mv ?_;obtain⟨ae,aW,b⟩:=vP (mW _ _) b;refine sH (cU rfl rfl (mX aW _ aJ)) rfl ?_;refine hq (H.set i (some (.cells (Z4.c ae)))) ?_;refine nil ?_;have b:=ku ad b;exact ab _ ae wA b
    refine ah.skip ?_;have b:=ku ad b;exact ab _ I wA b
   rintro aX b;try dsimp only at b
   refine region ?_;refine S Mv ?_;refine SI ?_;refine S As (nil ?_);exact aN _ ((G+1),aX) wA b (dl Z)
  rw [iT] at b;have b:=ku aL b;refine ah.exit ?_;obtain⟨bQ,aY,b⟩:=cC b;have b:=ku aY b;exact aK _ I wA b
 rintro aZ b;try dsimp only at b
 refine aa (S BU ?_);refine Sl ?_;refine aS.tok 5 fun m aj=>?_;obtain⟨bR,aj⟩:=ag.hG aj;refine aS.dX 1 _ rfl (fun j w cs hh hx=>tok_cell 3 5 5 hh (t:=m) aJ hx rfl) ?_;refine aS.tok 1 fun o B=>?_;obtain⟨bS,B⟩:=ag.hG B;obtain⟨bU,B⟩:=ag.hG B;refine aS.dX 1 _ rfl (fun j w cs hh hx=>tok_cell 4 1 1 hh (t:=o) aJ hx rfl) ?_
 refine Sf ?_;refine aS.dX 1 _ rfl (fun j w cs hh hx=>tok_cell 3 5 5 hh (t:=m) aJ hx rfl) ?_;refine aS.dX 1 _ rfl (fun j w cs hh hx=>tok_cell 4 1 1 hh (t:=o) aJ hx rfl) ?_;refine nil ?_;refine fO (TA 8 (TA 12 kN)) (fun(z:Z4×af)=>[]) (fun z=>[af.c af.zero,((bE .i64) z.2.ak++(bE .i64) z.2.bl++aM z.2.aV++[Sl.d 5 af.c (some m) z.2.av]++[Sl.d 1 aM (some o) z.2.aF])]) (fun z=>(((H.set i (some (.cells (Z4.c z.1)))).set m (some (.tok 5 z.2.av.l.length))).set o (some (.tok 1 z.2.aF.l.length)))) (fun z=>(some (z.2,z.1))=some r) ?_ ?_
 ·intro bW a0;refine aa (S As (nil ?_));refine block ?_;obtain⟨C,a1,b⟩:=cG b;refine jf (TA 0 (TA 3 (TA 5 (TA 6 (TA 8 (TA 12 kN)))))) (fun(z:Nat×Z4×af)=>[(13,.a (.d (.int .i64 ((z.1:Nat):Int))))]) (fun z=>[af.c af.zero,((bE .i64) z.2.2.ak++(bE .i64) z.2.2.bl++aM z.2.2.aV++[Sl.d 5 af.c (some m) z.2.2.av]++[Sl.d 1 aM (some o) z.2.2.aF])]) (fun z=>(((H.set i (some (.cells (Z4.c z.2.1)))).set m (some (.tok 5 z.2.2.av.l.length))).set o (some (.tok 1 z.2.2.aF.l.length)))) (fun z=>p.bP.l.length-z.1) (fun z=>Option.bind (iE p q E (fM n) (iF n) (p.bP.l.drop z.1) z.1 z.2.1 z.2.2) C=some r) (0,aZ,(af.mk (6:Int) (0:Int) ([]:Bs) true ([]) (Sl.nil:Sl Bs))) b wA ?_
  rintro ⟨v,x,g⟩ b bX a2;try dsimp only at b
  refine ay fun a3 al=>?_;refine aa (S Mv (S Fv (S Ld ?_)));refine sLen (f:=Z8.c) (s:=p.bP) (TK rfl) rfl rfl rfl rfl fun bY=>?_;refine S BI (S Mv (G0 Mv ?_));refine G1 53 rfl NP ?_;refine gC rfl rfl (fun hC=>aI (k:=54) rfl (dr (TK rfl) rfl rfl (TK rfl) rfl rfl)) rfl ?_;refine gC rfl rfl (fun hC=>aI (k:=55) rfl (ew (TK rfl) rfl rfl aJ rfl)) rfl ?_;refine G1 56 rfl BI ?_
  refine S PA (nil ?_);refine ah.iM (fun l=>Option.bind (iE p q E (fM n) (iF n) l v x g) C=some r) (Option.bind (some (x,g)) C=some r) b (fun b=>by rw [iE] at b; exact b) (fun _ a4 b=>by rw [iE] at b; rw [a4] at b; exact b) rfl rfl (fun bZ ao K a5 b=>?_) (fun K b=>?_)
  ·rw [iE] at b;rw [a5,cond_true] at b;try dsimp only at K
   have b0:=oD (and_left K);refine sk al ?_;clear al a3;refine fO (TA 0 (TA 3 (TA 5 (TA 6 (TA 8 (TA 12 (TA 13 kN))))))) (fun(z:Z4×af)=>[]) (fun z=>[af.c af.zero,((bE .i64) z.2.ak++(bE .i64) z.2.bl++aM z.2.aV++[Sl.d 5 af.c (some m) z.2.av]++[Sl.d 1 aM (some o) z.2.aF])]) (fun z=>(((H.set i (some (.cells (Z4.c z.1)))).set m (some (.tok 5 z.2.av.l.length))).set o (some (.tok 1 z.2.aF.l.length)))) (fun z=>Option.bind (iE p q E (fM n) (iF n) (p.bP.l.drop (v+1)) (v+1) z.1 z.2) C=some r) ?_ ?_
   ·intro b1 L;refine block ?_;refine aa (S Fv (S Ld (S Mv ?_)));obtain⟨a6,a7,b⟩:=vO ao b;refine S (ix Z8.c v a7) (S Ld ?_);refine Sl ?_;refine Sf ?_;refine nil ?_;refine bH 14 _ rfl (KA 0 (KA 3 (KA 5 (KA 6 (KA 8 (KA 12 (KA 13 aU.nil))))))) ?_;refine ay fun a8 ap=>?_;refine aa (S Fv (S Ld (S Mv ?_)));obtain⟨b2,a9,b⟩:=qO (P3 _ _) b;refine Sc rfl rfl (P0 a9) ?_
    refine nil ?_;obtain⟨a_,M,b⟩:=eG b;refine cO b (fun a' b=>?_) (fun a' b=>?_)
    ·refine ah.exit ?_;have b:=ku M b;exact L _ (x,g) wA b
    refine sk ap ?_;clear ap a8;refine aa (S Ld (S Fv (S Ld ?_)));obtain⟨b3,ba,b⟩:=qO (A5 _ _) b;refine Sc rfl rfl (A6 ba) ?_;refine S Mv (S EX (S EX ?_));refine Sl ?_;refine Sf ?_;refine S As (nil ?_);refine bH 15 _ rfl (KA 0 (KA 3 (KA 5 (KA 6 (KA 8 (KA 12 (KA 13 (KA 14 (KA 16 aU.nil))))))))) ?_;refine aa ?_;refine Sl ?_;refine nil ?_;refine fO (TA 0 (TA 3 (TA 5 (TA 6 (TA 8 (TA 12 (TA 13 (TA 14 (TA 17 kN))))))))) (fun(z:Z4×af)=>[]) (fun z=>[af.c af.zero,((bE .i64) g.ak++(bE .i64) g.bl++aM g.aV++[Sl.d 5 af.c (some m) g.av]++[Sl.d 1 aM (some o) g.aF]),af.c z.2]) (fun z=>(((H.set i (some (.cells (Z4.c z.1)))).set m (some (.tok 5 g.av.l.length))).set o (some (.tok 1 g.aF.l.length)))) (fun z=>Option.bind ((bp 16 g.aF (⟨false,[a6.ai]⟩:Sl Bs)).bind fun y=>(bp 80 g.av (⟨false,[z.2]⟩:Sl af)).bind fun u=>some (z.1,(af.mk g.ak g.bl g.aV u.nl u.l y))) a_=some r) ?_ ?_
    ·intro b4 N;refine block ?_;refine aa (S Mv (S Mv (G0 Mv (G0 Ld ?_))));obtain⟨b5,bb,b⟩:=eR (Hs _ _) b;refine gC rfl rfl (fun hC=>aI (k:=80) rfl (aI (k:=81) rfl (gD rfl rfl (Ht (bb hC) _ aJ)))) rfl ?_;refine G1 82 rfl NB ?_;refine S PA (S As (nil ?_));obtain⟨_,rfl,b⟩:=mO b;refine cO b (fun bc b=>?_) (fun bc b=>?_)
     ·refine region ?_;refine S Mv (S Fv (S Ld (S Ld (S Mv ?_))));obtain⟨b6,bd,b⟩:=qO rfl b;refine s0 (dc rfl rfl bd) rfl ?_;obtain⟨O,be,b⟩:=qO rfl b;refine sH (cU rfl rfl (aB be _ aJ)) rfl ?_;refine hq (((H.set i (some (.cells (Z4.c O.2)))).set m (some (.tok 5 g.av.l.length))).set o (some (.tok 1 g.aF.l.length))) ?_;refine Sf ?_;refine nil ?_
      exact N _ (O.2,O.1) wA b
     refine aa (S Fv (S Ld (S As (nil ?_))));refine cO b (fun bf b=>?_) (fun bf b=>?_)
     ·refine region ?_;refine S Mv (S Fv (S Ld (S Fv (S Ld (S Mv ?_)))));obtain⟨b7,bg,b⟩:=qO rfl b;refine s0 (dc rfl rfl bg) rfl ?_;obtain⟨P,bh,b⟩:=qO rfl b;refine sH (cU rfl rfl (aC bh _ aJ)) rfl ?_;refine hq (((H.set i (some (.cells (Z4.c P.2)))).set m (some (.tok 5 g.av.l.length))).set o (some (.tok 1 g.aF.l.length))) ?_;refine Sf ?_;refine nil ?_
      exact N _ (P.2,P.1) wA b
     refine aa (S Fv (S Ld ?_));obtain⟨b8,bi,b⟩:=vO (oe _) b;refine Sc rfl rfl (og bi) ?_;refine S As (nil ?_);refine cO b (fun bj b=>?_) (fun bj b=>?_)
     ·refine region ?_;refine S Mv ?_;obtain⟨ar,bk,b⟩:=vO (mW _ _) b;refine sH (cU rfl rfl (mX bk _ aJ)) rfl ?_;refine hq (((H.set i (some (.cells (Z4.c ar)))).set m (some (.tok 5 g.av.l.length))).set o (some (.tok 1 g.aF.l.length))) ?_;refine nil ?_;exact N _ (ar,af.zero) wA b
     refine ah.exit ?_;have b:=ku M b;exact L _ (x,g) wA b
    rintro ⟨Q,b9⟩ b;try dsimp only at b
    refine aa (S FL (S LL (S Fv (S Ld (S BV ?_)))));obtain⟨y,bm,b⟩:=qO rfl b;refine SH (am aM (TK rfl) rfl (TK rfl) (TK rfl) bm) ?_;refine hq (((H.set i (some (.cells (Z4.c Q)))).set m (some (.tok 5 g.av.l.length))).set o (some (.tok 1 y.l.length))) ?_;refine S FL ?_;refine Sf ?_;refine nil ?_;refine region ?_;refine S FL (S LL (S LL (S BV ?_)));obtain⟨u,bn,b⟩:=qO rfl b
    refine SH (am af.c (TK rfl) rfl (TK rfl) (TK rfl) bn) ?_;refine hq (((H.set i (some (.cells (Z4.c Q)))).set m (some (.tok 5 u.l.length))).set o (some (.tok 1 y.l.length))) ?_;refine S FL ?_;refine Sf ?_;refine nil ?_;have b:=ku M b;exact L _ (Q,(af.mk g.ak g.bl g.aV u.nl u.l y)) wA b
   rintro ⟨bo,bq⟩ b;try dsimp only at b
   refine region ?_;refine S Mv ?_;refine SI ?_;refine S As (nil ?_);exact a2 _ ((v+1),bo,bq) wA b (dl ao)
  have b:=ku a1 b;try dsimp only at b
  refine ah.exit ?_;obtain⟨b_,br,b⟩:=cC b;have b:=ku br b;exact a0 _ (x,g) wA b
 rintro ⟨bs,bt⟩ b;try dsimp only at b
 refine ay fun bu aw=>?_;refine ah.dX 1 _ rfl (fun j w cs hh hx=>qY 3 hx rfl) ?_;refine ah.dX 1 _ rfl (fun j w cs hh hx=>qY 4 hx rfl) ?_;refine ah.dX 1 (af.c bt) rfl (fun j w cs hh hx=>by rw [af.gm]; exact hx) ?_;refine region ?_;refine S LL ?_;refine Sf ?_;refine nil ?_;refine aw _ ?_;clear aw bu;refine ah.ret ?_;repeat (first|refine bM ?_|refine bN ?_)
 obtain rfl:=oJ b;refine bF.bK (H.set i (some (.cells (Z4.c bs)))) rfl ⟨rfl,rfl⟩ ?_;intro ax b' az;have ca:ax≠m:=fun R=>by subst R; simp_all [ag.set]
 have cb:ax≠o:=fun R=>by subst R; simp_all [ag.set]
 rw [<- az];simp only [ag.set] at az ⊢
 (repeat' split)<;>simp_all
theorem P7 (n:Nat) (j:rP (an:=an) n) (l:rQ (an:=an) n) (m:rR (an:=an) n) (o:rS (an:=an) n):rS (an:=an) (n+1):=by
 intro b q s t  g r i H p;rw [iF] at i;refine AC.oW 41 [.cell 8 58] Tryz.call274 Tryz.func274 ?_;refine ah.ga (h':=(H.set g (some (.cells (Z4.c b))))) (by funext n_; simp only [ag.set]; (repeat' split)<;>simp_all) ?_;refine aa (S BX (S BX ?_));refine Sl ?_;refine nil ?_;refine ah.cH (Sd Mv (Sd NP ?_));refine au.s0 (dr (TK rfl) rfl rfl (TK rfl) rfl rfl) rfl ?_;refine au.s0 (ew (TK rfl) rfl rfl aJ rfl) rfl ?_
 refine Sd Mv (Sd NP ?_);refine au.s0 (dr (TK rfl) rfl rfl (TK rfl) rfl rfl) rfl ?_;refine au.s0 (ew (TK rfl) rfl rfl aJ rfl) rfl ?_;refine au.sB (TK rfl) rfl rfl ?_ (by repeat (first|exact bT.nil|apply bT.cons));refine au.dU (eA (TK rfl) rfl rfl rfl rfl rfl) ?_;refine Sd As ?_;refine au.nil (by decide +kernel) ?_;refine bH 9 _ rfl (KA 0 (KA 3 (KA 5 (KA 6 (KA 8 (KA 10 aU.nil)))))) ?_
 refine aa (S Mv (S Mv (S BU (S NP ?_))));refine s0 (dr (TK rfl) rfl rfl (TK rfl) rfl rfl) rfl ?_;refine iK (yY (TK rfl) rfl rfl aJ rfl (Nat.le_of_ble_eq_true rfl) rfl rfl) rfl rfl ?_;refine hq (H.set g (some (.cells (Z4.c (Z4.mk b.Fd (af.mk (0:Int) (0:Int) ([]:Bs) true ([]) (Sl.nil:Sl Bs)) b.fC b.eW b.dz))))) ?_;refine S NP ?_;refine s0 (dr (TK rfl) rfl rfl (TK rfl) rfl rfl) rfl ?_
 refine iK (qP (TK rfl) rfl rfl aJ rfl (by repeat (first|exact dG.zero|apply dG.succ))) rfl rfl ?_;refine hq (H.set g (some (.cells (Z4.c (Z4.mk b.Fd (af.mk (0:Int) (0:Int) ([]:Bs) true ([]) (Sl.nil:Sl Bs)) true b.eW b.dz))))) ?_;refine nil ?_;refine aa (S Mv (S Ld (S Ld (S Mv ?_))));obtain⟨f,k,i⟩:=qT rfl i;refine sH (cU rfl rfl (j k _ aJ)) rfl ?_;refine hq (H.set g (some (.cells (Z4.c f.2)))) ?_
 refine Sl ?_;refine Sf ?_;refine nil ?_;refine bH 11 _ rfl (KA 0 (KA 8 (KA 9 (KA 10 aU.nil)))) ?_;refine aa (S Mv (S Mv (S Ld (S Mv (S NP ?_)))));refine s0 (dr (TK rfl) rfl rfl (TK rfl) rfl rfl) rfl ?_;refine iK (yY (TK rfl) rfl rfl aJ rfl (Nat.le_of_ble_eq_true rfl) rfl rfl) rfl rfl ?_;refine hq (H.set g (some (.cells (Z4.c (Z4.mk f.2.Fd b.en f.2.fC f.2.eW f.2.dz))))) ?_
 refine S NP ?_;refine s0 (dr (TK rfl) rfl rfl (TK rfl) rfl rfl) rfl ?_;refine iK (qP (TK rfl) rfl rfl aJ rfl (by repeat (first|exact dG.zero|apply dG.succ))) rfl rfl ?_;refine hq (H.set g (some (.cells (Z4.c (Z4.mk f.2.Fd b.en b.fC f.2.eW f.2.dz))))) ?_;refine nil ?_;refine aa (S Ld ?_);refine Sf ?_;refine nil ?_;exact rt i
theorem gR:∀(n:Nat),(rP (an:=an) n)/\(rQ (an:=an) n)/\(rR (an:=an) n)/\(rS (an:=an) n)
 | 0=>⟨fun b=>by first|cases b|(rw [fM] at b; cases b),fun b=>by first|cases b|(rw [lS] at b; cases b),fun b=>by first|cases b|(rw [lT] at b; cases b),fun b=>by first|cases b|(rw [iF] at b; cases b)⟩
 | n+1=>⟨P4 n (gR n).1 (gR n).2.1 (gR n).2.2.1 (gR n).2.2.2,P5 n (gR n).1 (gR n).2.1 (gR n).2.2.1 (gR n).2.2.2,P6 n (gR n).1 (gR n).2.1 (gR n).2.2.1 (gR n).2.2.2,P7 n (gR n).1 (gR n).2.1 (gR n).2.2.1 (gR n).2.2.2⟩
def HD (a0:Z4) (a1:aB) (a2:af) (a3:Int):Option (af×Z4):=fM F0 a0 a1 a2 a3
theorem P8 {f:Z4}{g:aB}{i:af}{j:Int}{b:Nat}{r:af×Z4}(k:HD f g i j=some r) (H:ag) (l:H b=some (.cells (Z4.c f))):AC Tryz.prog 231 [.d (.ptr b 0),.agg (aB.c g),.agg (af.c i),.d (.int .i64 j)] H fun v h'=>v=.a (.agg (af.c r.1))/\h'=(H.set b (some (.cells (Z4.c r.2)))):=(gR F0).1 k H l
def ud (b:Z4) (f:aB) (g:af) (i:Int):Option (af×Z4):=fM F0 b f g i
theorem P9 (a0:Z4) (a1:aB) (a2:af) (a3:Int):HD a0 a1 a2 a3=ud a0 a1 a2 a3:=rfl
def kW (f:Z4) (g:aB) (i:af):Option (af×Int×Z4):=(ud f g i (1:Int)).bind fun b=>bif (!decide (b.2.dz=(0:Int))) then(some ((af.mk (0:Int) (0:Int) ([]:Bs) true ([]) (Sl.nil:Sl Bs)),b.2.dz,b.2)) else(some (b.1,(0:Int),b.2))
def Be (b:Z4) (f:aB) (g:af):Option (af×Int×Z4):=kW b f g
theorem HE (a0:Z4) (a1:aB) (a2:af):Be a0 a1 a2=kW a0 a1 a2:=rfl
theorem HF {g:Z4}{j:aB}{k:af}{f:Nat}{r:af×Int×Z4}(b:Be g j k=some r) (H:ag) (q:H f=some (.cells (Z4.c g))):AC Tryz.prog 199 [.d (.ptr f 0),.agg (aB.c j),.agg (af.c k)] H fun v h'=>v=.dM [.agg (af.c r.1),.d (.int .i64 r.2.1)]/\h'=(H.set f (some (.cells (Z4.c r.2.2)))):=by
 unfold Be kW at b;refine AC.oW 24 [.cell 6 58,.tmp 7] Tryz.call199 Tryz.func199 ?_;refine ah.ga (h':=(H.set f (some (.cells (Z4.c g))))) (by funext n_; simp only [ag.set]; (repeat' split)<;>simp_all) ?_;refine aa (S BX (S BX ?_));refine Sl ?_;refine S As (nil ?_);refine aa (S Mv (S Ld (S Ld ?_)));obtain⟨l,m,b⟩:=qT (P9 _ _ _ _) b;refine sH (cU rfl rfl (P8 m _ aJ)) rfl ?_
 refine hq (H.set f (some (.cells (Z4.c l.2)))) ?_;refine Sl ?_;refine Sf ?_;refine nil ?_;refine bH 8 _ rfl (KA 0 (KA 6 aU.nil)) ?_;refine ay fun o i=>?_;refine aa (S Mv (S NP ?_));refine s0 (dr (TK rfl) rfl rfl (TK rfl) rfl rfl) rfl ?_;refine s0 (ew (TK rfl) rfl rfl aJ rfl) rfl ?_;refine S BI (nil ?_);refine cE b (fun p b=>?_) (fun p b=>?_)
 ·refine ah.cH (Sd BU (Sd Mv (Sd NP ?_)));refine au.s0 (dr (TK rfl) rfl rfl (TK rfl) rfl rfl) rfl ?_;refine au.s0 (ew (TK rfl) rfl rfl aJ rfl) rfl ?_;refine au.dU (eA (TK rfl) rfl rfl rfl rfl rfl) ?_;refine Sd As ?_;refine au.nil (by decide +kernel) ?_;exact rt b
 refine sk i ?_;clear i o;refine aa (S Ld ?_);refine Sf ?_;refine S As (nil ?_);exact rt b
def qc (b:ar) (i:aB) (j:af) (k:af):Option (af×Int):=on (jo b i.ai) fun f=>aQ (f) (mV (Z4.mk b k true (0:Int) (0:Int)) j) false fun l=>bif (f&&l) then(some ((af.mk (0:Int) (0:Int) ([]:Bs) true ([]) (Sl.nil:Sl Bs)),(8:Int))) else((kW (Z4.mk b k true (0:Int) (0:Int)) i j).bind fun g=>some (g.1,g.2.1))
def Bf (b:ar) (f:aB) (g:af) (i:af):Option (af×Int):=qc b f g i
theorem P_ (a0:ar) (a1:aB) (a2:af) (a3:af):Bf a0 a1 a2 a3=qc a0 a1 a2 a3:=rfl
theorem Qb {g:ar}{m:aB}{o i:af}{r:af×Int}(b:Bf g m o i=some r) (H:ag) :AC Tryz.prog 158 [.agg (ar.c g),.agg (aB.c m),.agg (af.c o),.agg (af.c i)] H fun v h'=>v=.dM [.agg (af.c r.1),.d (.int .i64 r.2)]/\h'=H:=by
 unfold Bf qc at b;refine AC.oW 31 [.cell 8 58,.tmp 9] Tryz.call158 Tryz.func158 ?_;refine aa (S BX (S BX (S BX (S BX ?_))));refine Sl ?_;refine S As (nil ?_);refine aa (S Ld (S Ld (S BU ?_)));refine sE (dZ.tA rfl) rfl (fun _ _ _ ⟨j,f,p,q,s⟩=>?_); subst p q s;refine hq (H.set j (some (.cells (Z4.c (Z4.mk g i true (0:Int) (0:Int)))))) ?_;refine S As (nil ?_)
 refine ay fun t l=>?_;refine aa (S Ld (S Fv (S Ld ?_)));obtain⟨B,u,b⟩:=vT (Aq _ _) b;refine Sc rfl rfl (Ar u) ?_;refine S Mv (G0 Mv (G0 Ld ?_));obtain⟨C,w,b⟩:=dB (Hs _ _) b;refine gC rfl rfl (fun hC=>aI (k:=20) rfl (aI (k:=21) rfl (gD rfl rfl (Ht (w hC) _ aJ)))) rfl ?_;refine S PA (nil ?_);refine cE b (fun x b=>?_) (fun x b=>?_)
 ·refine aa (S BU ?_);refine Sf ?_;refine S As (nil ?_);refine ah.ret ?_;repeat (first|refine bM ?_|refine bN ?_)
  obtain rfl:=oJ b;refine bF.bK H rfl ⟨rfl,rfl⟩ ?_
  first|exact ag.bX f|(simp only [ag.set_set]; exact ag.bX f)
 refine sk l ?_;clear l t;refine aa (S Mv (S Ld (S Ld ?_)));obtain⟨y,z,b⟩:=qT (HE _ _ _) b;refine sH (cU rfl rfl (HF z _ aJ)) rfl ?_;refine hq (H.set j (some (.cells (Z4.c y.2.2)))) ?_;refine S EX (S EX ?_);refine Sf ?_;refine S As (nil ?_);refine ah.ret ?_;repeat (first|refine bM ?_|refine bN ?_)
 obtain rfl:=oJ b;refine bF.bK H rfl ⟨rfl,rfl⟩ ?_
 first|exact ag.bX f|(simp only [ag.set_set]; exact ag.bX f)
def mZ (g:ar) (i:Bs) (j:Bs) (k:Bs):List Z8->(Sl Z5)->Option ((Sl Z5))
 | [],b=>some b
 | f::l,b=>on (f) fun m=>Option.bind (bif (!m.dO) then(some b) else(on (f) fun o=>on (f) fun p=>(qc g o.aO p.eE (af.mk (0:Int) (0:Int) ([]:Bs) true ([]) (Sl.nil:Sl Bs))).bind fun q=>bif (!decide (q.2=(0:Int))) then((a_ i j).bind fun r=>on (f) fun s=>(a_ r s.ai).bind fun t=>(a_ t k).bind fun u=>(bp 24 b (⟨false,[(Z5.mk (23:Int) u)]⟩:Sl Z5)).bind fun v=>some v) else(some b))) fun w=>mZ g i j k (l) w
def oq (g:ar) (i:(Sl Z8)) (j:Bs) (k:Bs) (m:Bs):Option (Sl Z5):=Option.bind (mZ g j k m i.l (Sl.nil:Sl Z5)) fun b=>on (b) fun f=>some f
def Bg (b:ar) (f:(Sl Z8)) (g:Bs) (i:Bs) (j:Bs):Option (Sl Z5):=oq b f g i j
theorem HG (a0:ar) (a1:(Sl Z8)) (a2:Bs) (a3:Bs) (a4:Bs):Bg a0 a1 a2 a3 a4=oq a0 a1 a2 a3 a4:=rfl
theorem HH {m:ar}{j:Sl Z8}{o p q:Bs}{G:Option Nat}{r:Sl Z5}(b:Bg m j o p q=some r) (H:ag) :AC Tryz.prog 102 [.agg (ar.c m),.d (Sl.d 10 Z8.c G j),.d (.str o),.d (.str p),.d (.str q)] H fun v h'=>v=.a (.d (Sl.d 2 Z5.c none r))/\h'=H:=by
 unfold Bg oq at b;refine AC.oW 61 [.tmp 10] Tryz.call102 Tryz.func102 ?_;refine ah.tok 2 fun g B=>?_;refine aa (S BX ?_);refine s0 (fJ (k':=2) rfl) rfl ?_;refine nil ?_;refine aa (S As (nil ?_));refine ah.fH 11 2 g rfl aJ ?_;refine aP kN (fun(z:(Sl Z5))=>[(11,.a (.d (Sl.d 2 Z5.c (some g) z)))]) (fun z=>(H.set g (some (.tok 2 z.l.length)))) (fun z=>(some z)=some r) ?_ ?_
 ·intro af I;refine aa (S As (nil ?_));refine block ?_;obtain⟨u,J,b⟩:=cG b;refine bD (TA 1 (TA 2 (TA 3 (TA 4 (TA 5 kN))))) (fun(z:(Sl Z5)×Nat)=>[(11,.a (.d (Sl.d 2 Z5.c (some g) z.1))),(12,.a (.d (.int .i64 ((z.2:Nat):Int))))]) (fun z=>(H.set g (some (.tok 2 z.1.l.length)))) (fun z=>j.l.length-z.2) (fun z=>Option.bind (mZ m o p q (j.l.drop z.2) z.1) u=some r) ((Sl.nil:Sl Z5),0) b wA ?_
  rintro ⟨t,i⟩ b ai K;try dsimp only at b
  refine ay fun L C=>?_;refine aa (S Mv (S Mv ?_));refine sLen (f:=Z8.c) (s:=j) (TK rfl) rfl rfl rfl rfl fun aj=>?_;refine S BI (nil ?_);refine ah.cL (fun l=>Option.bind (mZ m o p q l t) u=some r) b rfl (fun ak k w b=>?_) (fun w b=>?_)
  ·rw [mZ] at b;try dsimp only at w
   have al:=oD w;refine sk C ?_;clear C L;refine aP (TA 1 (TA 2 (TA 3 (TA 4 (TA 5 (TA 12 kN)))))) (fun(z:(Sl Z5))=>[(11,.a (.d (Sl.d 2 Z5.c (some g) z)))]) (fun z=>(H.set g (some (.tok 2 z.l.length)))) (fun z=>Option.bind (mZ m o p q (j.l.drop (i+1)) z) u=some r) ?_ ?_
   ·intro an x;refine block ?_;refine ay fun M E=>?_;refine aa (S Mv (S Mv ?_));obtain⟨ao,N,b⟩:=vO k b;refine S (ix Z8.c i N) (S Fv (S Ld (S NB (nil ?_))));obtain⟨ap,y,b⟩:=eG b;refine cO b (fun O b=>?_) (fun O b=>?_)
    ·refine ah.exit ?_;have b:=ku y b;exact x _ t wA b
    refine sk E ?_;clear E M;refine ah.cH (Sd Ld (Sd Mv (Sd Mv ?_)));obtain⟨av,P,b⟩:=vO k b;refine Sd (ix Z8.c i P) (Sd Fv (Sd Ld (Sd Mv (Sd Mv ?_))));obtain⟨aw,Q,b⟩:=vO k b;refine Sd (ix Z8.c i Q) (Sd Fv (Sd Ld (Sd BU ?_)));obtain⟨ax,R,b⟩:=qO (P_ _ _ _ _) b;refine cN rfl rfl (Qb R) ?_;refine Sd Mv (Sd EX (Sd EX ?_));refine au.sB (TK rfl) rfl rfl ?_ (by repeat (first|exact bT.nil|apply bT.cons))
    refine au.dU (eA (TK rfl) rfl rfl rfl rfl rfl) ?_;refine Sd As ?_;refine au.nil (by decide +kernel) ?_;refine bH 13 _ rfl (KA 1 (KA 2 (KA 3 (KA 4 (KA 5 (KA 11 (KA 12 (KA 14 aU.nil)))))))) ?_;refine aa (S Mv (S BI (nil ?_)));refine cO b (fun U b=>?_) (fun U b=>?_)
    ·refine region ?_;refine S Mv (S Mv (S Mv ?_));obtain⟨az,W,b⟩:=qO rfl b;refine s0 (bL rfl rfl W) rfl ?_;refine S Mv (S Mv ?_);obtain⟨aA,X,b⟩:=vO k b;refine S (ix Z8.c i X) (S Fv (S Ld ?_));obtain⟨aB,Y,b⟩:=qO rfl b;refine s0 (bL rfl rfl Y) rfl ?_;refine S Mv ?_;obtain⟨aC,Z,b⟩:=qO rfl b;refine s0 (bL rfl rfl Z) rfl ?_;refine S BU (S BV ?_);obtain⟨F,ab,b⟩:=qO rfl b
     refine SH (am Z5.c (TK rfl) rfl (TK rfl) (TK rfl) ab) ?_;refine hq (H.set g (some (.tok 2 F.l.length))) ?_;refine S As (nil ?_);have b:=ku y b;exact x _ F wA b
    refine ah.skip ?_;have b:=ku y b;exact x _ t wA b
   rintro ad b;try dsimp only at b
   refine region ?_;refine S Mv ?_;refine SI ?_;refine S As (nil ?_);exact K _ (ad,(i+1)) wA b (dl k)
  rw [mZ] at b;have b:=ku J b;refine ah.exit ?_;obtain⟨aD,ae,b⟩:=cC b;have b:=ku ae b;exact I _ t wA b
 rintro aE b;try dsimp only at b
 refine aa (S Mv (S As (nil ?_)));refine ah.f_ 10 rfl ?_;refine ah.ret ?_;repeat (first|refine bM ?_|refine bN ?_)
 obtain rfl:=oJ b;refine bF.bK H rfl ⟨rfl,rfl⟩ ?_
 first|exact ag.bX B|(simp only [ag.set_set]; exact ag.bX B)
def ot (i:ar) (f:az):List Z6->(Sl Z5)->Option ((Sl Z5))
 | [],b=>some b
 | g::j,b=>on (g) fun k=>(a_ f.ai ([46]:Bs)).bind fun l=>on (g) fun m=>(a_ l m.ai).bind fun o=>(oq i k.aG o ([40]:Bs) ([41]:Bs)).bind fun p=>(bp 24 b p).bind fun q=>ot i f (j) q
def lU (g:ar):List az->(Sl Z5)->Option ((Sl Z5))
 | [],f=>some f
 | i::j,f=>on (i) fun b=>Option.bind (ot g b b.br.l f) fun k=>on (k) fun m=>(oq g b.bP b.ai ([46]:Bs) ([]:Bs)).bind fun o=>(bp 24 m o).bind fun p=>on (p) fun q=>lU g (j) q
def rT (b:ar):Option (Sl Z5):=Option.bind (lU b b.aD.l (Sl.nil:Sl Z5)) fun f=>on (f) fun g=>some g
def Bh (b:ar):Option (Sl Z5):=rT b
theorem Qd (a0:ar):Bh a0=rT a0:=rfl
theorem Qf {g:ar}{r:Sl Z5}(b:Bh g=some r) (H:ag) :AC Tryz.prog 56 [.agg (ar.c g)] H fun v h'=>v=.a (.d (Sl.d 2 Z5.c none r))/\h'=H:=by
 unfold Bh rT at b;refine AC.oW 55 [.tmp 2] Tryz.call56 Tryz.func56 ?_;refine ah.tok 2 fun i y=>?_;refine aa (S BX ?_);refine s0 (fJ (k':=2) rfl) rfl ?_;refine nil ?_;refine aa (S As (nil ?_));refine ah.fH 3 2 i rfl aJ ?_;refine aP kN (fun(z:(Sl Z5))=>[(3,.a (.d (Sl.d 2 Z5.c (some i) z)))]) (fun z=>(H.set i (some (.tok 2 z.l.length)))) (fun z=>(some z)=some r) ?_ ?_
 ·intro av L;refine aa (S As (nil ?_));refine block ?_;obtain⟨k,M,b⟩:=cG b;refine bD (TA 1 kN) (fun(z:(Sl Z5)×Nat)=>[(3,.a (.d (Sl.d 2 Z5.c (some i) z.1))),(4,.a (.d (.int .i64 ((z.2:Nat):Int))))]) (fun z=>(H.set i (some (.tok 2 z.1.l.length)))) (fun z=>g.aD.l.length-z.2) (fun z=>Option.bind (lU g (g.aD.l.drop z.2) z.1) k=some r) ((Sl.nil:Sl Z5),0) b wA ?_
  rintro ⟨p,m⟩ b aw N;try dsimp only at b
  refine ay fun O B=>?_;refine aa (S Mv (S Fv (S Ld ?_)));refine sLen (f:=az.c) (s:=g.aD) (TK rfl) rfl rfl rfl rfl fun ax=>?_;refine S BI (nil ?_);refine ah.cL (fun l=>Option.bind (lU g l p) k=some r) b rfl (fun aA C q b=>?_) (fun q b=>?_)
  ·rw [lU] at b;try dsimp only at q
   have aB:=oD q;refine sk B ?_;clear B O;refine aP (TA 1 (TA 4 kN)) (fun(z:(Sl Z5))=>[(3,.a (.d (Sl.d 2 Z5.c (some i) z)))]) (fun z=>(H.set i (some (.tok 2 z.l.length)))) (fun z=>Option.bind (lU g (g.aD.l.drop (m+1)) z) k=some r) ?_ ?_
   ·intro aC P;refine block ?_;refine aa (S Fv (S Ld (S Mv ?_)));obtain⟨j,Q,b⟩:=vO C b;refine S (ix az.c m Q) (S Ld ?_);refine Sl ?_;refine Sf ?_;refine nil ?_;refine bH 5 _ rfl (KA 1 (KA 3 (KA 4 aU.nil))) ?_;refine aP (TA 1 (TA 4 (TA 5 kN))) (fun(z:(Sl Z5))=>[(3,.a (.d (Sl.d 2 Z5.c (some i) z)))]) (fun z=>(H.set i (some (.tok 2 z.l.length)))) (fun z=>Option.bind ((oq g j.bP j.ai ([46]:Bs) ([]:Bs)).bind fun E=>(bp 24 z E).bind fun o=>on (o) fun t=>lU g (g.aD.l.drop (m+1)) t) k=some r) ?_ ?_
    ·intro aE R;refine aa (S As (nil ?_));refine block ?_;obtain⟨F,U,b⟩:=eG b;refine bD (TA 1 (TA 4 (TA 5 kN))) (fun(z:(Sl Z5)×Nat)=>[(3,.a (.d (Sl.d 2 Z5.c (some i) z.1))),(6,.a (.d (.int .i64 ((z.2:Nat):Int))))]) (fun z=>(H.set i (some (.tok 2 z.1.l.length)))) (fun z=>j.br.l.length-z.2) (fun z=>Option.bind (ot g j (j.br.l.drop z.2) z.1) F=some r) (p,0) b wA ?_
     rintro ⟨G,u⟩ b aF W;try dsimp only at b
     refine ay fun X I=>?_;refine aa (S Mv (S Fv (S Ld ?_)));refine sLen (f:=Z6.c) (s:=j.br) (TK rfl) rfl rfl rfl rfl fun aG=>?_;refine S BI (nil ?_);refine ah.cL (fun l=>Option.bind (ot g j l G) F=some r) b rfl (fun aH w x b=>?_) (fun x b=>?_)
     ·rw [ot] at b;try dsimp only at x
      have aI:=oD x;refine sk I ?_;clear I X;refine ay fun Y J=>?_;refine block ?_;refine ah.draw rfl ?_;refine Sd Mv (Sd Ld (Sd Fv (Sd Ld (Sd Mv ?_))));obtain⟨aK,Z,b⟩:=vO w b;refine Sd (ix Z6.c u Z) (Sd Fv (Sd Ld (Sd Fv (Sd Ld ?_))));obtain⟨aL,ab,b⟩:=qO rfl b;refine au.s0 (bL rfl rfl ab) rfl ?_;refine Sd Fv (Sd Ld (Sd Mv ?_));obtain⟨aM,ad,b⟩:=vO w b
      refine Sd (ix Z6.c u ad) (Sd Fv (Sd Ld ?_));obtain⟨aN,ae,b⟩:=qO rfl b;refine au.s0 (bL rfl rfl ae) rfl ?_;obtain⟨aO,af,b⟩:=qO (HG _ _ _ _ _) b;refine cN rfl rfl (HH af) ?_;obtain⟨K,aj,b⟩:=qO rfl b;refine au.sH (pL (f:=Z5.c) (TK rfl) rfl (TK rfl) (TK rfl) ⟨_,rfl⟩ rfl rfl (by decide) rfl rfl rfl rfl aJ rfl aj) rfl ?_;refine au.Dh (H.set i (some (.tok 2 K.l.length))) ?_
      refine Sd As ?_;refine au.nil (by decide +kernel) ?_;refine J _ ?_;clear J Y;refine region ?_;refine S Mv ?_;refine SI ?_;refine S As (nil ?_);exact W _ (K,(u+1)) wA b (dl w)
     rw [ot] at b;have b:=ku U b;refine ah.exit ?_;obtain⟨aQ,ak,b⟩:=gP b;have b:=ku ak b;exact R _ G wA b
    rintro aR b;try dsimp only at b
    refine region ?_;refine S Mv (S Ld (S Fv (S Ld (S Fv (S Ld ?_)))));obtain⟨E,al,b⟩:=qO (HG _ _ _ _ _) b;refine Sc rfl rfl (HH al) ?_;obtain⟨o,an,b⟩:=qO rfl b;refine SH (am Z5.c (TK rfl) rfl (TK rfl) (TK rfl) an) ?_;refine hq (H.set i (some (.tok 2 o.l.length))) ?_;refine S As (nil ?_);obtain⟨aS,ao,b⟩:=gP b;have b:=ku ao b;exact P _ o wA b
   rintro t b;try dsimp only at b
   refine region ?_;refine S Mv ?_;refine SI ?_;refine S As (nil ?_);exact N _ (t,(m+1)) wA b (dl C)
  rw [lU] at b;have b:=ku M b;refine ah.exit ?_;obtain⟨aT,ap,b⟩:=cC b;have b:=ku ap b;exact L _ p wA b
 rintro aV b;try dsimp only at b
 refine aa (S Mv (S As (nil ?_)));refine ah.f_ 2 rfl ?_;refine ah.ret ?_;repeat (first|refine bM ?_|refine bN ?_)
 obtain rfl:=oJ b;refine bF.bK H rfl ⟨rfl,rfl⟩ ?_
 first|exact ag.bX y|(simp only [ag.set_set]; exact ag.bX y)
def rU (f:ar):Option (Sl Z5):=(mQ f true).bind fun b=>bif (decide ((0:Int)<((b.l.length:Nat):Int))) then(some b) else((rM f).bind fun g=>(bp 24 b g).bind fun i=>(rT f).bind fun j=>(bp 24 i j).bind fun k=>some k)
def Bi (b:ar):Option (Sl Z5):=rU b
theorem Qg (a0:ar):Bi a0=rU a0:=rfl
theorem Qh {m:ar}{r:Sl Z5}(b:Bi m=some r) (H:ag) :AC Tryz.prog 22 [.agg (ar.c m)] H fun v h'=>v=.a (.d (Sl.d 2 Z5.c none r))/\h'=H:=by
 unfold Bi rU at b;refine AC.oW 18 [.tmp 2] Tryz.call22 Tryz.func22 ?_;refine aa (S BX ?_);refine s0 (fJ (k':=2) rfl) rfl ?_;refine nil ?_;refine ah.tok 2 fun i g=>?_;refine aa (S Ld ?_);obtain⟨j,o,b⟩:=qT (Pp _ _) b;refine sH (cU rfl rfl (Pq o _ aJ)) rfl ?_;refine hq (H.set i (some (.tok 2 j.l.length))) ?_;refine S As (nil ?_);refine ay fun p k=>?_
 refine aa (S Mv ?_);refine sLen (f:=Z5.c) (s:=j) (TK rfl) rfl rfl rfl rfl fun B=>?_;refine S BI (nil ?_);refine cE b (fun q b=>?_) (fun q b=>?_)
 ·refine aa (S Mv (S As (nil ?_)));refine ah.f_ 2 rfl ?_;refine ah.ret ?_;repeat (first|refine bM ?_|refine bN ?_)
  obtain rfl:=oJ b;refine bF.bK H rfl ⟨rfl,rfl⟩ ?_
  first|exact ag.bX g|(simp only [ag.set_set]; exact ag.bX g)
 refine sk k ?_;clear k p;refine aa (S Mv (S Ld ?_));obtain⟨C,t,b⟩:=qT (PJ _) b;refine Sc rfl rfl (PK t) ?_;obtain⟨u,w,b⟩:=qT rfl b;refine SH (am Z5.c (TK rfl) rfl (TK rfl) (TK rfl) w) ?_;refine hq (H.set i (some (.tok 2 u.l.length))) ?_;refine S As (nil ?_);refine aa (S Mv (S Ld ?_));obtain⟨E,x,b⟩:=qT (Qd _) b;refine Sc rfl rfl (Qf x) ?_
 obtain⟨y,z,b⟩:=qT rfl b;refine SH (am Z5.c (TK rfl) rfl (TK rfl) (TK rfl) z) ?_;refine hq (H.set i (some (.tok 2 y.l.length))) ?_;refine S As (nil ?_);refine ah.f_ 2 rfl ?_;refine ah.ret ?_;repeat (first|refine bM ?_|refine bN ?_)
 obtain rfl:=oJ b;refine bF.bK H rfl ⟨rfl,rfl⟩ ?_
 first|exact ag.bX g|(simp only [ag.set_set]; exact ag.bX g)
def rV (f:ar):Option Bool:=(rp f (600:Int)).bind fun b=>aQ ((decide (b<=(600:Int)))) (jN f) false fun g=>aQ (((decide (b<=(600:Int)))&&g)) (rU f) (Sl.nil:Sl Z5) fun i=>some (((decide (b<=(600:Int)))&&g)&&(decide (((i.l.length:Nat):Int)=(0:Int))))
def Bj (b:ar):Option Bool:=rV b
theorem Qi (a0:ar):Bj a0=rV a0:=rfl
theorem Qj {g:ar}{r:Bool}(b:Bj g=some r) (H:ag) :AC Tryz.prog 6 [.agg (ar.c g)] H fun v h'=>v=.a (.d (.bool r))/\h'=H:=by
 unfold Bj rV at b;refine AC.oW 16 [.tmp 2] Tryz.call6 Tryz.func6 ?_;refine aa (S BX (S As (nil ?_)));refine aa (S Ld ?_);obtain⟨o,i,b⟩:=qT (OM _ _) b;refine Sc rfl rfl (ON i) ?_;refine S BI (S Mv (G0 Ld ?_));obtain⟨p,j,b⟩:=dB (O9 _) b;refine dH 7 rfl rfl rfl rfl rfl (fun hC=>O_ (j hC)) ?_;refine S PA (S Mv (G0 Ld ?_));obtain⟨l,m,b⟩:=dB (Qg _) b
 refine dH 11 rfl rfl rfl rfl rfl (fun hC=>Qh (m hC)) ?_;refine gC rfl rfl (fun hC=>aI (k:=12) rfl (dx (f:=Z5.c) (s:=l) (TK rfl) rfl rfl rfl)) rfl ?_;refine G1 13 rfl BI ?_;refine S PA (S As (nil ?_));exact rt b
def m_ :List ax->Int->Option (Int)
 | [],b=>some b
 | f::g,b=>bif (decide (b<=(300:Int))) then((bY b (1:Int)).bind fun i=>on (f) fun j=>(tO j.cB (300:Int)).bind fun k=>(bY i k).bind fun l=>m_  (g) l) else(some b)
def lV (f:aj->Option Int):List aj->Int->Option (Int)
 | [],b=>some b
 | g::i,b=>bif (decide (b<=(300:Int))) then(on (g) fun j=>(f j).bind fun k=>(bY b k).bind fun l=>lV f (i) l) else(some b)
def jY:Nat->aj->Option Int
 | 0,_=>none
 | n+1,b=>(bY (1:Int) ((b.aO.aX.l.length:Nat):Int)).bind fun f=>Option.bind (m_  b.aG.l f) fun g=>on (g) fun i=>Option.bind (lV (jY n) b.aK.l i) fun j=>on (j) fun k=>some k
def Bk (n:Nat):Prop:=∀{a0:aj}   {r:Int},jY n a0=some r->∀(H:ag),AC Tryz.prog 23 [.agg (aj.c a0)] H fun v h'=>v=.a (.d (.int .i64 r))/\h'=H
theorem Qk (n:Nat) (G:Bk (an:=an) n):Bk (an:=an) (n+1):=by
 intro g   r b H;rw [jY] at b;refine AC.oW 52 [.tmp 2] Tryz.call23 Tryz.func23 ?_;refine aa (S BX (S As (nil ?_)));refine aa (S Fv (S Fv (S Ld ?_)));refine sLen (f:=(bE .i64)) (s:=g.aO.aX) (TK rfl) rfl rfl rfl rfl fun au=>?_;obtain⟨I,J,b⟩:=qT rfl b;refine s0 (dc rfl rfl J) rfl ?_;refine S As (nil ?_);refine aP (TA 1 kN) (fun(z:Int)=>[(3,.a (.d (.int .i64 z)))]) (fun z=>H) (fun z=>(Option.bind (lV (jY n) g.aK.l z) fun i=>on (i) fun t=>some t)=some r) ?_ ?_
 ·intro av K;refine aa (S As (nil ?_));refine block ?_;obtain⟨j,L,b⟩:=cG b;refine bD (TA 1 kN) (fun(z:Int×Nat)=>[(3,.a (.d (.int .i64 z.1))),(4,.a (.d (.int .i64 ((z.2:Nat):Int))))]) (fun z=>H) (fun z=>g.aG.l.length-z.2) (fun z=>Option.bind (m_  (g.aG.l.drop z.2) z.1) j=some r) (I,0) b wA ?_;rintro ⟨k,u⟩ b aw M;try dsimp only at b
  refine ay fun N v=>?_;refine aa (S Mv (S Fv (S Ld ?_)));refine sLen (f:=ax.c) (s:=g.aG) (TK rfl) rfl rfl rfl rfl fun az=>?_;refine S BI (S Mv (G0 Mv ?_));refine G1 17 rfl BI ?_;refine S PA (nil ?_);refine ah.iM (fun l=>Option.bind (m_  l k) j=some r) (Option.bind (some k) j=some r) b (fun b=>by rw [m_] at b; exact b) (fun _ m b=>by rw [m_] at b; rw [m] at b; exact b) rfl rfl (fun aA w o O b=>?_) (fun o b=>?_)
  ·rw [m_] at b;rw [O,cond_true] at b;try dsimp only at o
   have aB:=oD (and_left o);refine sk v ?_;clear v N;refine ay fun P y=>?_;refine block ?_;refine region ?_;refine S Mv ?_;obtain⟨aC,Q,b⟩:=qO rfl b;refine s0 (dc rfl rfl Q) rfl ?_;refine S Fv (S Ld (S Mv ?_));obtain⟨aD,R,b⟩:=vO w b;refine S (ix ax.c u R) (S Fv (S Ld ?_));obtain⟨aE,U,b⟩:=qO (zP _ _) b;refine Sc rfl rfl (zO U) ?_
   obtain⟨W,X,b⟩:=qO rfl b;refine s0 (dc rfl rfl X) rfl ?_;refine S As (nil ?_);refine y _ ?_;clear y P;refine region ?_;refine S Mv ?_;refine SI ?_;refine S As (nil ?_);exact M _ (W,(u+1)) wA b (dl w)
  have b:=ku L b;refine ah.exit ?_;obtain⟨aF,Y,b⟩:=cC b;have b:=ku Y b;exact K _ k wA b
 rintro Z b;try dsimp only at b
 refine aP kN (fun(z:Int)=>[(3,.a (.d (.int .i64 z)))]) (fun z=>H) (fun z=>(some z)=some r) ?_ ?_
 ·intro aH ab;refine aa (S As (nil ?_));refine block ?_;obtain⟨p,ad,b⟩:=cG b;refine bD (TA 1 kN) (fun(z:Int×Nat)=>[(3,.a (.d (.int .i64 z.1))),(5,.a (.d (.int .i64 ((z.2:Nat):Int))))]) (fun z=>H) (fun z=>g.aK.l.length-z.2) (fun z=>Option.bind (lV (jY n) (g.aK.l.drop z.2) z.1) p=some r) (Z,0) b wA ?_;rintro ⟨i,B⟩ b aI ae;try dsimp only at b
  refine ay fun af C=>?_;refine aa (S Mv (S Fv ?_));refine s0 (ck (TK rfl) rfl rfl (congrArg (fun x=>some (A.d x)) (aj.gp _))) rfl ?_;refine sLen (f:=aj.c) (s:=g.aK) (TK rfl) rfl rfl rfl rfl fun aL=>?_;refine S BI (S Mv (G0 Mv ?_));refine G1 38 rfl BI ?_;refine S PA (nil ?_);refine ah.iM (fun l=>Option.bind (lV (jY n) l i) p=some r) (Option.bind (some i) p=some r) b (fun b=>by rw [lV] at b; exact b) (fun _ m b=>by rw [lV] at b; rw [m] at b; exact b) rfl rfl (fun aM E q ai b=>?_) (fun q b=>?_)
  ·rw [lV] at b;rw [ai,cond_true] at b;try dsimp only at q
   have aN:=oD (and_left q);refine sk C ?_;clear C af;refine ay fun ak F=>?_;refine block ?_;refine region ?_;refine S Mv (S Fv ?_);refine s0 (ck (TK rfl) rfl rfl (congrArg (fun x=>some (A.d x)) (aj.gp _))) rfl ?_;refine S Mv ?_;obtain⟨aQ,al,b⟩:=vO E b;refine S (ix aj.c B al) (S Ld ?_);obtain⟨aR,am,b⟩:=qO rfl b;refine Sc rfl rfl (G am) ?_
   obtain⟨ao,ap,b⟩:=qO rfl b;refine s0 (dc rfl rfl ap) rfl ?_;refine S As (nil ?_);refine F _ ?_;clear F ak;refine region ?_;refine S Mv ?_;refine SI ?_;refine S As (nil ?_);exact ae _ (ao,(B+1)) wA b (dl E)
  have b:=ku ad b;refine ah.exit ?_;obtain⟨aS,ar,b⟩:=cC b;have b:=ku ar b;exact ab _ i wA b
 rintro t b;try dsimp only at b
 refine aa (S Mv (S As (nil ?_)));exact rt b
theorem HI:∀(n:Nat),(Bk (an:=an) n)
 | 0=>fun b=>by first|cases b|(rw [jY] at b; cases b)
 | n+1=>Qk n (HI n)
def HJ (b:aj):Option Int:=jY F0 b
theorem Ql {b:aj}{r:Int}(f:HJ b=some r) (H:ag) :AC Tryz.prog 23 [.agg (aj.c b)] H fun v h'=>v=.a (.d (.int .i64 r))/\h'=H:=(HI F0) f H 
def Bl (b:aj):Option Int:=jY F0 b
theorem Qm (a0:aj):HJ a0=Bl a0:=rfl
def nc :List aj->Int->Option (Int)
 | [],b=>some b
 | f::g,b=>bif (decide (b<=(300:Int))) then(on (f) fun i=>(Bl i).bind fun j=>(bY b j).bind fun k=>nc  (g) k) else(some b)
def qd (g:(Sl aj)):Option Bool:=Option.bind (nc  g.l (0:Int)) fun b=>on (b) fun f=>some (decide ((300:Int)<f))
def Bm (b:(Sl aj)):Option Bool:=qd b
theorem HK (a0:(Sl aj)):Bm a0=qd a0:=rfl
theorem HM {g:Sl aj}{w0:Option Nat}{r:Bool}(b:Bm g=some r) (H:ag) :AC Tryz.prog 7 [.d (Sl.d 9 aj.c w0 g)] H fun v h'=>v=.a (.d (.bool r))/\h'=H:=by
 unfold Bm qd at b;refine AC.oW 24 [.tmp 2] Tryz.call7 Tryz.func7 ?_;refine aa (S As (nil ?_));refine aa (S As (nil ?_));refine aP kN (fun(z:Int)=>[(3,.a (.d (.int .i64 z)))]) (fun z=>H) (fun z=>(some (decide ((300:Int)<z)))=some r) ?_ ?_
 ·intro K t;refine aa (S As (nil ?_));refine block ?_;obtain⟨i,u,b⟩:=cG b;refine bD (TA 0 kN) (fun(z:Int×Nat)=>[(3,.a (.d (.int .i64 z.1))),(4,.a (.d (.int .i64 ((z.2:Nat):Int))))]) (fun z=>H) (fun z=>g.l.length-z.2) (fun z=>Option.bind (nc  (g.l.drop z.2) z.1) i=some r) ((0:Int),0) b wA ?_;rintro ⟨j,m⟩ b L w;try dsimp only at b
  refine ay fun x o=>?_;refine aa (S Mv (S Mv ?_));refine sLen (f:=aj.c) (s:=g) (TK rfl) rfl rfl rfl rfl fun M=>?_;refine S BI (S Mv (G0 Mv ?_));refine G1 10 rfl BI ?_;refine S PA (nil ?_);refine ah.iM (fun l=>Option.bind (nc  l j) i=some r) (Option.bind (some j) i=some r) b (fun b=>by rw [nc] at b; exact b) (fun _ y b=>by rw [nc] at b; rw [y] at b; exact b) rfl rfl (fun N p k B b=>?_) (fun k b=>?_)
  ·rw [nc] at b;rw [B,cond_true] at b;try dsimp only at k
   have O:=oD (and_left k);refine sk o ?_;clear o x;refine ay fun C q=>?_;refine block ?_;refine region ?_;refine S Mv (S Mv (S Mv ?_));obtain⟨P,E,b⟩:=vO p b;refine S (ix aj.c m E) (S Ld ?_);obtain⟨Q,F,b⟩:=qO (Qm _) b;refine Sc rfl rfl (Ql F) ?_;obtain⟨G,I,b⟩:=qO rfl b;refine s0 (dc rfl rfl I) rfl ?_;refine S As (nil ?_)
   refine q _ ?_;clear q C;refine region ?_;refine S Mv ?_;refine SI ?_;refine S As (nil ?_);exact w _ (G,(m+1)) wA b (dl p)
  have b:=ku u b;refine ah.exit ?_;obtain⟨R,J,b⟩:=cC b;have b:=ku J b;exact t _ j wA b
 rintro U b;try dsimp only at b
 refine aa (S Mv (S BI (S As (nil ?_))));exact rt b
def ue (b:Int):Bs:=bif (decide (b=(1:Int))) then(([81,117,101,114,121]:Bs)) else(bif (decide (b=(2:Int))) then(([77,117,116,97,116,105,111,110]:Bs)) else(bif (decide (b=(3:Int))) then(([83,117,98,115,99,114,105,112,116,105,111,110]:Bs)) else(([]:Bs))))
def rW (b:Int):Option Bs:=some (ue b)
theorem Qn (a0:Int):rW a0=some (ue a0):=rfl
theorem wK {g:Int}{r:Bs}(b:rW g=some r) (H:ag) :AC Tryz.prog 26 [.d (.int .i64 g)] H fun v h'=>v=.a (.d (.str r))/\h'=H:=by
 unfold rW ue at b;refine AC.oW 10 [.tmp 2] Tryz.call26 Tryz.func26 ?_;refine aa (S As (nil ?_));refine ay fun i f=>?_;refine aa (S Mv (nil ?_));refine block ?_;refine aa (S BI (S As (nil ?_)));refine cP b (fun j b=>?_) (fun j b=>?_)
 ·refine aa (S As (nil ?_));exact rt b
 refine aa (S BI (S As (nil ?_)));refine cP b (fun k b=>?_) (fun k b=>?_)
 ·refine aa (S As (nil ?_));exact rt b
 refine aa (S BI (S As (nil ?_)));refine cP b (fun l b=>?_) (fun l b=>?_)
 ·refine aa (S As (nil ?_));exact rt b
 refine sk f ?_;clear f i;refine aa (S As (nil ?_));exact rt b
def rX (f:Bs):List az->Unit ⊕ ((az×Bool))
 | []=>Sum.inl ()
 | g::i=>on (g) fun b=>bif ((b.ai==f)) then(Sum.inr (b,true)) else(rX f (i) )
def wL (g:ar) (i:Bs):(az×Bool):=on (rX i g.aD.l ) fun b=>match b with|Sum.inl _=>(on (()) fun _=>((az.mk (0:Int) ([]:Bs) (Sl.nil:Sl Bs) (Sl.nil:Sl aN) (Sl.nil:Sl Z6) (Sl.nil:Sl Z9) (Sl.nil:Sl Z8)),false))|Sum.inr f=>(f)
def ou (b:ar) (f:Bs):Option (az×Bool):=some (wL b f)
theorem Qo (a0:ar) (a1:Bs):ou a0 a1=some (wL a0 a1):=rfl
theorem rY {g:ar}{i:Bs}{r:az×Bool}(b:ou g i=some r) (H:ag) :AC Tryz.prog 27 [.agg (ar.c g),.d (.str i)] H fun v h'=>v=.dM [.agg (az.c r.1),.d (.bool r.2)]/\h'=H:=by
 unfold ou wL at b;refine AC.oW 22 [.cell 4 68,.tmp 5] Tryz.call27 Tryz.func27 ?_;refine aa (S BX ?_);refine Sl ?_;refine S As (nil ?_);refine fO (TA 4 kN) (fun(z:az)=>[]) (fun z=>[az.c z]) (fun z=>H) (fun z=>some (((az.mk (0:Int) ([]:Bs) (Sl.nil:Sl Bs) (Sl.nil:Sl aN) (Sl.nil:Sl Z6) (Sl.nil:Sl Z9) (Sl.nil:Sl Z8)),false))=some r) ?_ ?_
 ·intro G w;refine aa (S Fv (S Ld ?_));refine sLen (f:=az.c) (s:=g.aD) (TK rfl) rfl rfl rfl rfl fun I=>?_;refine S Mv (nil ?_);refine block ?_;obtain⟨k,m,b⟩:=fo b;refine jf (TA 1 (TA 4 (TA 9 (TA 10 kN)))) (fun(z:Nat×az)=>[(11,.a (.d (.int .i64 ((z.1:Nat):Int))))]) (fun z=>[az.c z.2]) (fun z=>H) (fun z=>g.aD.l.length-z.1) (fun z=>k (rX i (g.aD.l.drop z.1) )=some r) (0,az.zero) b wA ?_
  rintro ⟨o,p⟩ b J x;try dsimp only at b
  refine aa (S BI (nil ?_));refine ay fun y q=>?_;refine ah.cL (fun l=>k (rX i l )=some r) b rfl (fun K t j b=>?_) (fun j b=>?_)
  ·rw [rX] at b;try dsimp only at j
   have L:=oD j;refine sk q ?_;clear q y;refine ay fun B u=>?_;refine block ?_;refine aa ?_;obtain⟨M,C,b⟩:=vP t b;refine S (ix az.c o C) (S Ld ?_);refine Sl ?_;refine Sf ?_;refine nil ?_;refine bH 7 _ rfl (KA 1 (KA 4 (KA 9 (KA 10 (KA 11 aU.nil))))) ?_;refine aa (S Fv (S Ld (S Mv (S BS (nil ?_)))));refine cP b (fun E b=>?_) (fun E b=>?_)
   ·refine aa (S Ld ?_);refine Sf ?_;refine S As (nil ?_);refine ah.ret ?_;repeat (first|refine bM ?_|refine bN ?_)
    have b:=ku m b;obtain rfl:=oJ b;refine bF.bK H rfl ⟨rfl,rfl⟩ ?_;exact(fun _ _ h=>h)
   refine sk u ?_;clear u B;refine region ?_;refine SI ?_;refine S Mv (nil ?_);exact x _ ((o+1),p) wA b (dl t)
  rw [rX] at b;have b:=ku m b;try dsimp only at b
  refine ah.exit ?_;obtain⟨N,F,b⟩:=fo b;have b:=ku F b;exact w _ p wA b
 rintro O b;try dsimp only at b
 refine aa (S BU ?_);refine Sf ?_;refine S As (nil ?_);exact rt b
def rZ (f:Bs):List Bs->Nat->Unit ⊕ Int
 | [],b=>Sum.inl ()
 | g::i,b=>on (g) fun j=>bif ((f==j)) then(Sum.inr ((b:Nat):Int)) else(rZ f (i) (b+1) )
def uf (g:(Sl Bs)) (i:Bs):Int:=on (rZ i g.l 0 ) fun b=>match b with|Sum.inl _=>(on (()) fun _=>(-1:Int))|Sum.inr f=>(f)
def wM (b:(Sl Bs)) (f:Bs):Option Int:=some (uf b f)
theorem HN (a0:(Sl Bs)) (a1:Bs):wM a0 a1=some (uf a0 a1):=rfl
theorem Bn {g:Sl Bs}{i:Bs}{w0:Option Nat}{r:Int}(b:wM g i=some r) (H:ag) :AC Tryz.prog 62 [.d (Sl.d 1 aM w0 g),.d (.str i)] H fun v h'=>v=.a (.d (.int .i64 r))/\h'=H:=by
 unfold wM uf at b;refine AC.oW 19 [.tmp 4] Tryz.call62 Tryz.func62 ?_;refine aa (S As (nil ?_));refine aP kN (fun(z:Unit)=>[]) (fun z=>H) (fun z=>some ((-1:Int))=some r) ?_ ?_
 ·intro F u;refine aa (S Mv ?_);refine sLen (f:=aM) (s:=g) (TK rfl) rfl rfl rfl rfl fun G=>?_;refine S Mv (nil ?_);refine block ?_;obtain⟨m,o,b⟩:=fo b;refine bD (TA 0 (TA 1 (TA 7 kN))) (fun(z:Nat)=>[(8,.a (.d (.int .i64 ((z:Nat):Int))))]) (fun z=>H) (fun z=>g.l.length-z) (fun z=>m (rZ i (g.l.drop z) z )=some r) 0 b wA ?_;rintro j b I w;try dsimp only at b
  refine aa (S BI (nil ?_));refine ay fun x p=>?_;refine ah.cL (fun l=>m (rZ i l j )=some r) b rfl (fun J q k b=>?_) (fun k b=>?_)
  ·rw [rZ] at b;try dsimp only at k
   have K:=oD k;refine sk p ?_;clear p x;refine ay fun y t=>?_;refine block ?_;refine aa (S Mv (S As (nil ?_)));refine aa (S Mv (S Mv (S Mv ?_)));obtain⟨L,B,b⟩:=vP q b;refine S (ix aM j B) (S Ld (S BS (nil ?_)));refine cP b (fun C b=>?_) (fun C b=>?_)
   ·refine aa (S Mv (S As (nil ?_)));refine ah.ret ?_;repeat (first|refine bM ?_|refine bN ?_)
    have b:=ku o b;obtain rfl:=oJ b;refine bF.bK H rfl ⟨rfl,rfl⟩ ?_;exact(fun _ _ h=>h)
   refine sk t ?_;clear t y;refine region ?_;refine SI ?_;refine S Mv (nil ?_);exact w _ (j+1) wA b (dl q)
  rw [rZ] at b;have b:=ku o b;try dsimp only at b
  refine ah.exit ?_;obtain⟨M,E,b⟩:=fo b;have b:=ku E b;exact u _ () wA b
 rintro _ b;try dsimp only at b
 refine aa (S As (nil ?_));exact rt b
def wN (f:(Sl Bs)) (g:Bs):Bool:=on (uf f g) fun b=>(decide ((0:Int)<=b))
def Bo (b:(Sl Bs)) (f:Bs):Option Bool:=some (wN b f)
theorem Qp (a0:(Sl Bs)) (a1:Bs):Bo a0 a1=some (wN a0 a1):=rfl
theorem Qq {f:Sl Bs}{g:Bs}{w0:Option Nat}{r:Bool}(b:Bo f g=some r) (H:ag) :AC Tryz.prog 164 [.d (Sl.d 1 aM w0 f),.d (.str g)] H fun v h'=>v=.a (.d (.bool r))/\h'=H:=by
 unfold Bo wN at b;refine AC.oW 9 [.tmp 4] Tryz.call164 Tryz.func164 ?_;refine aa (S As (nil ?_));refine aa (S Mv (S Mv ?_));obtain⟨j,i,b⟩:=vP (HN _ _) b;refine Sc rfl rfl (Bn i) ?_;refine S BI (S As (nil ?_));exact rt b
def HO (f:az) (g:Bs):Bool:=on (wN f.cw g) fun b=>b
def Bp (b:az) (f:Bs):Option Bool:=some (HO b f)
theorem Qr {f:az}{g:Bs}{r:Bool}(b:Bp f g=some r) (H:ag) :AC Tryz.prog 105 [.agg (az.c f),.d (.str g)] H fun v h'=>v=.a (.d (.bool r))/\h'=H:=by
 unfold Bp HO at b;refine AC.oW 9 [.tmp 4] Tryz.call105 Tryz.func105 ?_;refine aa (S BX (S As (nil ?_)));refine aa (S Fv (S Ld (S Mv ?_)));obtain⟨j,i,b⟩:=vP (Qp _ _) b;refine Sc rfl rfl (Qq i) ?_;refine S As (nil ?_);exact rt b
def Bq  (b:(Sl Bs)) (f:(List Bs)):Option (Sl Bs):=some b
def wO (b:Nat) (f:(Sl Bs)->Nat->(List Bs)->Option (Sl Bs)) (g:(Sl Bs)) (i:(List Bs)):Option (Sl Bs):=f g (b+1) i
def r_ (g:ar) :Nat->(Sl Bs)->Nat->(List Bs)->Option (Sl Bs)
 | 0,_,_,_=>none
 | k+1,i,b,f=>bif (decide (((b:Nat):Int)<((g.aD.l.length:Nat):Int))) then((g.aD.l[b]?).bind fun j=>bif (f.contains j.ai) then((bp 16 i (⟨false,[j.ai]⟩:Sl Bs)).bind fun m=>wO b ((r_ g k)) m (List.erase f j.ai)) else(wO b ((r_ g k)) i f)) else(Bq   i f)
def Br (b:ar)  (f:(List Bs)):Option (Sl Bs):=r_ b (b.aD.l.length+1) (Sl.nil:Sl Bs) 0 f
def Bt (a0:ar) (a1:Bs) (f:(az×Bool))  (g:Bs):Option Bool:=(ou a0 g).bind fun b=>aQ ((!((!b.2)||(!decide (b.1.ak=(1:Int))))&&(decide (f.1.ak=(2:Int))))) (Bp b.1 a1) false fun i=>bif (((!b.2)||(!decide (b.1.ak=(1:Int))))||((decide (f.1.ak=(2:Int)))&&(!i))) then(none) else(some true)
def wP (b:ar) (j:Bs) (f:(az×Bool))  (g:(List Bs)):Option (Sl Bs):=Option.bind (vB (Bt b j f) g) fun i=>Br b  i
def wQ (g:ar) (f:Bs):Option (Sl Bs):=(ou g f).bind fun b=>bif (decide (b.1.ak=(1:Int))) then(wP g f b  (qW ([]:List Bs) f)) else(bif (decide (b.1.ak=(2:Int))) then(none) else(bif (decide (b.1.ak=(3:Int))) then(none) else(wP g f b  ([]:List Bs))))
theorem HP {o:ar}{t:Bs}{r:Sl Bs}(b:wQ o t=some r) (H:ag) :AC Tryz.prog 61 [.agg (ar.c o),.d (.str t)] H fun v h'=>v=.a (.d (Sl.d 1 aM none r))/\h'=H:=by
 unfold wQ at b;refine AC.oW 113 [.tmp 4] Tryz.call61 Tryz.func61 ?_;refine ah.tok 1 fun g a4=>?_;refine aa (S BX ?_);refine s0 (fJ (k':=1) rfl) rfl ?_;refine nil ?_;refine aa (S Ld (S Mv ?_));obtain⟨P,ak,b⟩:=bO b;refine Sc rfl rfl (rY ak) ?_;refine S Mv (S EX (S EX ?_));refine Sl ?_;refine Sf ?_;refine S As (nil ?_);refine bH 5 _ rfl (KA 1 (KA 2 aU.nil)) ?_
 refine aa ?_;refine sE dZ.makeMap rfl (fun _ _ _ ⟨i,Q,al,an,ao⟩=>?_); subst al an ao;obtain⟨a5,Q⟩:=ag.hG Q;refine hq ((H.set g (some (.tok 1 0))).set i (some (.map (fm ([]:List Bs))))) ?_;refine S As (nil ?_);refine aP (TA 1 (TA 2 (TA 5 (TA 7 kN)))) (fun(z:(List Bs))=>[]) (fun z=>((H.set g (some (.tok 1 0))).set i (some (.map (fm z))))) (fun z=>wP o t P z=some r) ?_ ?_
 ·intro a6 R;refine aa (S Fv (S Ld (nil ?_)));refine block ?_;refine aa (S BI (S As (nil ?_)));refine cE b (fun ap b=>?_) (fun ap b=>?_)
  ·refine region ?_;refine S Mv (S Mv ?_);refine iK (mapUpdate (TK rfl) rfl (TK rfl) rfl rfl rfl rfl aJ (MX _ _) rfl) rfl rfl ?_;refine hq ((H.set g (some (.tok 1 0))).set i (some (.map (fm (qW ([]:List Bs) t))))) ?_;refine nil ?_;exact R _ (qW ([]:List Bs) t) wA b
  refine aa (S BI (S As (nil ?_)));refine cE b (fun au b=>?_) (fun au b=>?_)
  ·cases b
  refine aa (S BI (S As (nil ?_)));refine cE b (fun av b=>?_) (fun av b=>?_)
  ·cases b
  refine ah.skip ?_;exact R _ ([]:List Bs) wA b
 rintro aw b;try dsimp only at b
 unfold wP at b;refine aP (TA 2 (TA 7 kN)) (fun(z:(List Bs))=>[]) (fun z=>((H.set g (some (.tok 1 0))).set i (some (.map (fm z))))) (fun z=>Br o z=some r) ?_ ?_
 ·intro a7 ax;refine ay fun aA U=>?_;refine ah.Nu i (l:=aw) aJ fun p I j aB=>?_;refine ah.ga (h':=((H.set g (some (.tok 1 0))).set i (some (.eF p (.map (mE I).toArray j))))) (by first|rfl|(rw [ag.set_set]; rfl)|(funext n_; simp only [ag.set]; (repeat' split)<;>first|rfl|(exfalso; simp_all; done)|(simp_all; done))) ?_;refine region ?_;refine S Mv ?_
  refine sE (dZ.Ny (TK rfl) rfl rfl aJ) rfl ?_;rintro _ _ _ ⟨u,C,w,rfl,rfl,rfl⟩;obtain⟨aC,w⟩:=ag.hG w;obtain⟨aE,w⟩:=ag.hG w;refine hq (((H.set g (some (.tok 1 0))).set i (some (.eF p (.map (mE I).toArray j)))).set u (some (.eF C (.mapIter (some p) j (#[]) j)))) ?_
  refine nil ?_;refine U _ ?_;clear U aA;refine block ?_;obtain⟨J,aF,b⟩:=bO b;refine bD (TA 1 (TA 2 (TA 5 (TA 7 (TA 61 kN))))) (fun(z:List (Bs×Nat)×Array Nat)=>[]) (fun z=>(((H.set g (some (.tok 1 0))).set i (some (.eF p (.map (mE z.1).toArray j)))).set u (some (.eF C (.mapIter (some p) j z.2 j))))) (fun z=>(dR z.1 z.2).length) (fun z=>mq (Bt o t P) J j z) (I,#[]) (mq.start aF aB) wA ?_
  rintro ⟨W,K⟩ m a8 aG;try dsimp only at m
  refine ay fun a9 X=>?_;refine region ?_;refine sE (dZ.Nz (id:=i) rfl aJ aJ m.pop.lt (fun x hx=>m.pop.len _ (List.mem_map_of_mem hx))) rfl ?_;rintro _ _ _ ⟨rfl,⟨aH,rfl,rfl⟩|⟨a_,Y,E,rfl,rfl⟩⟩
  ·refine S EX (nil ?_);refine X _ ?_;refine ay fun aK Z=>?_;refine ah.Nv i aJ m.pop ?_;rw [m.done aH];refine ah.ga (h':=(((H.set g (some (.tok 1 0))).set i (some (.map (fm J)))).set u (some (.eF C (.mapIter (some p) j K j))))) (by first|rfl|(rw [ag.set_set]; rfl)|(funext n_; simp only [ag.set]; (repeat' split)<;>first|rfl|(exfalso; simp_all; done)|(simp_all; done))) ?_
   refine ah.cond rfl (fun L=>by cases L) fun _=>?_;refine ah.exit ?_;exact ax _ J (cR.toFA (by(intro F aL q); (have aN:F≠u:=fun y=>by rw [y] at q; simp [ag.set,w,aE,aC] at q); (rw [<- q]); (simp only [ag.set,if_neg aN]); (first|done|rfl))) b
  obtain⟨r,ab⟩:=m.told _ (vC E).1;have b:=ab;simp only at b;unfold Bt at b;refine hq (((H.set g (some (.tok 1 0))).set i (some (.eF p (.map (mE W).toArray j)))).set u (some (.eF C (.mapIter (some p) j (K.push Y) j)))) ?_;refine S EX (nil ?_);refine X _ ?_;refine ay fun aK Z=>?_;refine ah.cond rfl (fun _=>?_) (fun L=>by cases L)
  refine ah.skip ?_;refine Z _ ?_;refine block ?_;refine aa ?_;refine s0 (NE (id:=i) rfl aJ aJ (vC E).1 m.pop.nodup (m.pop.len _ (List.mem_map_of_mem (vC E).1))) rfl ?_;refine S EX (S As (nil ?_));refine aa (S Ld (S Mv ?_));obtain⟨a',aO,b⟩:=bO b;refine Sc rfl rfl (rY aO) ?_;refine S Mv (S EX (S EX ?_));refine Sl ?_;refine Sf ?_;refine S As (nil ?_)
  refine bH 13 _ rfl (KA 1 (KA 2 (KA 5 (KA 7 (KA 12 (KA 14 (KA 61 aU.nil))))))) ?_;refine aa (S Mv (S NB (S Mv (G0 Fv ?_))));refine G1 75 rfl Ld ?_;refine G1 76 rfl BI ?_;refine S PO (S Mv (G0 Fv ?_));refine G1 80 rfl Ld ?_;refine G1 81 rfl BI ?_;refine G1 82 rfl Mv ?_;refine G0 Ld (G0 Mv ?_);obtain⟨ba,aQ,b⟩:=gO b;refine fq 84 85 rfl rfl rfl rfl rfl rfl (fun hC=>Qr (aQ hC)) ?_
  refine G1 86 rfl NB ?_;refine gC rfl rfl (fun hC=>aI (k:=83) rfl (gF rfl rfl rfl)) rfl ?_;refine S PO (nil ?_);refine cE b (fun aR b=>?_) (fun aR b=>?_)
  ·cases b
  refine ah.skip ?_;obtain rfl:=oJ b;obtain⟨aS,aT⟩:=m.keep E ab;exact aG _ (W,K.push Y) wA aS aT
 rintro aV b;try dsimp only at b
 unfold Br at b;refine aa (S As (nil ?_));refine ah.fH 15 1 g rfl aJ ?_;refine aP kN (fun(z:(Sl Bs)×(List Bs))=>[(15,.a (.d (Sl.d 1 aM (some g) z.1)))]) (fun z=>((H.set g (some (.tok 1 z.1.l.length))).set i (some (.map (fm z.2))))) (fun z=>Bq z.1 z.2=some r) ?_ ?_
 ·intro bb aW;refine aa (S Fv (S Ld ?_));refine sLen (f:=az.c) (s:=o.aD) (TK rfl) rfl rfl rfl rfl fun bc=>?_;refine S Mv (nil ?_);refine block ?_;refine bD (TA 7 (TA 93 (TA 94 kN))) (fun(z:Nat×(Sl Bs)×Nat×(List Bs))=>[(15,.a (.d (Sl.d 1 aM (some g) z.2.1))),(95,.a (.d (.int .i64 ((z.2.2.1:Nat):Int))))]) (fun z=>((H.set g (some (.tok 1 z.2.1.l.length))).set i (some (.map (fm z.2.2.2))))) (fun z=>z.1) (fun z=>r_ o z.1 z.2.1 z.2.2.1 z.2.2.2=some r) ((o.aD.l.length+1),(Sl.nil:Sl Bs),0,aV) b wA ?_
  rintro ⟨G,ad,M,B⟩ b bd aX;try dsimp only at b
  cases G with
  | zero=>cases b
  | succ G =>
    rw [r_] at b;refine aa (S BI (nil ?_));refine ay fun aY ae=>?_;refine cE b (fun N b=>?_) (fun N b=>?_)
    ·try dsimp only at N
     have be:=oD N;refine sk ae ?_;clear ae aY;refine aP (TA 7 (TA 93 (TA 94 (TA 95 kN)))) (fun(z:(Sl Bs)×(List Bs))=>[(15,.a (.d (Sl.d 1 aM (some g) z.1)))]) (fun z=>((H.set g (some (.tok 1 z.1.l.length))).set i (some (.map (fm z.2))))) (fun z=>wO M ((r_ o G)) z.1 z.2=some r) ?_ ?_
     ·intro bf af;refine block ?_;refine aa ?_;obtain⟨aj,aZ,b⟩:=bO b;refine S (ix az.c M aZ) (S Ld ?_);refine Sl ?_;refine Sf ?_;refine nil ?_;refine bH 17 _ rfl (KA 7 (KA 15 (KA 93 (KA 94 (KA 95 aU.nil))))) ?_;refine aa (S Mv (S Fv (S Ld ?_)));refine s0 (MY (TK rfl) rfl (TK rfl) (TK rfl) rfl rfl rfl rfl aJ) rfl ?_;refine nil ?_;refine cE b (fun a0 b=>?_) (fun a0 b=>?_)
      ·refine aa (S Mv (S Fv (S Ld (S BV ?_))));obtain⟨O,a1,b⟩:=bO b;refine SH (am aM (TK rfl) rfl (TK rfl) (TK rfl) a1) ?_;refine hq ((H.set g (some (.tok 1 O.l.length))).set i (some (.map (fm B)))) ?_;refine S As (nil ?_);refine region ?_;refine S Mv (S Fv (S Ld ?_));refine iK (NC (TK rfl) rfl (TK rfl) rfl rfl rfl rfl aJ) rfl rfl ?_;refine hq ((H.set g (some (.tok 1 O.l.length))).set i (some (.map (fm (List.erase B aj.ai))))) ?_
       refine nil ?_;exact af _ (O,(List.erase B aj.ai)) wA b
      refine ah.skip ?_;exact af _ (ad,B) wA b
     rintro ⟨a2,a3⟩ b;try dsimp only at b
     unfold wO at b;refine region ?_;refine SI ?_;refine S Mv (nil ?_);exact aX _ (G,a2,(M+1),a3) wA b (nS _)
    refine ah.exit ?_;exact aW _ (ad,B) wA b
 rintro ⟨bg,bh⟩ b;try dsimp only at b
 unfold Bq at b;refine aa (S Mv (S As (nil ?_)));refine ah.f_ 4 rfl ?_;refine ah.ret ?_;repeat (first|refine bM ?_|refine bN ?_)
 obtain rfl:=oJ b;refine bF.bK H rfl ⟨rfl,rfl⟩ ?_;intro F aL q;have bi:F≠g:=fun y=>by subst y; simp_all [ag.set]
 have bj:F≠i:=fun y=>by subst y; simp_all [ag.set]
 rw [<- q];simp only [ag.set] at q ⊢
 (repeat' split)<;>simp_all
def kX (f:(Sl Int)):List Int->Nat->Option (Unit ⊕ Bool)
 | [],b=>some (Sum.inl ())
 | g::i,b=>on (g) fun j=>(f.l[b]?).bind fun k=>bif (!decide (j=k)) then(some (Sum.inr false)) else(kX f (i) (b+1) )
def qe (b:(Sl Int)) (f:(Sl Int)):Option Bool:=bif (!decide (((b.l.length:Nat):Int)=((f.l.length:Nat):Int))) then(some false) else(Option.bind (kX f b.l 0 ) fun g=>match g with|Sum.inl _=>(on (()) fun _=>some true)|Sum.inr i=>(some i))
def Bu (b:(Sl Int)) (f:(Sl Int)):Option Bool:=qe b f
theorem Qt (a0:(Sl Int)) (a1:(Sl Int)):Bu a0 a1=qe a0 a1:=rfl
theorem Qu {g i:Sl Int}{w0 w:Option Nat}{r:Bool}(b:Bu g i=some r) (H:ag) :AC Tryz.prog 83 [.d (Sl.d 1 (bE .i64) w0 g),.d (Sl.d 1 (bE .i64) w i)] H fun v h'=>v=.a (.d (.bool r))/\h'=H:=by
 unfold Bu qe at b;refine AC.oW 26 [.tmp 4] Tryz.call83 Tryz.func83 ?_;refine aa (S As (nil ?_));refine ay fun x m=>?_;refine aa (S Mv ?_);refine sLen (f:=(bE .i64)) (s:=g) (TK rfl) rfl rfl rfl rfl fun L=>?_;refine S Mv ?_;refine sLen (f:=(bE .i64)) (s:=i) (TK rfl) rfl rfl rfl rfl fun M=>?_;refine S BI (nil ?_);refine cE b (fun y b=>?_) (fun y b=>?_)
 ·refine aa (S As (nil ?_));exact rt b
 refine sk m ?_;clear m x;refine aP kN (fun(z:Unit)=>[]) (fun z=>H) (fun z=>(some true)=some r) ?_ ?_
 ·intro N B;refine aa (S Mv ?_);refine sLen (f:=(bE .i64)) (s:=g) (TK rfl) rfl rfl rfl rfl fun O=>?_;refine S Mv (nil ?_);refine block ?_;obtain⟨o,p,b⟩:=cG b;refine bD (TA 0 (TA 1 (TA 12 kN))) (fun(z:Nat)=>[(13,.a (.d (.int .i64 ((z:Nat):Int))))]) (fun z=>H) (fun z=>g.l.length-z) (fun z=>Option.bind (kX i (g.l.drop z) z ) o=some r) 0 b wA ?_;rintro j b P C
  try dsimp only at b
  refine aa (S BI (nil ?_));refine ay fun E q=>?_;refine ah.cL (fun l=>Option.bind (kX i l j ) o=some r) b rfl (fun Q t k b=>?_) (fun k b=>?_)
  ·rw [kX] at b;try dsimp only at k
   have R:=oD k;refine sk q ?_;clear q E;refine ay fun F u=>?_;refine block ?_;refine aa (S Mv (S As (nil ?_)));refine ah.cH (Sd Mv (Sd Mv ?_));obtain⟨U,G,b⟩:=vO t b;refine Sd (ix (bE .i64) j G) ?_;refine Sd Ld (Sd Mv (Sd Mv ?_));obtain⟨W,I,b⟩:=qO rfl b;refine Sd (ix (bE .i64) j I) ?_;refine Sd Ld (Sd BI ?_);refine au.nil (by decide +kernel) ?_
   refine cO b (fun J b=>?_) (fun J b=>?_)
   ·refine aa (S As (nil ?_));refine ah.ret ?_;repeat (first|refine bM ?_|refine bN ?_)
    have b:=ku p b;obtain rfl:=oJ b;refine bF.bK H rfl ⟨rfl,rfl⟩ ?_;exact(fun _ _ h=>h)
   refine sk u ?_;clear u F;refine region ?_;refine SI ?_;refine S Mv (nil ?_);exact C _ (j+1) wA b (dl t)
  rw [kX] at b;have b:=ku p b;try dsimp only at b
  refine ah.exit ?_;obtain⟨X,K,b⟩:=cC b;have b:=ku K b;exact B _ () wA b
 rintro _ b;try dsimp only at b
 refine aa (S As (nil ?_));exact rt b
def sg (b:aB) (f:aB):Option Bool:=aQ (((b.ai==f.ai))) (qe b.aX f.aX) false fun g=>some (((b.ai==f.ai))&&g)
def wR (b:aB) (f:aB):Option Bool:=sg b f
theorem Qv (a0:aB) (a1:aB):wR a0 a1=sg a0 a1:=rfl
theorem HQ {f g:aB}{r:Bool}(b:wR f g=some r) (H:ag) :AC Tryz.prog 42 [.agg (aB.c f),.agg (aB.c g)] H fun v h'=>v=.a (.d (.bool r))/\h'=H:=by
 unfold wR sg at b;refine AC.oW 17 [.tmp 4] Tryz.call42 Tryz.func42 ?_;refine aa (S BX (S BX (S As (nil ?_))));refine aa (S Fv (S Ld (S Fv (S Ld (S BS (S Mv (G0 Fv ?_)))))));refine G1 11 rfl Ld ?_;refine G0 Fv ?_;refine G1 13 rfl Ld ?_;obtain⟨j,i,b⟩:=dB (Qt _ _) b;refine fq 12 14 rfl rfl rfl rfl rfl rfl (fun hC=>Qu (i hC)) ?_;refine S PA (S As (nil ?_));exact rt b
def wS (b:(Sl Int)):Option (Sl Int):=bif b.nl then(some (Sl.nil:Sl Int)) else(none)
theorem HR {f:Sl Int}{w0:Option Nat}{r:Sl Int}(b:wS f=some r) (H:ag) :AC Tryz.prog 162 [.d (Sl.d 1 (bE .i64) w0 f)] H fun v h'=>v=.a (.d (Sl.d 1 (bE .i64) none r))/\h'=H:=by
 unfold wS at b;refine AC.oW 8 [.tmp 2] Tryz.call162 Tryz.func162 ?_;refine aa ?_;refine s0 (fJ (k':=1) rfl) rfl ?_;refine nil ?_;refine ay fun i j=>?_;refine aa (S Mv ?_);refine s0 (Fk (TK rfl) rfl rfl) rfl ?_;refine nil ?_;refine cE b (fun g b=>?_) (fun g b=>?_)
 ·refine aa ?_;refine s0 (fJ (k':=1) rfl) rfl ?_;refine nil ?_;exact rt b
 cases b
def wT (b:aB):Bool:=on (bif (decide ((0:Int)<((b.aX.l.length:Nat):Int))) then((b.aX.l)[0]?.getD (0:Int)) else(0:Int)) fun f=>((decide ((0:Int)<((b.aX.l.length:Nat):Int)))&&(decide (f=(1:Int))))
def wU (b:aB):Option Bool:=some (wT b)
theorem HS {g:aB}{r:Bool}(b:wU g=some r) (H:ag) :AC Tryz.prog 173 [.agg (aB.c g)] H fun v h'=>v=.a (.d (.bool r))/\h'=H:=by
 unfold wU wT at b;refine AC.oW 14 [.tmp 2] Tryz.call173 Tryz.func173 ?_;refine aa (S BX (S As (nil ?_)));refine aa (S Fv (S Ld ?_));refine sLen (f:=(bE .i64)) (s:=g.aX) (TK rfl) rfl rfl rfl rfl fun j=>?_;refine S BI (S Mv (G0 Fv ?_));refine G1 8 rfl Ld ?_;obtain⟨l,i,b⟩:=mw (fun hc=>Q.getD_some (by simp at hc; omega)) b;refine gC rfl rfl (fun hC=>aI (k:=9) rfl (eO (f:=(bE .i64)) (n:=0) (TK rfl) rfl (TK rfl) rfl rfl rfl (i hC))) rfl ?_
 refine G1 10 rfl Ld ?_;refine G1 11 rfl BI ?_;refine S PA (S As (nil ?_));exact rt b
def Bv (g:aB)  (b:(Sl Int)):Option aB:=(wS b).bind fun f=>some (aB.mk g.ai f)
def wV (b:aB):Option aB:=(wU b).bind fun f=>bif f then(none) else(Bv b  b.aX)
theorem Qw {f r:aB}(b:wV f=some r) (H:ag) :AC Tryz.prog 165 [.agg (aB.c f)] H fun v h'=>v=.a (.agg (aB.c r))/\h'=H:=by
 unfold wV at b;refine AC.oW 15 [.cell 2 50] Tryz.call165 Tryz.func165 ?_;refine aa (S BX ?_);refine Sl ?_;refine nil ?_;refine aa (S Fv (S Ld (S As (nil ?_))));refine aP (TA 1 (TA 2 kN)) (fun(z:(Sl Int))=>[(3,.a (.d (Sl.d 1 (bE .i64) none z)))]) (fun z=>H) (fun z=>Bv f z=some r) ?_ ?_
 ·intro l g;refine aa (S Ld ?_);obtain⟨m,i,b⟩:=bO b;refine Sc rfl rfl (HS i) ?_;refine nil ?_;refine cE b (fun j b=>?_) (fun j b=>?_)
  ·cases b
  refine ah.skip ?_;exact g _ f.aX wA b
 rintro o b;try dsimp only at b
 unfold Bv at b;refine ah.cH (Sd Fv (Sd Ld (Sd Mv ?_)));obtain⟨p,k,b⟩:=bO b;refine cN rfl rfl (HR k) ?_;refine Sd BU ?_;refine au.dU (eA (TK rfl) rfl rfl rfl rfl rfl) ?_;refine au.nil (by decide +kernel) ?_;exact rt b
def HT (b:aB):Option aB:=wV b
theorem Qx (a0:aB):wV a0=HT a0:=rfl
def HU (g:aB):Option Bool:=(HT g).bind fun b=>on (bif (decide ((0:Int)<((b.aX.l.length:Nat):Int))) then((b.aX.l)[0]?.getD (0:Int)) else(0:Int)) fun f=>some ((decide ((0:Int)<((b.aX.l.length:Nat):Int)))&&(decide (f=(2:Int))))
def Bw (b:aB):Option Bool:=HU b
theorem Qy {g:aB}{r:Bool}(b:Bw g=some r) (H:ag) :AC Tryz.prog 106 [.agg (aB.c g)] H fun v h'=>v=.a (.d (.bool r))/\h'=H:=by
 unfold Bw HU at b;refine AC.oW 16 [.tmp 2] Tryz.call106 Tryz.func106 ?_;refine aa ?_;refine sL (yW rfl (by repeat (first|exact bT.nil|apply bT.cons))) rfl ?_;refine S As (nil ?_);refine aa (S LL ?_);obtain⟨i,j,b⟩:=qT (Qx _) b;refine Sc rfl rfl (Qw j) ?_;refine Sf ?_;refine nil ?_;refine aa (S FL (S LL ?_));refine sLen (f:=(bE .i64)) (s:=i.aX) (TK rfl) rfl rfl rfl rfl fun m=>?_
 refine S BI (S Mv (G0 FL ?_));refine gC rfl rfl (fun hC=>zh (k:=10) rfl (vj (TK rfl) rfl rfl rfl rfl)) rfl ?_;obtain⟨o,l,b⟩:=q8 (fun hc=>Q.getD_some (by simp at hc; omega)) b;refine gC rfl rfl (fun hC=>aI (k:=11) rfl (eO (f:=(bE .i64)) (n:=0) (TK rfl) rfl (TK rfl) rfl rfl rfl (l hC))) rfl ?_;refine G1 12 rfl Ld ?_;refine G1 13 rfl BI ?_;refine S PA (S As (nil ?_));exact rt b
def Bx  :Option Bool:=some true
def wW (g:Bs) :Nat->Nat->Option Bool
 | 0,_=>none
 | i+1,f=>bif (decide (((f:Nat):Int)<((g.length:Nat):Int))) then((g[f]?).bind fun b=>bif (!(((((decide ((97:Int)<=((b.toNat:Nat):Int)))&&(decide (((b.toNat:Nat):Int)<=(122:Int))))||((decide ((65:Int)<=((b.toNat:Nat):Int)))&&(decide (((b.toNat:Nat):Int)<=(90:Int)))))||((decide ((48:Int)<=((b.toNat:Nat):Int)))&&(decide (((b.toNat:Nat):Int)<=(57:Int)))))||(decide (((b.toNat:Nat):Int)=(95:Int))))) then(none) else((wW g i) (f+1))) else(Bx   )
def wX (b:Bs):Option Bool:=aQ (!(((b==([]:Bs)))||(decide ((64:Int)<((b.length:Nat):Int))))) (b[0]?) (0:UInt8) fun f=>aQ ((!(((b==([]:Bs)))||(decide ((64:Int)<((b.length:Nat):Int))))&&(decide ((48:Int)<=((f.toNat:Nat):Int))))) (b[0]?) (0:UInt8) fun g=>bif ((((b==([]:Bs)))||(decide ((64:Int)<((b.length:Nat):Int))))||((decide ((48:Int)<=((f.toNat:Nat):Int)))&&(decide (((g.toNat:Nat):Int)<=(57:Int))))) then(none) else(wW b (b.length+1) 0)
theorem Qz {f:Bs}{r:Bool}(b:wX f=some r) (H:ag) :AC Tryz.prog 168 [.d (.str f)] H fun v h'=>v=.a (.d (.bool r))/\h'=H:=by
 unfold wX at b;refine AC.oW 58 [.tmp 2] Tryz.call168 Tryz.func168 ?_;refine aa (S As (nil ?_));refine ay fun p j=>?_;refine aa (S Mv (S BS (S Mv (G0 Mv ?_))));refine gC rfl rfl (fun hC=>aI (k:=8) rfl (vl (TK rfl) rfl rfl rfl)) rfl ?_;refine G1 9 rfl BI ?_;refine S PO (S Mv (G0 Mv ?_));obtain⟨E,q,b⟩:=gO b;refine gC rfl rfl (fun hC=>aI (k:=13) rfl (mm (n:=0) (TK rfl) rfl rfl rfl (q hC))) rfl ?_
 refine G1 14 rfl BI ?_;refine G1 15 rfl Mv ?_;refine G0 Mv ?_;obtain⟨F,s,b⟩:=gO b;refine gC rfl rfl (fun hC=>aI (k:=17) rfl (mm (n:=0) (TK rfl) rfl rfl rfl (s hC))) rfl ?_;refine G1 18 rfl BI ?_;refine gC rfl rfl (fun hC=>aI (k:=16) rfl (gF rfl rfl rfl)) rfl ?_;refine S PO (nil ?_);refine cE b (fun t b=>?_) (fun t b=>?_)
 ·cases b
 refine sk j ?_;clear j p;refine aP kN (fun(z:Unit)=>[]) (fun z=>H) (fun z=>Bx =some r) ?_ ?_
 ·intro G u;refine aa (S Mv ?_);refine kE (TK rfl) rfl rfl rfl rfl fun I=>?_;refine S Mv (nil ?_);refine block ?_;refine bD (TA 0 (TA 23 kN)) (fun(z:Nat×Nat)=>[(24,.a (.d (.int .i64 ((z.2:Nat):Int))))]) (fun z=>H) (fun z=>z.1) (fun z=>wW f z.1 z.2=some r) ((f.length+1),0) b wA ?_;rintro ⟨g,l⟩ b J w;try dsimp only at b
  cases g with
  | zero=>cases b
  | succ g =>
    rw [wW] at b;refine aa (S BI (nil ?_));refine ay fun x m=>?_;refine cE b (fun i b=>?_) (fun i b=>?_)
    ·try dsimp only at i
     have K:=oD i;refine sk m ?_;clear m x;refine ay fun y o=>?_;refine block ?_;refine aa (S Mv (S As (nil ?_)));refine aa (S Mv (S Mv ?_));obtain⟨L,B,b⟩:=bO b;refine s0 (mm (n:=l) (TK rfl) rfl rfl rfl B) rfl ?_;refine S As (nil ?_);refine aa (S Mv (S BI (S Mv (G0 Mv ?_))));refine G1 33 rfl BI ?_;refine S PA (S Mv (G0 Mv ?_));refine G1 37 rfl BI ?_
     refine G1 38 rfl Mv ?_;refine G0 Mv ?_;refine G1 40 rfl BI ?_;refine gC rfl rfl (fun hC=>aI (k:=39) rfl (gF rfl rfl rfl)) rfl ?_;refine S PO (S Mv (G0 Mv ?_));refine G1 45 rfl BI ?_;refine G1 46 rfl Mv ?_;refine G0 Mv ?_;refine G1 48 rfl BI ?_;refine gC rfl rfl (fun hC=>aI (k:=47) rfl (gF rfl rfl rfl)) rfl ?_;refine S PO (S Mv (G0 Mv ?_));refine G1 53 rfl BI ?_;refine S PO (S NB (nil ?_))
     refine cE b (fun C b=>?_) (fun C b=>?_)
     ·cases b
     refine sk o ?_;clear o y;refine region ?_;refine SI ?_;refine S Mv (nil ?_);exact w _ (g,(l+1)) wA b (nS _)
    refine ah.exit ?_;exact u _ () wA b
 rintro _ b;try dsimp only at b
 unfold Bx at b;refine aa (S As (nil ?_));exact rt b
def HV (b:Bs):Option Bool:=wX b
theorem QA (a0:Bs):wX a0=HV a0:=rfl
def ug (f:Bs) (b:Bs):Bool:=on (bif (decide (((b.length:Nat):Int)<=((f.length:Nat):Int))) then(List.take (b.length) f) else([]:Bs)) fun g=>((decide (((b.length:Nat):Int)<=((f.length:Nat):Int)))&&((g==b)))
def By (b:Bs) (f:Bs):Option Bool:=some (ug b f)
theorem QB (a0:Bs) (a1:Bs):By a0 a1=some (ug a0 a1):=rfl
theorem QC {g f:Bs}{r:Bool}(b:By g f=some r) (H:ag) :AC Tryz.prog 239 [.d (.str g),.d (.str f)] H fun v h'=>v=.a (.d (.bool r))/\h'=H:=by
 unfold By ug at b;refine AC.oW 18 [.tmp 4] Tryz.call239 Tryz.func239 ?_;refine aa (S As (nil ?_));refine aa (S Mv ?_);refine kE (TK rfl) rfl rfl rfl rfl fun j=>?_;refine S Mv ?_;refine kE (TK rfl) rfl rfl rfl rfl fun m=>?_;refine S BI (S Mv (G0 Mv (G0 Mv ?_)));refine gC rfl rfl (fun hC=>aI (k:=12) rfl (vl (TK rfl) rfl rfl rfl)) rfl ?_;obtain⟨o,i,b⟩:=mw (fun hc=>Q.Of (by simp at hc; omega)) b
 refine gC rfl rfl (fun hC=>aI (k:=11) rfl (aI (k:=13) rfl (M_ (l:=none) (r:=(some ((f.length:Nat):Int))) (TK rfl) rfl rfl trivial rfl (by simp) (i hC)))) rfl ?_;refine G0 Mv ?_;refine G2 14 15 rfl rfl BS ?_;refine S PA (S As (nil ?_));exact rt b
def uh (f:Bs) (g:Bs):Bool:=on (ug f g) fun b=>b
def Bz (b:Bs) (f:Bs):Option Bool:=some (uh b f)
theorem QD (a0:Bs) (a1:Bs):Bz a0 a1=some (uh a0 a1):=rfl
theorem QE {f g:Bs}{r:Bool}(b:Bz f g=some r) (H:ag) :AC Tryz.prog 211 [.d (.str f),.d (.str g)] H fun v h'=>v=.a (.d (.bool r))/\h'=H:=by
 unfold Bz uh at b;refine AC.oW 8 [.tmp 4] Tryz.call211 Tryz.func211 ?_;refine aa (S As (nil ?_));refine aa (S Mv (S Mv ?_));obtain⟨j,i,b⟩:=vP (QB _ _) b;refine Sc rfl rfl (QC i) ?_;refine S As (nil ?_);exact rt b
def qf (f:Bs):Bool:=on (uh f ([95,95]:Bs)) fun b=>b
def BA (b:Bs):Option Bool:=some (qf b)
theorem QG (a0:Bs):BA a0=some (qf a0):=rfl
theorem QH {f:Bs}{r:Bool}(b:BA f=some r) (H:ag) :AC Tryz.prog 169 [.d (.str f)] H fun v h'=>v=.a (.d (.bool r))/\h'=H:=by
 unfold BA qf at b;refine AC.oW 5 [.tmp 2] Tryz.call169 Tryz.func169 ?_;refine aa (S As (nil ?_));refine aa (S Mv ?_);obtain⟨i,g,b⟩:=vP (QD _ _) b;refine Sc rfl rfl (QE g) ?_;refine S As (nil ?_);exact rt b
def HW (f:Bs):Option Bool:=(HV f).bind fun b=>on (bif b then qf f else false) fun g=>some (b&&(!g))
def BB (b:Bs):Option Bool:=HW b
theorem QI {f:Bs}{r:Bool}(b:BB f=some r) (H:ag) :AC Tryz.prog 108 [.d (.str f)] H fun v h'=>v=.a (.d (.bool r))/\h'=H:=by
 unfold BB HW at b;refine AC.oW 10 [.tmp 2] Tryz.call108 Tryz.func108 ?_;refine aa (S As (nil ?_));refine aa (S Mv ?_);obtain⟨j,g,b⟩:=qT (QA _) b;refine Sc rfl rfl (Qz g) ?_;refine S Mv (G0 Mv ?_);obtain⟨k,i,b⟩:=q8 (fun _=>(QG _)) b;refine dH 6 rfl rfl rfl rfl rfl (fun hC=>QH (i hC)) ?_;refine G1 7 rfl NB ?_;refine S PA (S As (nil ?_));exact rt b
def HX  (b:Z6):Option (Z6×Bool):=some ((Z6.mk ([]:Bs) (Sl.nil:Sl Z8) aB.zero (Sl.nil:Sl aN)),false)
def BC (g:az) (i:Bs) :Nat->Nat->Z6->Option (Z6×Bool)
 | 0,_,_=>none
 | j+1,b,k=>bif (decide (((b:Nat):Int)<((g.br.l.length:Nat):Int))) then((g.br.l[b]?).bind fun f=>bif ((f.ai==i)) then(some (f,true)) else(none)) else(none)
def wY (b:az) (f:Bs):Option (Z6×Bool):=BC b f (b.br.l.length+1) 0 Z6.zero
theorem HY {g:az}{j:Bs}{r:Z6×Bool}(b:wY g j=some r) (H:ag) :AC Tryz.prog 109 [.agg (az.c g),.d (.str j)] H fun v h'=>v=.dM [.agg (Z6.c r.1),.d (.bool r.2)]/\h'=H:=by
 unfold wY at b;refine AC.oW 22 [.cell 4 104,.tmp 5] Tryz.call109 Tryz.func109 ?_;refine aa (S BX ?_);refine Sl ?_;refine S As (nil ?_);refine fO (TA 4 kN) (fun(z:Z6)=>[]) (fun z=>[Z6.c z]) (fun z=>H) (fun z=>HX z=some r) ?_ ?_
 ·intro u w;refine aa (S Fv (S Ld ?_));refine sLen (f:=Z6.c) (s:=g.br) (TK rfl) rfl rfl rfl rfl fun x=>?_;refine S Mv (nil ?_);refine block ?_;refine jf (TA 1 (TA 4 (TA 9 (TA 10 kN)))) (fun(z:Nat×Nat×Z6)=>[(11,.a (.d (.int .i64 ((z.2.1:Nat):Int))))]) (fun z=>[Z6.c z.2.2]) (fun z=>H) (fun z=>z.1) (fun z=>BC g j z.1 z.2.1 z.2.2=some r) ((g.br.l.length+1),0,Z6.zero) b wA ?_
  rintro ⟨k,o,y⟩ b B C;try dsimp only at b
  cases k with
  | zero=>cases b
  | succ k =>
    rw [BC] at b;refine aa (S BI (nil ?_));refine ay fun p m=>?_;refine cE b (fun i b=>?_) (fun i b=>?_)
    ·try dsimp only at i
     have E:=oD i;refine sk m ?_;clear m p;refine ay fun F G=>?_;refine block ?_;refine aa ?_;obtain⟨I,q,b⟩:=bO b;refine S (ix Z6.c o q) (S Ld ?_);refine Sl ?_;refine Sf ?_;refine nil ?_;refine bH 7 _ rfl (KA 1 (KA 4 (KA 9 (KA 10 (KA 11 aU.nil))))) ?_;refine aa (S Fv (S Ld (S Mv (S BS (nil ?_)))));refine cE b (fun t b=>?_) (fun t b=>?_)
     ·refine aa (S Ld ?_);refine Sf ?_;refine S As (nil ?_);exact rt b
     cases b
    cases b
 rintro J b;try dsimp only at b
 unfold HX at b;refine aa (S BU ?_);refine Sf ?_;refine S As (nil ?_);exact rt b
def BD (f:(Sl ax))  (b:Int):Option Bool:=some (decide (b=((f.l.length:Nat):Int)))
def BE (g:(Sl Z8)) (i:(Sl ax)) :Nat->Nat->Nat->Option Bool
 | 0,_,_=>none
 | j+1,b,f=>bif (decide (((f:Nat):Int)<((g.l.length:Nat):Int))) then(none) else(BD i  ((b:Nat):Int))
def BF (g:ar) (b:(Sl Z8)) (f:(Sl ax)):Option Bool:=BE b f (b.l.length+1) 0 0
theorem QJ {m:ar}{g:Sl Z8}{i:Sl ax}{o p:Option Nat}{r:Bool}(b:BF m g i=some r) (H:ag) :AC Tryz.prog 110 [.agg (ar.c m),.d (Sl.d 10 Z8.c o g),.d (Sl.d 6 ax.c p i)] H fun v h'=>v=.a (.d (.bool r))/\h'=H:=by
 unfold BF at b;refine AC.oW 92 [.tmp 6] Tryz.call110 Tryz.func110 ?_;refine aa (S BX (S As (nil ?_)));refine aa (S As (nil ?_));refine aP (TA 2 kN) (fun(z:Int)=>[(7,.a (.d (.int .i64 z)))]) (fun z=>H) (fun z=>BD i z=some r) ?_ ?_
 ·intro u q;refine aa (S Mv ?_);refine sLen (f:=Z8.c) (s:=g) (TK rfl) rfl rfl rfl rfl fun w=>?_;refine S Mv (nil ?_);refine block ?_;refine bD (TA 1 (TA 2 (TA 3 (TA 14 (TA 15 kN))))) (fun(z:Nat×Nat×Nat)=>[(7,.a (.d (.int .i64 ((z.2.1:Nat):Int)))),(16,.a (.d (.int .i64 ((z.2.2:Nat):Int))))]) (fun z=>H) (fun z=>z.1) (fun z=>BE g i z.1 z.2.1 z.2.2=some r) ((g.l.length+1),0,0) b wA ?_
  rintro ⟨k,t,x⟩ b y B;try dsimp only at b
  cases k with
  | zero=>cases b
  | succ k =>
    rw [BE] at b;refine aa (S BI (nil ?_));refine ay fun C E=>?_;refine cE b (fun j b=>?_) (fun j b=>?_)
    ·try dsimp only at j
     have F:=oD j;cases b
    refine ah.exit ?_;exact q _ ((t:Nat):Int) wA b
 rintro G b;try dsimp only at b
 unfold BD at b;refine aa (S Mv (S Mv ?_));refine sLen (f:=ax.c) (s:=i) (TK rfl) rfl rfl rfl rfl fun I=>?_;refine S BI (S As (nil ?_));exact rt b
end Go.Proofs
