import Derived.Test.YtbghdiaepdaaeaaGreatDoorV3
set_option maxRecDepth 100000
set_option maxHeartbeats 2000000
set_option linter.unusedVariables false
set_option linter.unusedSimpArgs false
namespace Go.Proofs
open Go Go.Ab
open aQ ar ag aS dY
variable {ak:bf}
def iB (k:az) (m:Int) (g:Z4->az->aa->Int->Option (aa×Z4)):List aa->Z4->aa->Option ((Z4×aa))
 | [],f,b=>some (f,b)
 | o::p,f,b=>bif (decide (f.cQ=(0:Int))) then(on (o) fun q=>(bG m (1:Int)).bind fun r=>(g f k q r).bind fun i=>(aZ 80 b.av (⟨false,[i.1]⟩:Sl aa)).bind fun j=>iB k m g (p) i.2 (aa.mk b.an b.aV b.aR j.nl j.l b.aF)) else(some (f,b))
def iC (f:ax):List Bs->Z4->Z4
 | [],b=>b
 | g::i,b=>on (g) fun j=>on (iI f.bl j) fun k=>on (bif (!k.2) then(on (eV b (22:Int)) fun l=>l) else(b)) fun m=>iC f (i) m
def gp (u:ax) (v:aa) (m:Int) (o:Z4->az->aa->Int->Option (aa×Z4)) (p:Z4->az->aa->Int->Option (aa×Z4)):List Z8->Nat->Z4->aa->Option ((Z4×aa))
 | [],j,b,f=>some (b,f)
 | w::x,j,b,f=>bif (decide (b.cQ=(0:Int))) then(on (w) fun g=>(qL u.bl ((j:Nat):Int)).bind fun y=>Option.bind (bif y then(some (b,f)) else((jC v g.ai).bind fun i=>aN (i.2) (kw b i.1) false fun z=>on (fun(B:Z4) (C:aa)=>(aZ 16 f.aF (⟨false,[g.ai]⟩:Sl Bs)).bind fun E=>(aZ 80 f.av (⟨false,[C]⟩:Sl aa)).bind fun q=>some (B,(aa.mk f.an f.aV f.aR q.nl q.l E))) fun k=>bif (i.2&&(!z)) then((bG m (1:Int)).bind fun F=>(o b g.aJ i.1 F).bind fun r=>k r.2 r.1) else(bif g.c_ then((bG m (1:Int)).bind fun G=>(p b g.aJ g.dy G).bind fun s=>k s.2 s.1) else(on (fh g.aJ) fun H=>bif H then(on (eV b (22:Int)) fun I=>k I aa.zero) else(some (b,f)))))) fun t=>gp u v m o p (x) (j+1) t.1 t.2) else(some (b,f))
mutual
def eC:Nat->Z4->az->aa->Int->Option (aa×Z4)
 | 0,_,_,_,_=>none
 | n+1,f,g,l,j=>on (iJ f.Fd g.ai) fun v=>bif (!v) then(on (eV f (10:Int)) fun w=>some ((aa.mk (0:Int) (0:Int) ([]:Bs) true ([]) (Sl.nil:Sl Bs)),w)) else(on (fun(x:Z4) (i:aa)=>(kz x j).bind fun b=>bif (!decide (b.cQ=(0:Int))) then(some ((aa.mk (0:Int) (0:Int) ([]:Bs) true ([]) (Sl.nil:Sl Bs)),b)) else(bif (decide (i.an=(0:Int))) then(on (fh g) fun y=>on (bif y then(on (eV b (23:Int)) fun z=>z) else(b)) fun B=>some ((aa.mk (0:Int) (0:Int) ([]:Bs) true ([]) (Sl.nil:Sl Bs)),B)) else((kg g).bind fun m=>bif m.2 then(((l9 n) b m.1 i j).bind fun o=>some (o.1,o.2)) else(on (iS g.ai) fun C=>bif C then((jD b g.ai i).bind fun p=>some (p.1,p.2)) else(on (cU b.Fd g.ai) fun k=>bif (decide (k.1.an=(4:Int))) then(on (kC b k.1 i) fun q=>some (q.1,q.2)) else(((l_ n) b k.1 i j).bind fun r=>some (r.1,r.2))))))) fun s=>bif (f.f_&&(decide (l.an=(7:Int)))) then((jC f.dD l.aR).bind fun t=>bif (!decide (t.1.an=(0:Int))) then((xG f t.1 j).bind fun u=>some (u.1,u.2)) else(s f (aa.mk (0:Int) (0:Int) ([]:Bs) true ([]) (Sl.nil:Sl Bs)))) else(s f l))
def l9:Nat->Z4->az->aa->Int->Option (aa×Z4)
 | 0,_,_,_,_=>none
 | n+1,j,k,b,m=>on (bif (decide (b.an=(5:Int))) then(b.av) else((⟨false,[b]⟩:Sl aa))) fun i=>Option.bind (iB k m (eC n) i.l j (aa.mk (5:Int) (0:Int) ([]:Bs) true ([]) (Sl.nil:Sl Bs))) fun f=>on ((f.1,f.2)) fun g=>some (g.2,g.1)
def l_:Nat->Z4->ax->aa->Int->Option (aa×Z4)
 | 0,_,_,_,_=>none
 | n+1,j,b,f,p=>bif (!decide (f.an=(6:Int))) then(on (eV j (23:Int)) fun k=>some ((aa.mk (0:Int) (0:Int) ([]:Bs) true ([]) (Sl.nil:Sl Bs)),k)) else(on (iC b f.aF.l j) fun m=>on (m) fun o=>Option.bind (gp b f p (eC n) (gw n) b.bl.l 0 o (aa.mk (6:Int) (0:Int) ([]:Bs) true ([]) (Sl.nil:Sl Bs))) fun g=>on ((g.1,g.2)) fun i=>some (i.2,i.1))
def gw:Nat->Z4->az->aa->Int->Option (aa×Z4)
 | 0,_,_,_,_=>none
 | n+1,b,g,i,j=>((eC n) (Z4.mk b.Fd (aa.mk (0:Int) (0:Int) ([]:Bs) true ([]) (Sl.nil:Sl Bs)) true b.ff b.cQ) g i j).bind fun f=>some (f.1,(Z4.mk f.2.Fd b.dD b.f_ f.2.ff f.2.cQ))
end
def sV (n:Nat):Prop:=∀{a0:Z4}{a1:az}{a2:aa}{a3:Int}  {b:Nat}{r:(aa×Z4)},eC n a0 a1 a2 a3=some r->∀(H:ah) (f:H b=some (.cells (Z4.c a0))),AC Tryz.prog 231 [.d (.ptr b 0),.agg (az.c a1),.agg (aa.c a2),.d (.int .i64 a3)] H fun v h'=>v=.a (.agg (aa.c r.1))/\h'=(H.set b (some (.cells (Z4.c r.2))))
def sW (n:Nat):Prop:=∀{a0:Z4}{a1:az}{a2:aa}{a3:Int}  {b:Nat}{r:(aa×Z4)},l9 n a0 a1 a2 a3=some r->∀(H:ah) (f:H b=some (.cells (Z4.c a0))),AC Tryz.prog 259 [.d (.ptr b 0),.agg (az.c a1),.agg (aa.c a2),.d (.int .i64 a3)] H fun v h'=>v=.a (.agg (aa.c r.1))/\h'=(H.set b (some (.cells (Z4.c r.2))))
def sX (n:Nat):Prop:=∀{a0:Z4}{a1:ax}{a2:aa}{a3:Int}  {b:Nat}{r:(aa×Z4)},l_ n a0 a1 a2 a3=some r->∀(H:ah) (f:H b=some (.cells (Z4.c a0))),AC Tryz.prog 262 [.d (.ptr b 0),.agg (ax.c a1),.agg (aa.c a2),.d (.int .i64 a3)] H fun v h'=>v=.a (.agg (aa.c r.1))/\h'=(H.set b (some (.cells (Z4.c r.2))))
def sY (n:Nat):Prop:=∀{a0:Z4}{a1:az}{a2:aa}{a3:Int}  {b:Nat}{r:(aa×Z4)},gw n a0 a1 a2 a3=some r->∀(H:ah) (f:H b=some (.cells (Z4.c a0))),AC Tryz.prog 274 [.d (.ptr b 0),.agg (az.c a1),.agg (aa.c a2),.d (.int .i64 a3)] H fun v h'=>v=.a (.agg (aa.c r.1))/\h'=(H.set b (some (.cells (Z4.c r.2))))
theorem QZ (n:Nat) (aE:sV (ak:=ak) n) (x:sW (ak:=ak) n) (y:sX (ak:=ak) n) (aF:sY (ak:=ak) n):sV (ak:=ak) (n+1):=by
 intro g aX aD aY  f r b H aG;rw [eC] at b;refine AC.oW 111 [.cell 8 58] Tryz.call231 Tryz.func231 ?_;refine ag.eS (h':=(H.set f (some (.cells (Z4.c g))))) (by funext n_; simp only [ah.set]; (repeat' split)<;>simp_all) ?_;refine af (S BX ?_);refine sL (rL rfl (by repeat (first|exact bA.nil|apply bA.cons))) rfl ?_;refine Sl ?_;refine nil ?_;refine ay fun B i=>?_
 refine ag.bY (Sd Mv (Sd NP ?_));refine au.s0 (ct (TK rfl) rfl rfl (TK rfl) rfl rfl) rfl ?_;refine au.s0 (dr (TK rfl) rfl rfl aI rfl) rfl ?_;refine Sd Fv (Sd Ld ?_);obtain⟨aH,C,b⟩:=vT (A4 _ _) b;refine cq rfl rfl (A5 C) ?_;refine Sd NB ?_;refine au.nil (by decide +kernel) ?_;refine cE b (fun E b=>?_) (fun E b=>?_)
 ·refine af (S Mv ?_);obtain⟨F,G,b⟩:=vT (nI _ _) b;refine sH (de rfl rfl (nJ G _ aI)) rfl ?_;refine hq (H.set f (some (.cells (Z4.c F)))) ?_;refine nil ?_;refine af (S BU ?_);refine Sf ?_;refine nil ?_;exact rt b
 refine sk i ?_;clear i B;obtain⟨I,J,b⟩:=mT b;refine eD (TA 0 (TA 3 (TA 5 (TA 6 (TA 8 kN))))) (fun(z:Z4×aa×aa)=>[]) (fun z=>[aa.c z.2.1,aa.c z.2.2]) (fun z=>(H.set f (some (.cells (Z4.c z.1))))) (fun z=>(I z.1 z.2.1)=some r) ?_ ?_
 ·intro aJ j;refine af (S Mv (S NP ?_));refine s0 (ct (TK rfl) rfl rfl (TK rfl) rfl rfl) rfl ?_;refine s0 (dr (TK rfl) rfl rfl aI rfl) rfl ?_;refine S Mv (G0 FL ?_);refine gC rfl rfl (fun hC=>uz (k:=31) rfl (rI (TK rfl) rfl rfl rfl rfl)) rfl ?_;refine G1 32 rfl BI ?_;refine S PA (nil ?_);refine cE b (fun K b=>?_) (fun K b=>?_)
  ·refine ag.bY (Sd Mv (Sd NP ?_));refine au.s0 (ct (TK rfl) rfl rfl (TK rfl) rfl rfl) rfl ?_;refine au.s0 (dr (TK rfl) rfl rfl aI rfl) rfl ?_;refine Sd FL (Sd LL ?_);obtain⟨aK,L,b⟩:=qT (BB _ _) b;refine cq rfl rfl (BC L) ?_;refine Sd Mv (Sd EX (Sd EX ?_));refine au.sB (TK rfl) rfl rfl ?_ (by repeat (first|exact bA.nil|apply bA.cons));refine au.dh (dH (TK rfl) rfl rfl rfl rfl rfl) ?_
   refine Sd As ?_;refine au.nil (by decide +kernel) ?_;refine bu 9 _ rfl (KA 0 (KA 3 (KA 5 (KA 6 (KA 8 aS.nil))))) ?_;refine ay fun M l=>?_;refine af (S Fv (S Ld (S BI (nil ?_))));refine cE b (fun N b=>?_) (fun N b=>?_)
   ·refine af (S Mv (S Ld (S Mv ?_)));obtain⟨O,P,b⟩:=qT (QM _ _ _) b;refine sH (de rfl rfl (QL P _ aI)) rfl ?_;refine hq (H.set f (some (.cells (Z4.c O.2)))) ?_;refine Sf ?_;refine nil ?_;exact rt b
   refine sk l ?_;clear l M;refine region ?_;refine S BU ?_;refine Sf ?_;refine nil ?_;exact j _ (g,(aa.mk (0:Int) (0:Int) ([]:Bs) true ([]) (Sl.nil:Sl Bs)),aa.zero) wA b
  refine ag.skip ?_;exact j _ (g,aD,aa.zero) wA b
 rintro ⟨aL,aM,aN⟩ b;try dsimp only at b
 rw [J] at b;try dsimp only at b
 refine af (S Mv (S Mv ?_));obtain⟨m,Q,b⟩:=qT (H6 _ _) b;refine sH (de rfl rfl (H7 Q _ aI)) rfl ?_;refine hq (H.set f (some (.cells (Z4.c m)))) ?_;refine nil ?_;refine ay fun R o=>?_;refine af (S Mv (S NP ?_));refine s0 (ct (TK rfl) rfl rfl (TK rfl) rfl rfl) rfl ?_;refine s0 (dr (TK rfl) rfl rfl aI rfl) rfl ?_;refine S BI (nil ?_);refine cE b (fun U b=>?_) (fun U b=>?_)
 ·refine af (S BU ?_);refine Sf ?_;refine nil ?_;exact rt b
 refine sk o ?_;clear o R;refine ay fun W p=>?_;refine af (S FL (S LL (S BI (nil ?_))));refine cE b (fun X b=>?_) (fun X b=>?_)
 ·refine aT (TA 8 kN) (fun(z:Z4)=>[]) (fun z=>(H.set f (some (.cells (Z4.c z))))) (fun z=>(some ((aa.mk (0:Int) (0:Int) ([]:Bs) true ([]) (Sl.nil:Sl Bs)),z))=some r) ?_ ?_
  ·intro aO q;refine af (S Ld ?_);obtain⟨aP,Y,b⟩:=vT (o3 _) b;refine Sc rfl rfl (o4 Y) ?_;refine nil ?_;obtain⟨aQ,s,b⟩:=bW b;refine cP b (fun Z b=>?_) (fun Z b=>?_)
   ·refine region ?_;refine S Mv ?_;obtain⟨t,ab,b⟩:=vP (nI _ _) b;refine sH (de rfl rfl (nJ ab _ aI)) rfl ?_;refine hq (H.set f (some (.cells (Z4.c t)))) ?_;refine nil ?_;have b:=ku s b;exact q _ t wA b
   refine ag.skip ?_;have b:=ku s b;exact q _ m wA b
  rintro aR b;try dsimp only at b
  refine af (S BU ?_);refine Sf ?_;refine nil ?_;exact rt b
 refine sk p ?_;clear p W;refine ay fun ad u=>?_;refine af (S Ld ?_);obtain⟨aU,ae,b⟩:=qT (Bn _) b;refine Sc rfl rfl (Bo ae) ?_;refine S Mv (S EX (S EX ?_));refine Sl ?_;refine Sf ?_;refine S As (nil ?_);refine bu 11 _ rfl (KA 0 (KA 3 (KA 5 (KA 6 (KA 8 (KA 12 aS.nil)))))) ?_;refine af (S Mv (nil ?_));refine cE b (fun ai b=>?_) (fun ai b=>?_)
 ·refine af (S Mv (S Ld (S LL (S Mv ?_))));obtain⟨aj,al,b⟩:=qT rfl b;refine sH (de rfl rfl (x al _ aI)) rfl ?_;refine hq (H.set f (some (.cells (Z4.c aj.2)))) ?_;refine Sf ?_;refine nil ?_;exact rt b
 refine sk u ?_;clear u ad;refine ay fun am v=>?_;refine af (S Fv (S Ld ?_));obtain⟨aV,an,b⟩:=vT (sC _) b;refine Sc rfl rfl (sD an) ?_;refine nil ?_;refine cE b (fun ao b=>?_) (fun ao b=>?_)
 ·refine af (S Mv (S Fv (S Ld (S LL ?_))));obtain⟨ap,aq,b⟩:=qT (QS _ _ _) b;refine sH (de rfl rfl (QU aq _ aI)) rfl ?_;refine hq (H.set f (some (.cells (Z4.c ap.2)))) ?_;refine Sf ?_;refine nil ?_;exact rt b
 refine sk v ?_;clear v am;refine ag.bY (Sd Mv (Sd NP ?_));refine au.s0 (ct (TK rfl) rfl rfl (TK rfl) rfl rfl) rfl ?_;refine au.s0 (dr (TK rfl) rfl rfl aI rfl) rfl ?_;refine Sd Fv (Sd Ld ?_);obtain⟨aW,av,b⟩:=vT (jv _ _) b;refine cq rfl rfl (jw av) ?_;refine Sd Mv (Sd EX (Sd EX ?_));refine au.sB (TK rfl) rfl rfl ?_ (by repeat (first|exact bA.nil|apply bA.cons))
 refine au.dh (dH (TK rfl) rfl rfl rfl rfl rfl) ?_;refine Sd As ?_;refine au.nil (by decide +kernel) ?_;refine bu 13 _ rfl (KA 0 (KA 3 (KA 6 (KA 8 aS.nil)))) ?_;refine ay fun aw w=>?_;refine af (S Fv (S Ld (S BI (nil ?_))));refine cE b (fun ax b=>?_) (fun ax b=>?_)
 ·refine af (S Mv (S Ld (S LL ?_)));obtain⟨az,aA,b⟩:=vT (QV _ _ _) b;refine sH (de rfl rfl (QW aA _ aI)) rfl ?_;refine hq (H.set f (some (.cells (Z4.c az.2)))) ?_;refine Sf ?_;refine nil ?_;exact rt b
 refine sk w ?_;clear w aw;refine af (S Mv (S Ld (S LL (S Mv ?_))));obtain⟨aB,aC,b⟩:=qT rfl b;refine sH (de rfl rfl (y aC _ aI)) rfl ?_;refine hq (H.set f (some (.cells (Z4.c aB.2)))) ?_;refine Sf ?_;refine nil ?_;exact rt b
theorem Q0 (n:Nat) (Q:sV (ak:=ak) n) (aC:sW (ak:=ak) n) (aD:sX (ak:=ak) n) (aE:sY (ak:=ak) n):sW (ak:=ak) (n+1):=by
 intro C N O P  m r b H aH;rw [l9] at b;refine AC.oW 50 [.cell 8 58] Tryz.call259 Tryz.func259 ?_;refine ag.eS (h':=(H.set m (some (.cells (Z4.c C))))) (by funext n_; simp only [ah.set]; (repeat' split)<;>simp_all) ?_;refine af (S BX (S BX ?_));refine Sl ?_;refine nil ?_;refine af (S Ld (S BV (S As (nil ?_))));obtain⟨R,U,b⟩:=bW b;refine aT (TA 0 (TA 3 (TA 5 (TA 8 kN)))) (fun(z:(Sl aa))=>[(9,.a (.d (Sl.d 5 aa.c none z)))]) (fun z=>(H.set m (some (.cells (Z4.c C))))) (fun z=>R z=some r) ?_ ?_
 ·intro aJ E;refine af (S Fv (S Ld (S BI (nil ?_))));refine cP b (fun W b=>?_) (fun W b=>?_)
  ·refine region ?_;refine S Fv ?_;refine s0 (bS (TK rfl) rfl rfl (congrArg (fun x=>some (A.d x)) (aa.dm _))) rfl ?_;refine S As (nil ?_);exact E _ O.av wA b
  refine ag.skip ?_;exact E _ (⟨false,[O]⟩:Sl aa) wA b
 rintro p b;try dsimp only at b
 have b:=ku U b;refine af (S BU ?_);refine Sl ?_;refine aQ.tok 5 fun g F=>?_;obtain⟨aK,F⟩:=ah.gB F;refine aQ.dc 1 _ rfl (fun j w cs hh o=>tok_cell 3 5 5 hh (t:=g) aI o rfl) ?_;refine Sf ?_;refine aQ.dc 1 _ rfl (fun j w cs hh o=>tok_cell 3 5 5 hh (t:=g) aI o rfl) ?_;refine nil ?_;refine eD (TA 8 (TA 10 kN)) (fun(z:Z4×aa)=>[]) (fun z=>[aa.c aa.zero,((bp .i64) z.2.an++(bp .i64) z.2.aV++aP z.2.aR++[Sl.d 5 aa.c (some g) z.2.av]++(fun s=>[Sl.d 1 aP none s]) z.2.aF)]) (fun z=>((H.set m (some (.cells (Z4.c z.1)))).set g (some (.tok 5 z.2.av.l.length)))) (fun z=>(some (z.2,z.1))=some r) ?_ ?_
 ·intro aL X;refine af (S As (nil ?_));refine block ?_;obtain⟨q,Y,b⟩:=cB b;refine gW (TA 0 (TA 3 (TA 5 (TA 8 (TA 9 (TA 10 kN)))))) (fun(z:Nat×Z4×aa)=>[(11,.a (.d (.int .i64 ((z.1:Nat):Int))))]) (fun z=>[aa.c aa.zero,((bp .i64) z.2.2.an++(bp .i64) z.2.2.aV++aP z.2.2.aR++[Sl.d 5 aa.c (some g) z.2.2.av]++(fun s=>[Sl.d 1 aP none s]) z.2.2.aF)]) (fun z=>((H.set m (some (.cells (Z4.c z.2.1)))).set g (some (.tok 5 z.2.2.av.l.length)))) (fun z=>p.l.length-z.1) (fun z=>Option.bind (iB N P (eC n) (p.l.drop z.1) z.2.1 z.2.2) q=some r) (0,C,(aa.mk (5:Int) (0:Int) ([]:Bs) true ([]) (Sl.nil:Sl Bs))) b wA ?_
  rintro ⟨G,u,i⟩ b aM Z;try dsimp only at b
  refine ay fun ab I=>?_;refine af (S Mv (S Mv ?_));refine sLen (f:=aa.c) (s:=p) (TK rfl) rfl rfl rfl rfl fun aN=>?_;refine S BI (S Mv (G0 Mv ?_));refine G1 26 rfl NP ?_;refine gC rfl rfl (fun hC=>aG (k:=27) rfl (ct (TK rfl) rfl rfl (TK rfl) rfl rfl)) rfl ?_;refine gC rfl rfl (fun hC=>aG (k:=28) rfl (dr (TK rfl) rfl rfl aI rfl)) rfl ?_;refine G1 29 rfl BI ?_;refine S PA (nil ?_)
  refine ag.jk (fun l=>Option.bind (iB N P (eC n) l u i) q=some r) (Option.bind (some (u,i)) q=some r) b (fun b=>by rw [iB] at b; exact b) (fun _ ad b=>by rw [iB] at b; rw [ad] at b; exact b) rfl rfl (fun aO J v ae b=>?_) (fun v b=>?_)
  ·rw [iB] at b;rw [ae,cond_true] at b;try dsimp only at v
   have aU:=oD (and_left v);refine sk I ?_;clear I ab;refine ay fun ai K=>?_;refine block ?_;refine ag.bY (Sd Mv (Sd Ld (Sd Mv (Sd Mv ?_))));obtain⟨aW,aj,b⟩:=vO J b;refine Sd (ix aa.c G aj) (Sd Ld (Sd Mv ?_));obtain⟨aX,al,b⟩:=qO rfl b;refine au.s0 (cI rfl rfl al) rfl ?_;obtain⟨y,ao,b⟩:=qO rfl b;refine au.sH (de rfl rfl (Q ao _ aI)) rfl ?_
   refine au.Dh ((H.set m (some (.cells (Z4.c y.2)))).set g (some (.tok 5 i.av.l.length))) ?_;refine au.sB (TK rfl) rfl rfl ?_ (by repeat (first|exact bA.nil|apply bA.cons));refine au.dh (dH (TK rfl) rfl rfl rfl rfl rfl) ?_;refine au.nil (by decide +kernel) ?_;refine bu 12 _ rfl (KA 0 (KA 3 (KA 5 (KA 8 (KA 9 (KA 10 (KA 11 aS.nil))))))) ?_;refine region ?_
   refine S FL (S LL (S Ld (S BV ?_)));obtain⟨B,ap,b⟩:=qO rfl b;refine SH (am aa.c (TK rfl) rfl (TK rfl) (TK rfl) ap) ?_;refine hq ((H.set m (some (.cells (Z4.c y.2)))).set g (some (.tok 5 B.l.length))) ?_;refine S FL ?_;refine Sf ?_;refine nil ?_;refine K _ ?_;clear K ai;refine region ?_;refine S Mv ?_;refine SI ?_;refine S As (nil ?_);exact Z _ ((G+1),y.2,(aa.mk i.an i.aV i.aR B.nl B.l i.aF)) wA b (dl J)
  have b:=ku Y b;try dsimp only at b
  refine ag.exit ?_;obtain⟨aY,aq,b⟩:=bW b;have b:=ku aq b;exact X _ (u,i) wA b
 rintro ⟨aw,ax⟩ b;try dsimp only at b
 refine ay fun az L=>?_;refine ag.dc 1 _ rfl (fun j w cs hh o=>mU 3 o rfl) ?_;refine ag.dc 1 (aa.c ax) rfl (fun j w cs hh o=>by rw [aa.fM]; exact o) ?_;refine region ?_;refine S LL ?_;refine Sf ?_;refine nil ?_;refine L _ ?_;clear L az;refine ag.ret ?_;repeat (first|refine bK ?_|refine bL ?_)
 obtain rfl:=oJ b;refine bz.bJ (H.set m (some (.cells (Z4.c aw)))) rfl ⟨rfl,rfl⟩ ?_;intro aA aZ M;have a0:aA≠g:=fun aB=>by subst aB; simp_all [ah.set]
 rw [<- M];simp only [ah.set] at M ⊢
 (repeat' split)<;>simp_all
theorem Q1 (n:Nat) (aC:sV (ak:=ak) n) (bD:sW (ak:=ak) n) (bE:sX (ak:=ak) n) (aD:sY (ak:=ak) n):sX (ak:=ak) (n+1):=by
 intro aB q u F  i r b H bF;rw [l_] at b;refine AC.oW 123 [.cell 8 58] Tryz.call262 Tryz.func262 ?_;refine ag.eS (h':=(H.set i (some (.cells (Z4.c aB))))) (by funext n_; simp only [ah.set]; (repeat' split)<;>simp_all) ?_;refine af (S BX (S BX ?_));refine Sl ?_;refine nil ?_;refine ay fun aE W=>?_;refine af (S Fv (S Ld (S BI (nil ?_))));refine cE b (fun aH b=>?_) (fun aH b=>?_)
 ·refine af (S Mv ?_);obtain⟨aJ,aK,b⟩:=vT (nI _ _) b;refine sH (de rfl rfl (nJ aK _ aI)) rfl ?_;refine hq (H.set i (some (.cells (Z4.c aJ)))) ?_;refine nil ?_;refine af (S BU ?_);refine Sf ?_;refine nil ?_;exact rt b
 refine sk W ?_;clear W aE;refine aT (TA 0 (TA 3 (TA 5 (TA 6 (TA 8 kN))))) (fun(z:Z4)=>[]) (fun z=>(H.set i (some (.cells (Z4.c z))))) (fun z=>(Option.bind (gp q u F (eC n) (gw n) q.bl.l 0 z (aa.mk (6:Int) (0:Int) ([]:Bs) true ([]) (Sl.nil:Sl Bs))) fun X=>on ((X.1,X.2)) fun Y=>some (Y.2,Y.1))=some r) ?_ ?_
 ·intro bG aL;refine af (S As (nil ?_));refine block ?_;obtain⟨G,aM,b⟩:=bW b;refine bx (TA 0 (TA 3 (TA 5 (TA 6 (TA 8 kN))))) (fun(z:Nat×Z4)=>[(9,.a (.d (.int .i64 ((z.1:Nat):Int))))]) (fun z=>(H.set i (some (.cells (Z4.c z.2))))) (fun z=>u.aF.l.length-z.1) (fun z=>G (iC q (u.aF.l.drop z.1) z.2)=some r) (0,aB) b wA ?_;rintro ⟨I,J⟩ b bH aN
  try dsimp only at b
  refine ay fun aO Z=>?_;refine af (S Mv (S Fv (S Ld ?_)));refine sLen (f:=aP) (s:=u.aF) (TK rfl) rfl rfl rfl rfl fun bI=>?_;refine S BI (nil ?_);refine ag.cA (fun l=>G (iC q l J)=some r) b rfl (fun bM ab K b=>?_) (fun K b=>?_)
  ·rw [iC] at b;try dsimp only at K
   have bN:=oD K;refine sk Z ?_;clear Z aO;refine aT (TA 0 (TA 3 (TA 5 (TA 6 (TA 8 (TA 9 kN)))))) (fun(z:Z4)=>[]) (fun z=>(H.set i (some (.cells (Z4.c z))))) (fun z=>G (iC q (u.aF.l.drop (I+1)) z)=some r) ?_ ?_
   ·intro bO ad;refine block ?_;refine ag.bY (Sd Fv (Sd Ld (Sd Fv (Sd Ld (Sd Mv ?_)))));obtain⟨bQ,aU,b⟩:=vP ab b;refine Sd (ix aP I aU) (Sd Ld ?_);obtain⟨bR,aW,b⟩:=vP (xA _ _) b;refine cq rfl rfl (xB aW) ?_;refine Sd Mv (Sd EX (Sd EX ?_));refine au.sB (TK rfl) rfl rfl ?_ (by repeat (first|exact bA.nil|apply bA.cons));refine au.dh (dH (TK rfl) rfl rfl rfl rfl rfl) ?_
    refine Sd As ?_;refine au.nil (by decide +kernel) ?_;refine bu 10 _ rfl (KA 0 (KA 3 (KA 5 (KA 6 (KA 8 (KA 9 (KA 11 aS.nil))))))) ?_;refine af (S Mv (S NB (nil ?_)));obtain⟨bT,ae,b⟩:=eB b;refine cP b (fun aX b=>?_) (fun aX b=>?_)
    ·refine region ?_;refine S Mv ?_;obtain⟨aj,aY,b⟩:=vP (nI _ _) b;refine sH (de rfl rfl (nJ aY _ aI)) rfl ?_;refine hq (H.set i (some (.cells (Z4.c aj)))) ?_;refine nil ?_;have b:=ku ae b;exact ad _ aj wA b
    refine ag.skip ?_;have b:=ku ae b;exact ad _ J wA b
   rintro a0 b;try dsimp only at b
   refine region ?_;refine S Mv ?_;refine SI ?_;refine S As (nil ?_);exact aN _ ((I+1),a0) wA b (dl ab)
  rw [iC] at b;have b:=ku aM b;refine ag.exit ?_;obtain⟨bU,a1,b⟩:=bW b;have b:=ku a1 b;exact aL _ J wA b
 rintro a2 b;try dsimp only at b
 refine af (S BU ?_);refine Sl ?_;refine aQ.tok 5 fun m al=>?_;obtain⟨bV,al⟩:=ah.gB al;refine aQ.dc 1 _ rfl (fun j w cs hh p=>tok_cell 3 5 5 hh (t:=m) aI p rfl) ?_;refine aQ.tok 1 fun o C=>?_;obtain⟨bZ,C⟩:=ah.gB C;obtain⟨b0,C⟩:=ah.gB C;refine aQ.dc 1 _ rfl (fun j w cs hh p=>tok_cell 4 1 1 hh (t:=o) aI p rfl) ?_
 refine Sf ?_;refine aQ.dc 1 _ rfl (fun j w cs hh p=>tok_cell 3 5 5 hh (t:=m) aI p rfl) ?_;refine aQ.dc 1 _ rfl (fun j w cs hh p=>tok_cell 4 1 1 hh (t:=o) aI p rfl) ?_;refine nil ?_;refine eD (TA 8 (TA 12 kN)) (fun(z:Z4×aa)=>[]) (fun z=>[aa.c aa.zero,((bp .i64) z.2.an++(bp .i64) z.2.aV++aP z.2.aR++[Sl.d 5 aa.c (some m) z.2.av]++[Sl.d 1 aP (some o) z.2.aF])]) (fun z=>(((H.set i (some (.cells (Z4.c z.1)))).set m (some (.tok 5 z.2.av.l.length))).set o (some (.tok 1 z.2.aF.l.length)))) (fun z=>(some (z.2,z.1))=some r) ?_ ?_
 ·intro b1 a3;refine af (S As (nil ?_));refine block ?_;obtain⟨E,a4,b⟩:=cB b;refine gW (TA 0 (TA 3 (TA 5 (TA 6 (TA 8 (TA 12 kN)))))) (fun(z:Nat×Z4×aa)=>[(13,.a (.d (.int .i64 ((z.1:Nat):Int))))]) (fun z=>[aa.c aa.zero,((bp .i64) z.2.2.an++(bp .i64) z.2.2.aV++aP z.2.2.aR++[Sl.d 5 aa.c (some m) z.2.2.av]++[Sl.d 1 aP (some o) z.2.2.aF])]) (fun z=>(((H.set i (some (.cells (Z4.c z.2.1)))).set m (some (.tok 5 z.2.2.av.l.length))).set o (some (.tok 1 z.2.2.aF.l.length)))) (fun z=>q.bl.l.length-z.1) (fun z=>Option.bind (gp q u F (eC n) (gw n) (q.bl.l.drop z.1) z.1 z.2.1 z.2.2) E=some r) (0,a2,(aa.mk (6:Int) (0:Int) ([]:Bs) true ([]) (Sl.nil:Sl Bs))) b wA ?_
  rintro ⟨x,y,g⟩ b b2 a5;try dsimp only at b
  refine ay fun a6 ao=>?_;refine af (S Mv (S Fv (S Ld ?_)));refine sLen (f:=Z8.c) (s:=q.bl) (TK rfl) rfl rfl rfl rfl fun b3=>?_;refine S BI (S Mv (G0 Mv ?_));refine G1 53 rfl NP ?_;refine gC rfl rfl (fun hC=>aG (k:=54) rfl (ct (TK rfl) rfl rfl (TK rfl) rfl rfl)) rfl ?_;refine gC rfl rfl (fun hC=>aG (k:=55) rfl (dr (TK rfl) rfl rfl aI rfl)) rfl ?_;refine G1 56 rfl BI ?_
  refine S PA (nil ?_);refine ag.jk (fun l=>Option.bind (gp q u F (eC n) (gw n) l x y g) E=some r) (Option.bind (some (y,g)) E=some r) b (fun b=>by rw [gp] at b; exact b) (fun _ a7 b=>by rw [gp] at b; rw [a7] at b; exact b) rfl rfl (fun b4 ap L a8 b=>?_) (fun L b=>?_)
  ·rw [gp] at b;rw [a8,cond_true] at b;try dsimp only at L
   have b5:=oD (and_left L);refine sk ao ?_;clear ao a6;refine eD (TA 0 (TA 3 (TA 5 (TA 6 (TA 8 (TA 12 (TA 13 kN))))))) (fun(z:Z4×aa)=>[]) (fun z=>[aa.c aa.zero,((bp .i64) z.2.an++(bp .i64) z.2.aV++aP z.2.aR++[Sl.d 5 aa.c (some m) z.2.av]++[Sl.d 1 aP (some o) z.2.aF])]) (fun z=>(((H.set i (some (.cells (Z4.c z.1)))).set m (some (.tok 5 z.2.av.l.length))).set o (some (.tok 1 z.2.aF.l.length)))) (fun z=>Option.bind (gp q u F (eC n) (gw n) (q.bl.l.drop (x+1)) (x+1) z.1 z.2) E=some r) ?_ ?_
   ·intro b6 M;refine block ?_;refine af (S Fv (S Ld (S Mv ?_)));obtain⟨a9,a_,b⟩:=vO ap b;refine S (ix Z8.c x a_) (S Ld ?_);refine Sl ?_;refine Sf ?_;refine nil ?_;refine bu 14 _ rfl (KA 0 (KA 3 (KA 5 (KA 6 (KA 8 (KA 12 (KA 13 aS.nil))))))) ?_;refine ay fun a' aq=>?_;refine af (S Fv (S Ld (S Mv ?_)));obtain⟨b7,ba,b⟩:=qO (QY _ _) b;refine Sc rfl rfl (QX ba) ?_
    refine nil ?_;obtain⟨bb,N,b⟩:=gE b;refine cO b (fun bc b=>?_) (fun bc b=>?_)
    ·refine ag.exit ?_;have b:=ku N b;exact M _ (y,g) wA b
    refine sk aq ?_;clear aq a';refine af (S Ld (S Fv (S Ld ?_)));obtain⟨b8,bd,b⟩:=qO (BB _ _) b;refine Sc rfl rfl (BC bd) ?_;refine S Mv (S EX (S EX ?_));refine Sl ?_;refine Sf ?_;refine S As (nil ?_);refine bu 15 _ rfl (KA 0 (KA 3 (KA 5 (KA 6 (KA 8 (KA 12 (KA 13 (KA 14 (KA 16 aS.nil))))))))) ?_;refine af ?_;refine Sl ?_;refine nil ?_;refine eD (TA 0 (TA 3 (TA 5 (TA 6 (TA 8 (TA 12 (TA 13 (TA 14 (TA 17 kN))))))))) (fun(z:Z4×aa)=>[]) (fun z=>[aa.c aa.zero,((bp .i64) g.an++(bp .i64) g.aV++aP g.aR++[Sl.d 5 aa.c (some m) g.av]++[Sl.d 1 aP (some o) g.aF]),aa.c z.2]) (fun z=>(((H.set i (some (.cells (Z4.c z.1)))).set m (some (.tok 5 g.av.l.length))).set o (some (.tok 1 g.aF.l.length)))) (fun z=>Option.bind ((aZ 16 g.aF (⟨false,[a9.ai]⟩:Sl Bs)).bind fun B=>(aZ 80 g.av (⟨false,[z.2]⟩:Sl aa)).bind fun v=>some (z.1,(aa.mk g.an g.aV g.aR v.nl v.l B))) bb=some r) ?_ ?_
    ·intro b9 O;refine block ?_;refine af (S Mv (S Mv (G0 Mv (G0 Ld ?_))));obtain⟨b_,be,b⟩:=eA (HY _ _) b;refine gC rfl rfl (fun hC=>aG (k:=80) rfl (aG (k:=81) rfl (gN rfl rfl (HZ (be hC) _ aI)))) rfl ?_;refine G1 82 rfl NB ?_;refine S PA (S As (nil ?_));obtain⟨_,rfl,b⟩:=mO b;refine cO b (fun bf b=>?_) (fun bf b=>?_)
     ·refine region ?_;refine S Mv (S Fv (S Ld (S Ld (S Mv ?_))));obtain⟨b',bg,b⟩:=qO rfl b;refine s0 (cI rfl rfl bg) rfl ?_;obtain⟨P,bh,b⟩:=qO rfl b;refine sH (de rfl rfl (aC bh _ aI)) rfl ?_;refine hq (((H.set i (some (.cells (Z4.c P.2)))).set m (some (.tok 5 g.av.l.length))).set o (some (.tok 1 g.aF.l.length))) ?_;refine Sf ?_;refine nil ?_
      exact O _ (P.2,P.1) wA b
     refine af (S Fv (S Ld (S As (nil ?_))));refine cO b (fun bi b=>?_) (fun bi b=>?_)
     ·refine region ?_;refine S Mv (S Fv (S Ld (S Fv (S Ld (S Mv ?_)))));obtain⟨ca,bj,b⟩:=qO rfl b;refine s0 (cI rfl rfl bj) rfl ?_;obtain⟨Q,bk,b⟩:=qO rfl b;refine sH (de rfl rfl (aD bk _ aI)) rfl ?_;refine hq (((H.set i (some (.cells (Z4.c Q.2)))).set m (some (.tok 5 g.av.l.length))).set o (some (.tok 1 g.aF.l.length))) ?_;refine Sf ?_;refine nil ?_
      exact O _ (Q.2,Q.1) wA b
     refine af (S Fv (S Ld ?_));obtain⟨cb,bm,b⟩:=vO (o3 _) b;refine Sc rfl rfl (o4 bm) ?_;refine S As (nil ?_);refine cO b (fun bn b=>?_) (fun bn b=>?_)
     ·refine region ?_;refine S Mv ?_;obtain⟨aw,bo,b⟩:=vO (nI _ _) b;refine sH (de rfl rfl (nJ bo _ aI)) rfl ?_;refine hq (((H.set i (some (.cells (Z4.c aw)))).set m (some (.tok 5 g.av.l.length))).set o (some (.tok 1 g.aF.l.length))) ?_;refine nil ?_;exact O _ (aw,aa.zero) wA b
     refine ag.exit ?_;have b:=ku N b;exact M _ (y,g) wA b
    rintro ⟨R,cc⟩ b;try dsimp only at b
    refine af (S FL (S LL (S Fv (S Ld (S BV ?_)))));obtain⟨B,bq,b⟩:=qO rfl b;refine SH (am aP (TK rfl) rfl (TK rfl) (TK rfl) bq) ?_;refine hq (((H.set i (some (.cells (Z4.c R)))).set m (some (.tok 5 g.av.l.length))).set o (some (.tok 1 B.l.length))) ?_;refine S FL ?_;refine Sf ?_;refine nil ?_;refine region ?_;refine S FL (S LL (S LL (S BV ?_)));obtain⟨v,br,b⟩:=qO rfl b
    refine SH (am aa.c (TK rfl) rfl (TK rfl) (TK rfl) br) ?_;refine hq (((H.set i (some (.cells (Z4.c R)))).set m (some (.tok 5 v.l.length))).set o (some (.tok 1 B.l.length))) ?_;refine S FL ?_;refine Sf ?_;refine nil ?_;have b:=ku N b;exact M _ (R,(aa.mk g.an g.aV g.aR v.nl v.l B)) wA b
   rintro ⟨bs,bt⟩ b;try dsimp only at b
   refine region ?_;refine S Mv ?_;refine SI ?_;refine S As (nil ?_);exact a5 _ ((x+1),bs,bt) wA b (dl ap)
  have b:=ku a4 b;try dsimp only at b
  refine ag.exit ?_;obtain⟨cd,bv,b⟩:=bW b;have b:=ku bv b;exact a3 _ (y,g) wA b
 rintro ⟨bw,bB⟩ b;try dsimp only at b
 refine ay fun bC ax=>?_;refine ag.dc 1 _ rfl (fun j w cs hh p=>mU 3 p rfl) ?_;refine ag.dc 1 _ rfl (fun j w cs hh p=>mU 4 p rfl) ?_;refine ag.dc 1 (aa.c bB) rfl (fun j w cs hh p=>by rw [aa.fM]; exact p) ?_;refine region ?_;refine S LL ?_;refine Sf ?_;refine nil ?_;refine ax _ ?_;clear ax bC;refine ag.ret ?_;repeat (first|refine bK ?_|refine bL ?_)
 obtain rfl:=oJ b;refine bz.bJ (H.set i (some (.cells (Z4.c bw)))) rfl ⟨rfl,rfl⟩ ?_;intro az ce aA;have cf:az≠m:=fun U=>by subst U; simp_all [ah.set]
 have cg:az≠o:=fun U=>by subst U; simp_all [ah.set]
 rw [<- aA];simp only [ah.set] at aA ⊢
 (repeat' split)<;>simp_all
theorem Q2 (n:Nat) (j:sV (ak:=ak) n) (l:sW (ak:=ak) n) (m:sX (ak:=ak) n) (o:sY (ak:=ak) n):sY (ak:=ak) (n+1):=by
 intro b q s t  g r i H p;rw [gw] at i;refine AC.oW 41 [.cell 8 58] Tryz.call274 Tryz.func274 ?_;refine ag.eS (h':=(H.set g (some (.cells (Z4.c b))))) (by funext n_; simp only [ah.set]; (repeat' split)<;>simp_all) ?_;refine af (S BX (S BX ?_));refine Sl ?_;refine nil ?_;refine ag.bY (Sd Mv (Sd NP ?_));refine au.s0 (ct (TK rfl) rfl rfl (TK rfl) rfl rfl) rfl ?_;refine au.s0 (dr (TK rfl) rfl rfl aI rfl) rfl ?_
 refine Sd Mv (Sd NP ?_);refine au.s0 (ct (TK rfl) rfl rfl (TK rfl) rfl rfl) rfl ?_;refine au.s0 (dr (TK rfl) rfl rfl aI rfl) rfl ?_;refine au.sB (TK rfl) rfl rfl ?_ (by repeat (first|exact bA.nil|apply bA.cons));refine au.dh (dH (TK rfl) rfl rfl rfl rfl rfl) ?_;refine Sd As ?_;refine au.nil (by decide +kernel) ?_;refine bu 9 _ rfl (KA 0 (KA 3 (KA 5 (KA 6 (KA 8 (KA 10 aS.nil)))))) ?_
 refine af (S Mv (S Mv (S BU (S NP ?_))));refine s0 (ct (TK rfl) rfl rfl (TK rfl) rfl rfl) rfl ?_;refine fT (um (TK rfl) rfl rfl aI rfl (Nat.le_of_ble_eq_true rfl) rfl rfl) rfl rfl ?_;refine hq (H.set g (some (.cells (Z4.c (Z4.mk b.Fd (aa.mk (0:Int) (0:Int) ([]:Bs) true ([]) (Sl.nil:Sl Bs)) b.f_ b.ff b.cQ))))) ?_;refine S NP ?_;refine s0 (ct (TK rfl) rfl rfl (TK rfl) rfl rfl) rfl ?_
 refine fT (mN (TK rfl) rfl rfl aI rfl (by repeat (first|exact cD.zero|apply cD.succ))) rfl rfl ?_;refine hq (H.set g (some (.cells (Z4.c (Z4.mk b.Fd (aa.mk (0:Int) (0:Int) ([]:Bs) true ([]) (Sl.nil:Sl Bs)) true b.ff b.cQ))))) ?_;refine nil ?_;refine af (S Mv (S Ld (S Ld (S Mv ?_))));obtain⟨f,k,i⟩:=qT rfl i;refine sH (de rfl rfl (j k _ aI)) rfl ?_;refine hq (H.set g (some (.cells (Z4.c f.2)))) ?_
 refine Sl ?_;refine Sf ?_;refine nil ?_;refine bu 11 _ rfl (KA 0 (KA 8 (KA 9 (KA 10 aS.nil)))) ?_;refine af (S Mv (S Mv (S Ld (S Mv (S NP ?_)))));refine s0 (ct (TK rfl) rfl rfl (TK rfl) rfl rfl) rfl ?_;refine fT (um (TK rfl) rfl rfl aI rfl (Nat.le_of_ble_eq_true rfl) rfl rfl) rfl rfl ?_;refine hq (H.set g (some (.cells (Z4.c (Z4.mk f.2.Fd b.dD f.2.f_ f.2.ff f.2.cQ))))) ?_
 refine S NP ?_;refine s0 (ct (TK rfl) rfl rfl (TK rfl) rfl rfl) rfl ?_;refine fT (mN (TK rfl) rfl rfl aI rfl (by repeat (first|exact cD.zero|apply cD.succ))) rfl rfl ?_;refine hq (H.set g (some (.cells (Z4.c (Z4.mk f.2.Fd b.dD b.f_ f.2.ff f.2.cQ))))) ?_;refine nil ?_;refine af (S Ld ?_);refine Sf ?_;refine nil ?_;exact rt i
theorem ia:∀(n:Nat),(sV (ak:=ak) n)/\(sW (ak:=ak) n)/\(sX (ak:=ak) n)/\(sY (ak:=ak) n)
 | 0=>⟨fun b=>by first|cases b|(rw [eC] at b; cases b),fun b=>by first|cases b|(rw [l9] at b; cases b),fun b=>by first|cases b|(rw [l_] at b; cases b),fun b=>by first|cases b|(rw [gw] at b; cases b)⟩
 | n+1=>⟨QZ n (ia n).1 (ia n).2.1 (ia n).2.2.1 (ia n).2.2.2,Q0 n (ia n).1 (ia n).2.1 (ia n).2.2.1 (ia n).2.2.2,Q1 n (ia n).1 (ia n).2.1 (ia n).2.2.1 (ia n).2.2.2,Q2 n (ia n).1 (ia n).2.1 (ia n).2.2.1 (ia n).2.2.2⟩
def Ie (a0:Z4) (a1:az) (a2:aa) (a3:Int):Option (aa×Z4):=eC F0 a0 a1 a2 a3
theorem Q3 {f:Z4}{g:az}{i:aa}{j:Int}{b:Nat}{r:aa×Z4}(k:Ie f g i j=some r) (H:ah) (l:H b=some (.cells (Z4.c f))):AC Tryz.prog 231 [.d (.ptr b 0),.agg (az.c g),.agg (aa.c i),.d (.int .i64 j)] H fun v h'=>v=.a (.agg (aa.c r.1))/\h'=(H.set b (some (.cells (Z4.c r.2)))):=(ia F0).1 k H l
def uZ (b:Z4) (f:az) (g:aa) (i:Int):Option (aa×Z4):=eC F0 b f g i
theorem Q4 (a0:Z4) (a1:az) (a2:aa) (a3:Int):Ie a0 a1 a2 a3=uZ a0 a1 a2 a3:=rfl
def kD (f:Z4) (g:az) (i:aa):Option (aa×Int×Z4):=(uZ f g i (1:Int)).bind fun b=>bif (!decide (b.2.cQ=(0:Int))) then(some ((aa.mk (0:Int) (0:Int) ([]:Bs) true ([]) (Sl.nil:Sl Bs)),b.2.cQ,b.2)) else(some (b.1,(0:Int),b.2))
def BM (b:Z4) (f:az) (g:aa):Option (aa×Int×Z4):=kD b f g
theorem Ig (a0:Z4) (a1:az) (a2:aa):BM a0 a1 a2=kD a0 a1 a2:=rfl
theorem Ih {g:Z4}{j:az}{k:aa}{f:Nat}{r:aa×Int×Z4}(b:BM g j k=some r) (H:ah) (q:H f=some (.cells (Z4.c g))):AC Tryz.prog 199 [.d (.ptr f 0),.agg (az.c j),.agg (aa.c k)] H fun v h'=>v=.cS [.agg (aa.c r.1),.d (.int .i64 r.2.1)]/\h'=(H.set f (some (.cells (Z4.c r.2.2)))):=by
 unfold BM kD at b;refine AC.oW 24 [.cell 6 58,.tmp 7] Tryz.call199 Tryz.func199 ?_;refine ag.eS (h':=(H.set f (some (.cells (Z4.c g))))) (by funext n_; simp only [ah.set]; (repeat' split)<;>simp_all) ?_;refine af (S BX (S BX ?_));refine Sl ?_;refine S As (nil ?_);refine af (S Mv (S Ld (S Ld ?_)));obtain⟨l,m,b⟩:=qT (Q4 _ _ _ _) b;refine sH (de rfl rfl (Q3 m _ aI)) rfl ?_
 refine hq (H.set f (some (.cells (Z4.c l.2)))) ?_;refine Sl ?_;refine Sf ?_;refine nil ?_;refine bu 8 _ rfl (KA 0 (KA 6 aS.nil)) ?_;refine ay fun o i=>?_;refine af (S Mv (S NP ?_));refine s0 (ct (TK rfl) rfl rfl (TK rfl) rfl rfl) rfl ?_;refine s0 (dr (TK rfl) rfl rfl aI rfl) rfl ?_;refine S BI (nil ?_);refine cE b (fun p b=>?_) (fun p b=>?_)
 ·refine ag.bY (Sd BU (Sd Mv (Sd NP ?_)));refine au.s0 (ct (TK rfl) rfl rfl (TK rfl) rfl rfl) rfl ?_;refine au.s0 (dr (TK rfl) rfl rfl aI rfl) rfl ?_;refine au.dh (dH (TK rfl) rfl rfl rfl rfl rfl) ?_;refine Sd As ?_;refine au.nil (by decide +kernel) ?_;exact rt b
 refine sk i ?_;clear i o;refine af (S Ld ?_);refine Sf ?_;refine S As (nil ?_);exact rt b
def qM (b:aq) (i:az) (j:aa) (k:aa):Option (aa×Int):=on (iJ b i.ai) fun f=>aN (f) (kw (Z4.mk b k true (0:Int) (0:Int)) j) false fun l=>bif (f&&l) then(some ((aa.mk (0:Int) (0:Int) ([]:Bs) true ([]) (Sl.nil:Sl Bs)),(8:Int))) else((kD (Z4.mk b k true (0:Int) (0:Int)) i j).bind fun g=>some (g.1,g.2.1))
def BN (b:aq) (f:az) (g:aa) (i:aa):Option (aa×Int):=qM b f g i
theorem Q5 (a0:aq) (a1:az) (a2:aa) (a3:aa):BN a0 a1 a2 a3=qM a0 a1 a2 a3:=rfl
theorem Q6 {g:aq}{m:az}{o i:aa}{r:aa×Int}(b:BN g m o i=some r) (H:ah) :AC Tryz.prog 158 [.agg (aq.c g),.agg (az.c m),.agg (aa.c o),.agg (aa.c i)] H fun v h'=>v=.cS [.agg (aa.c r.1),.d (.int .i64 r.2)]/\h'=H:=by
 unfold BN qM at b;refine AC.oW 31 [.cell 8 58,.tmp 9] Tryz.call158 Tryz.func158 ?_;refine af (S BX (S BX (S BX (S BX ?_))));refine Sl ?_;refine S As (nil ?_);refine af (S Ld (S Ld (S BU ?_)));refine sE (dW.rM rfl) rfl (fun _ _ _ ⟨j,f,p,q,s⟩=>?_); subst p q s;refine hq (H.set j (some (.cells (Z4.c (Z4.mk g i true (0:Int) (0:Int)))))) ?_;refine S As (nil ?_)
 refine ay fun t l=>?_;refine af (S Ld (S Fv (S Ld ?_)));obtain⟨B,u,b⟩:=vT (A4 _ _) b;refine Sc rfl rfl (A5 u) ?_;refine S Mv (G0 Mv (G0 Ld ?_));obtain⟨C,w,b⟩:=dx (HY _ _) b;refine gC rfl rfl (fun hC=>aG (k:=20) rfl (aG (k:=21) rfl (gN rfl rfl (HZ (w hC) _ aI)))) rfl ?_;refine S PA (nil ?_);refine cE b (fun x b=>?_) (fun x b=>?_)
 ·refine af (S BU ?_);refine Sf ?_;refine S As (nil ?_);refine ag.ret ?_;repeat (first|refine bK ?_|refine bL ?_)
  obtain rfl:=oJ b;refine bz.bJ H rfl ⟨rfl,rfl⟩ ?_
  first|exact ah.cG f|(simp only [ah.set_set]; exact ah.cG f)
 refine sk l ?_;clear l t;refine af (S Mv (S Ld (S Ld ?_)));obtain⟨y,z,b⟩:=qT (Ig _ _ _) b;refine sH (de rfl rfl (Ih z _ aI)) rfl ?_;refine hq (H.set j (some (.cells (Z4.c y.2.2)))) ?_;refine S EX (S EX ?_);refine Sf ?_;refine S As (nil ?_);refine ag.ret ?_;repeat (first|refine bK ?_|refine bL ?_)
 obtain rfl:=oJ b;refine bz.bJ H rfl ⟨rfl,rfl⟩ ?_
 first|exact ah.cG f|(simp only [ah.set_set]; exact ah.cG f)
def nM (g:aq) (i:Bs) (j:Bs) (k:Bs):List Z8->(Sl Z5)->Option ((Sl Z5))
 | [],b=>some b
 | f::l,b=>on (f) fun m=>Option.bind (bif (!m.c_) then(some b) else(on (f) fun o=>on (f) fun p=>(qM g o.aJ p.dy (aa.mk (0:Int) (0:Int) ([]:Bs) true ([]) (Sl.nil:Sl Bs))).bind fun q=>bif (!decide (q.2=(0:Int))) then((cR i j).bind fun r=>on (f) fun s=>(cR r s.ai).bind fun t=>(cR t k).bind fun u=>(aZ 24 b (⟨false,[(Z5.mk (23:Int) u)]⟩:Sl Z5)).bind fun v=>some v) else(some b))) fun w=>nM g i j k (l) w
def ph (g:aq) (i:(Sl Z8)) (j:Bs) (k:Bs) (m:Bs):Option (Sl Z5):=Option.bind (nM g j k m i.l (Sl.nil:Sl Z5)) fun b=>on (b) fun f=>some f
def BO (b:aq) (f:(Sl Z8)) (g:Bs) (i:Bs) (j:Bs):Option (Sl Z5):=ph b f g i j
theorem Ii (a0:aq) (a1:(Sl Z8)) (a2:Bs) (a3:Bs) (a4:Bs):BO a0 a1 a2 a3 a4=ph a0 a1 a2 a3 a4:=rfl
theorem Ij {m:aq}{j:Sl Z8}{o p q:Bs}{G:Option Nat}{r:Sl Z5}(b:BO m j o p q=some r) (H:ah) :AC Tryz.prog 102 [.agg (aq.c m),.d (Sl.d 10 Z8.c G j),.d (.str o),.d (.str p),.d (.str q)] H fun v h'=>v=.a (.d (Sl.d 2 Z5.c none r))/\h'=H:=by
 unfold BO ph at b;refine AC.oW 61 [.tmp 10] Tryz.call102 Tryz.func102 ?_;refine ag.tok 2 fun g B=>?_;refine af (S BX ?_);refine s0 (fK (k':=2) rfl) rfl ?_;refine nil ?_;refine af (S As (nil ?_));refine ag.fU 11 2 g rfl aI ?_;refine aT kN (fun(z:(Sl Z5))=>[(11,.a (.d (Sl.d 2 Z5.c (some g) z)))]) (fun z=>(H.set g (some (.tok 2 z.l.length)))) (fun z=>(some z)=some r) ?_ ?_
 ·intro ae I;refine af (S As (nil ?_));refine block ?_;obtain⟨u,J,b⟩:=cB b;refine bx (TA 1 (TA 2 (TA 3 (TA 4 (TA 5 kN))))) (fun(z:(Sl Z5)×Nat)=>[(11,.a (.d (Sl.d 2 Z5.c (some g) z.1))),(12,.a (.d (.int .i64 ((z.2:Nat):Int))))]) (fun z=>(H.set g (some (.tok 2 z.1.l.length)))) (fun z=>j.l.length-z.2) (fun z=>Option.bind (nM m o p q (j.l.drop z.2) z.1) u=some r) ((Sl.nil:Sl Z5),0) b wA ?_
  rintro ⟨t,i⟩ b ai K;try dsimp only at b
  refine ay fun L C=>?_;refine af (S Mv (S Mv ?_));refine sLen (f:=Z8.c) (s:=j) (TK rfl) rfl rfl rfl rfl fun aj=>?_;refine S BI (nil ?_);refine ag.cA (fun l=>Option.bind (nM m o p q l t) u=some r) b rfl (fun ak k w b=>?_) (fun w b=>?_)
  ·rw [nM] at b;try dsimp only at w
   have al:=oD w;refine sk C ?_;clear C L;refine aT (TA 1 (TA 2 (TA 3 (TA 4 (TA 5 (TA 12 kN)))))) (fun(z:(Sl Z5))=>[(11,.a (.d (Sl.d 2 Z5.c (some g) z)))]) (fun z=>(H.set g (some (.tok 2 z.l.length)))) (fun z=>Option.bind (nM m o p q (j.l.drop (i+1)) z) u=some r) ?_ ?_
   ·intro an x;refine block ?_;refine ay fun M E=>?_;refine af (S Mv (S Mv ?_));obtain⟨ao,N,b⟩:=vO k b;refine S (ix Z8.c i N) (S Fv (S Ld (S NB (nil ?_))));obtain⟨ap,y,b⟩:=gE b;refine cO b (fun O b=>?_) (fun O b=>?_)
    ·refine ag.exit ?_;have b:=ku y b;exact x _ t wA b
    refine sk E ?_;clear E M;refine ag.bY (Sd Ld (Sd Mv (Sd Mv ?_)));obtain⟨av,P,b⟩:=vO k b;refine Sd (ix Z8.c i P) (Sd Fv (Sd Ld (Sd Mv (Sd Mv ?_))));obtain⟨aw,Q,b⟩:=vO k b;refine Sd (ix Z8.c i Q) (Sd Fv (Sd Ld (Sd BU ?_)));obtain⟨ax,R,b⟩:=qO (Q5 _ _ _ _) b;refine cq rfl rfl (Q6 R) ?_;refine Sd Mv (Sd EX (Sd EX ?_));refine au.sB (TK rfl) rfl rfl ?_ (by repeat (first|exact bA.nil|apply bA.cons))
    refine au.dh (dH (TK rfl) rfl rfl rfl rfl rfl) ?_;refine Sd As ?_;refine au.nil (by decide +kernel) ?_;refine bu 13 _ rfl (KA 1 (KA 2 (KA 3 (KA 4 (KA 5 (KA 11 (KA 12 (KA 14 aS.nil)))))))) ?_;refine af (S Mv (S BI (nil ?_)));refine cO b (fun U b=>?_) (fun U b=>?_)
    ·refine region ?_;refine S Mv (S Mv (S Mv ?_));obtain⟨az,W,b⟩:=qO rfl b;refine s0 (ez rfl rfl W) rfl ?_;refine S Mv (S Mv ?_);obtain⟨aA,X,b⟩:=vO k b;refine S (ix Z8.c i X) (S Fv (S Ld ?_));obtain⟨aB,Y,b⟩:=qO rfl b;refine s0 (ez rfl rfl Y) rfl ?_;refine S Mv ?_;obtain⟨aC,Z,b⟩:=qO rfl b;refine s0 (ez rfl rfl Z) rfl ?_;refine S BU (S BV ?_);obtain⟨F,aa,b⟩:=qO rfl b
     refine SH (am Z5.c (TK rfl) rfl (TK rfl) (TK rfl) aa) ?_;refine hq (H.set g (some (.tok 2 F.l.length))) ?_;refine S As (nil ?_);have b:=ku y b;exact x _ F wA b
    refine ag.skip ?_;have b:=ku y b;exact x _ t wA b
   rintro ab b;try dsimp only at b
   refine region ?_;refine S Mv ?_;refine SI ?_;refine S As (nil ?_);exact K _ (ab,(i+1)) wA b (dl k)
  rw [nM] at b;have b:=ku J b;refine ag.exit ?_;obtain⟨aD,ad,b⟩:=bW b;have b:=ku ad b;exact I _ t wA b
 rintro aE b;try dsimp only at b
 refine af (S Mv (S As (nil ?_)));refine ag.gb 10 rfl ?_;refine ag.ret ?_;repeat (first|refine bK ?_|refine bL ?_)
 obtain rfl:=oJ b;refine bz.bJ H rfl ⟨rfl,rfl⟩ ?_
 first|exact ah.cG B|(simp only [ah.set_set]; exact ah.cG B)
def pn (i:aq) (f:ax):List Z6->(Sl Z5)->Option ((Sl Z5))
 | [],b=>some b
 | g::j,b=>on (g) fun k=>(cR f.ai ([46]:Bs)).bind fun l=>on (g) fun m=>(cR l m.ai).bind fun o=>(ph i k.aO o ([40]:Bs) ([41]:Bs)).bind fun p=>(aZ 24 b p).bind fun q=>pn i f (j) q
def mb (g:aq):List ax->(Sl Z5)->Option ((Sl Z5))
 | [],f=>some f
 | i::j,f=>on (i) fun b=>Option.bind (pn g b b.bC.l f) fun k=>on (k) fun m=>(ph g b.bl b.ai ([46]:Bs) ([]:Bs)).bind fun o=>(aZ 24 m o).bind fun p=>on (p) fun q=>mb g (j) q
def sZ (b:aq):Option (Sl Z5):=Option.bind (mb b b.aA.l (Sl.nil:Sl Z5)) fun f=>on (f) fun g=>some g
def BP (b:aq):Option (Sl Z5):=sZ b
theorem Q7 (a0:aq):BP a0=sZ a0:=rfl
theorem Q8 {g:aq}{r:Sl Z5}(b:BP g=some r) (H:ah) :AC Tryz.prog 56 [.agg (aq.c g)] H fun v h'=>v=.a (.d (Sl.d 2 Z5.c none r))/\h'=H:=by
 unfold BP sZ at b;refine AC.oW 55 [.tmp 2] Tryz.call56 Tryz.func56 ?_;refine ag.tok 2 fun i y=>?_;refine af (S BX ?_);refine s0 (fK (k':=2) rfl) rfl ?_;refine nil ?_;refine af (S As (nil ?_));refine ag.fU 3 2 i rfl aI ?_;refine aT kN (fun(z:(Sl Z5))=>[(3,.a (.d (Sl.d 2 Z5.c (some i) z)))]) (fun z=>(H.set i (some (.tok 2 z.l.length)))) (fun z=>(some z)=some r) ?_ ?_
 ·intro av L;refine af (S As (nil ?_));refine block ?_;obtain⟨k,M,b⟩:=cB b;refine bx (TA 1 kN) (fun(z:(Sl Z5)×Nat)=>[(3,.a (.d (Sl.d 2 Z5.c (some i) z.1))),(4,.a (.d (.int .i64 ((z.2:Nat):Int))))]) (fun z=>(H.set i (some (.tok 2 z.1.l.length)))) (fun z=>g.aA.l.length-z.2) (fun z=>Option.bind (mb g (g.aA.l.drop z.2) z.1) k=some r) ((Sl.nil:Sl Z5),0) b wA ?_
  rintro ⟨p,m⟩ b aw N;try dsimp only at b
  refine ay fun O B=>?_;refine af (S Mv (S Fv (S Ld ?_)));refine sLen (f:=ax.c) (s:=g.aA) (TK rfl) rfl rfl rfl rfl fun az=>?_;refine S BI (nil ?_);refine ag.cA (fun l=>Option.bind (mb g l p) k=some r) b rfl (fun aB C q b=>?_) (fun q b=>?_)
  ·rw [mb] at b;try dsimp only at q
   have aC:=oD q;refine sk B ?_;clear B O;refine aT (TA 1 (TA 4 kN)) (fun(z:(Sl Z5))=>[(3,.a (.d (Sl.d 2 Z5.c (some i) z)))]) (fun z=>(H.set i (some (.tok 2 z.l.length)))) (fun z=>Option.bind (mb g (g.aA.l.drop (m+1)) z) k=some r) ?_ ?_
   ·intro aD P;refine block ?_;refine af (S Fv (S Ld (S Mv ?_)));obtain⟨j,Q,b⟩:=vO C b;refine S (ix ax.c m Q) (S Ld ?_);refine Sl ?_;refine Sf ?_;refine nil ?_;refine bu 5 _ rfl (KA 1 (KA 3 (KA 4 aS.nil))) ?_;refine aT (TA 1 (TA 4 (TA 5 kN))) (fun(z:(Sl Z5))=>[(3,.a (.d (Sl.d 2 Z5.c (some i) z)))]) (fun z=>(H.set i (some (.tok 2 z.l.length)))) (fun z=>Option.bind ((ph g j.bl j.ai ([46]:Bs) ([]:Bs)).bind fun E=>(aZ 24 z E).bind fun o=>on (o) fun t=>mb g (g.aA.l.drop (m+1)) t) k=some r) ?_ ?_
    ·intro aE R;refine af (S As (nil ?_));refine block ?_;obtain⟨F,U,b⟩:=gE b;refine bx (TA 1 (TA 4 (TA 5 kN))) (fun(z:(Sl Z5)×Nat)=>[(3,.a (.d (Sl.d 2 Z5.c (some i) z.1))),(6,.a (.d (.int .i64 ((z.2:Nat):Int))))]) (fun z=>(H.set i (some (.tok 2 z.1.l.length)))) (fun z=>j.bC.l.length-z.2) (fun z=>Option.bind (pn g j (j.bC.l.drop z.2) z.1) F=some r) (p,0) b wA ?_
     rintro ⟨G,u⟩ b aF W;try dsimp only at b
     refine ay fun X I=>?_;refine af (S Mv (S Fv (S Ld ?_)));refine sLen (f:=Z6.c) (s:=j.bC) (TK rfl) rfl rfl rfl rfl fun aG=>?_;refine S BI (nil ?_);refine ag.cA (fun l=>Option.bind (pn g j l G) F=some r) b rfl (fun aH w x b=>?_) (fun x b=>?_)
     ·rw [pn] at b;try dsimp only at x
      have aJ:=oD x;refine sk I ?_;clear I X;refine ay fun Y J=>?_;refine block ?_;refine ag.draw rfl ?_;refine Sd Mv (Sd Ld (Sd Fv (Sd Ld (Sd Mv ?_))));obtain⟨aK,Z,b⟩:=vO w b;refine Sd (ix Z6.c u Z) (Sd Fv (Sd Ld (Sd Fv (Sd Ld ?_))));obtain⟨aL,aa,b⟩:=qO rfl b;refine au.s0 (ez rfl rfl aa) rfl ?_;refine Sd Fv (Sd Ld (Sd Mv ?_));obtain⟨aM,ab,b⟩:=vO w b
      refine Sd (ix Z6.c u ab) (Sd Fv (Sd Ld ?_));obtain⟨aN,ad,b⟩:=qO rfl b;refine au.s0 (ez rfl rfl ad) rfl ?_;obtain⟨aO,ae,b⟩:=qO (Ii _ _ _ _ _) b;refine cq rfl rfl (Ij ae) ?_;obtain⟨K,aj,b⟩:=qO rfl b;refine au.sH (qj (f:=Z5.c) (TK rfl) rfl (TK rfl) (TK rfl) ⟨_,rfl⟩ rfl rfl (by decide) rfl rfl rfl rfl aI rfl aj) rfl ?_;refine au.Dh (H.set i (some (.tok 2 K.l.length))) ?_
      refine Sd As ?_;refine au.nil (by decide +kernel) ?_;refine J _ ?_;clear J Y;refine region ?_;refine S Mv ?_;refine SI ?_;refine S As (nil ?_);exact W _ (K,(u+1)) wA b (dl w)
     rw [pn] at b;have b:=ku U b;refine ag.exit ?_;obtain⟨aP,ak,b⟩:=jR b;have b:=ku ak b;exact R _ G wA b
    rintro aQ b;try dsimp only at b
    refine region ?_;refine S Mv (S Ld (S Fv (S Ld (S Fv (S Ld ?_)))));obtain⟨E,al,b⟩:=qO (Ii _ _ _ _ _) b;refine Sc rfl rfl (Ij al) ?_;obtain⟨o,an,b⟩:=qO rfl b;refine SH (am Z5.c (TK rfl) rfl (TK rfl) (TK rfl) an) ?_;refine hq (H.set i (some (.tok 2 o.l.length))) ?_;refine S As (nil ?_);obtain⟨aR,ao,b⟩:=jR b;have b:=ku ao b;exact P _ o wA b
   rintro t b;try dsimp only at b
   refine region ?_;refine S Mv ?_;refine SI ?_;refine S As (nil ?_);exact N _ (t,(m+1)) wA b (dl C)
  rw [mb] at b;have b:=ku M b;refine ag.exit ?_;obtain⟨aU,ap,b⟩:=bW b;have b:=ku ap b;exact L _ p wA b
 rintro aV b;try dsimp only at b
 refine af (S Mv (S As (nil ?_)));refine ag.gb 2 rfl ?_;refine ag.ret ?_;repeat (first|refine bK ?_|refine bL ?_)
 obtain rfl:=oJ b;refine bz.bJ H rfl ⟨rfl,rfl⟩ ?_
 first|exact ah.cG y|(simp only [ah.set_set]; exact ah.cG y)
def sw (f:aq):Option (Sl Z5):=(nE f true).bind fun b=>bif (decide ((0:Int)<((b.l.length:Nat):Int))) then(some b) else((sQ f).bind fun g=>(aZ 24 b g).bind fun i=>(sZ f).bind fun j=>(aZ 24 i j).bind fun k=>some k)
def BQ (b:aq):Option (Sl Z5):=sw b
theorem Q9 (a0:aq):BQ a0=sw a0:=rfl
theorem Q_ {m:aq}{r:Sl Z5}(b:BQ m=some r) (H:ah) :AC Tryz.prog 22 [.agg (aq.c m)] H fun v h'=>v=.a (.d (Sl.d 2 Z5.c none r))/\h'=H:=by
 unfold BQ sw at b;refine AC.oW 18 [.tmp 2] Tryz.call22 Tryz.func22 ?_;refine af (S BX ?_);refine s0 (fK (k':=2) rfl) rfl ?_;refine nil ?_;refine ag.tok 2 fun i g=>?_;refine af (S Ld ?_);obtain⟨j,o,b⟩:=qT (Ql _ _) b;refine sH (de rfl rfl (Qm o _ aI)) rfl ?_;refine hq (H.set i (some (.tok 2 j.l.length))) ?_;refine S As (nil ?_);refine ay fun p k=>?_
 refine af (S Mv ?_);refine sLen (f:=Z5.c) (s:=j) (TK rfl) rfl rfl rfl rfl fun B=>?_;refine S BI (nil ?_);refine cE b (fun q b=>?_) (fun q b=>?_)
 ·refine af (S Mv (S As (nil ?_)));refine ag.gb 2 rfl ?_;refine ag.ret ?_;repeat (first|refine bK ?_|refine bL ?_)
  obtain rfl:=oJ b;refine bz.bJ H rfl ⟨rfl,rfl⟩ ?_
  first|exact ah.cG g|(simp only [ah.set_set]; exact ah.cG g)
 refine sk k ?_;clear k p;refine af (S Mv (S Ld ?_));obtain⟨C,t,b⟩:=qT (QD _) b;refine Sc rfl rfl (QE t) ?_;obtain⟨u,w,b⟩:=qT rfl b;refine SH (am Z5.c (TK rfl) rfl (TK rfl) (TK rfl) w) ?_;refine hq (H.set i (some (.tok 2 u.l.length))) ?_;refine S As (nil ?_);refine af (S Mv (S Ld ?_));obtain⟨E,x,b⟩:=qT (Q7 _) b;refine Sc rfl rfl (Q8 x) ?_
 obtain⟨y,z,b⟩:=qT rfl b;refine SH (am Z5.c (TK rfl) rfl (TK rfl) (TK rfl) z) ?_;refine hq (H.set i (some (.tok 2 y.l.length))) ?_;refine S As (nil ?_);refine ag.gb 2 rfl ?_;refine ag.ret ?_;repeat (first|refine bK ?_|refine bL ?_)
 obtain rfl:=oJ b;refine bz.bJ H rfl ⟨rfl,rfl⟩ ?_
 first|exact ah.cG g|(simp only [ah.set_set]; exact ah.cG g)
def sv (f:aq):Option Bool:=(rZ f (600:Int)).bind fun b=>aN ((decide (b<=(600:Int)))) (iA f) false fun g=>aN (((decide (b<=(600:Int)))&&g)) (sw f) (Sl.nil:Sl Z5) fun i=>some (((decide (b<=(600:Int)))&&g)&&(decide (((i.l.length:Nat):Int)=(0:Int))))
def BR (b:aq):Option Bool:=sv b
theorem Ra (a0:aq):BR a0=sv a0:=rfl
theorem Rb {g:aq}{r:Bool}(b:BR g=some r) (H:ah) :AC Tryz.prog 6 [.agg (aq.c g)] H fun v h'=>v=.a (.d (.bool r))/\h'=H:=by
 unfold BR sv at b;refine AC.oW 16 [.tmp 2] Tryz.call6 Tryz.func6 ?_;refine af (S BX (S As (nil ?_)));refine af (S Ld ?_);obtain⟨o,i,b⟩:=qT (Pc _ _) b;refine Sc rfl rfl (Pd i) ?_;refine S BI (S Mv (G0 Ld ?_));obtain⟨p,j,b⟩:=dx (P5 _) b;refine dA 7 rfl rfl rfl rfl rfl (fun hC=>P6 (j hC)) ?_;refine S PA (S Mv (G0 Ld ?_));obtain⟨l,m,b⟩:=dx (Q9 _) b
 refine dA 11 rfl rfl rfl rfl rfl (fun hC=>Q_ (m hC)) ?_;refine gC rfl rfl (fun hC=>aG (k:=12) rfl (cZ (f:=Z5.c) (s:=l) (TK rfl) rfl rfl rfl)) rfl ?_;refine G1 13 rfl BI ?_;refine S PA (S As (nil ?_));exact rt b
def nN :List aD->Int->Option (Int)
 | [],b=>some b
 | f::g,b=>bif (decide (b<=(300:Int))) then((bG b (1:Int)).bind fun i=>on (f) fun j=>(uH j.eU (300:Int)).bind fun k=>(bG i k).bind fun l=>nN  (g) l) else(some b)
def mc (f:aj->Option Int):List aj->Int->Option (Int)
 | [],b=>some b
 | g::i,b=>bif (decide (b<=(300:Int))) then(on (g) fun j=>(f j).bind fun k=>(bG b k).bind fun l=>mc f (i) l) else(some b)
def kE:Nat->aj->Option Int
 | 0,_=>none
 | n+1,b=>(bG (1:Int) ((b.aJ.aK.l.length:Nat):Int)).bind fun f=>Option.bind (nN  b.aO.l f) fun g=>on (g) fun i=>Option.bind (mc (kE n) b.bE.l i) fun j=>on (j) fun k=>some k
def BT (n:Nat):Prop:=∀{a0:aj}   {r:Int},kE n a0=some r->∀(H:ah),AC Tryz.prog 23 [.agg (aj.c a0)] H fun v h'=>v=.a (.d (.int .i64 r))/\h'=H
theorem Rc (n:Nat) (G:BT (ak:=ak) n):BT (ak:=ak) (n+1):=by
 intro g   r b H;rw [kE] at b;refine AC.oW 52 [.tmp 2] Tryz.call23 Tryz.func23 ?_;refine af (S BX (S As (nil ?_)));refine af (S Fv (S Fv (S Ld ?_)));refine sLen (f:=(bp .i64)) (s:=g.aJ.aK) (TK rfl) rfl rfl rfl rfl fun au=>?_;obtain⟨I,J,b⟩:=qT rfl b;refine s0 (cI rfl rfl J) rfl ?_;refine S As (nil ?_);refine aT (TA 1 kN) (fun(z:Int)=>[(3,.a (.d (.int .i64 z)))]) (fun z=>H) (fun z=>(Option.bind (mc (kE n) g.bE.l z) fun i=>on (i) fun t=>some t)=some r) ?_ ?_
 ·intro av K;refine af (S As (nil ?_));refine block ?_;obtain⟨j,L,b⟩:=cB b;refine bx (TA 1 kN) (fun(z:Int×Nat)=>[(3,.a (.d (.int .i64 z.1))),(4,.a (.d (.int .i64 ((z.2:Nat):Int))))]) (fun z=>H) (fun z=>g.aO.l.length-z.2) (fun z=>Option.bind (nN  (g.aO.l.drop z.2) z.1) j=some r) (I,0) b wA ?_;rintro ⟨k,u⟩ b aw M;try dsimp only at b
  refine ay fun N v=>?_;refine af (S Mv (S Fv (S Ld ?_)));refine sLen (f:=aD.c) (s:=g.aO) (TK rfl) rfl rfl rfl rfl fun ax=>?_;refine S BI (S Mv (G0 Mv ?_));refine G1 17 rfl BI ?_;refine S PA (nil ?_);refine ag.jk (fun l=>Option.bind (nN  l k) j=some r) (Option.bind (some k) j=some r) b (fun b=>by rw [nN] at b; exact b) (fun _ m b=>by rw [nN] at b; rw [m] at b; exact b) rfl rfl (fun az w o O b=>?_) (fun o b=>?_)
  ·rw [nN] at b;rw [O,cond_true] at b;try dsimp only at o
   have aA:=oD (and_left o);refine sk v ?_;clear v N;refine ay fun P y=>?_;refine block ?_;refine region ?_;refine S Mv ?_;obtain⟨aB,Q,b⟩:=qO rfl b;refine s0 (cI rfl rfl Q) rfl ?_;refine S Fv (S Ld (S Mv ?_));obtain⟨aC,R,b⟩:=vO w b;refine S (ix aD.c u R) (S Fv (S Ld ?_));obtain⟨aE,U,b⟩:=qO (Ap _ _) b;refine Sc rfl rfl (Ao U) ?_
   obtain⟨W,X,b⟩:=qO rfl b;refine s0 (cI rfl rfl X) rfl ?_;refine S As (nil ?_);refine y _ ?_;clear y P;refine region ?_;refine S Mv ?_;refine SI ?_;refine S As (nil ?_);exact M _ (W,(u+1)) wA b (dl w)
  have b:=ku L b;refine ag.exit ?_;obtain⟨aF,Y,b⟩:=bW b;have b:=ku Y b;exact K _ k wA b
 rintro Z b;try dsimp only at b
 refine aT kN (fun(z:Int)=>[(3,.a (.d (.int .i64 z)))]) (fun z=>H) (fun z=>(some z)=some r) ?_ ?_
 ·intro aG aa;refine af (S As (nil ?_));refine block ?_;obtain⟨p,ab,b⟩:=cB b;refine bx (TA 1 kN) (fun(z:Int×Nat)=>[(3,.a (.d (.int .i64 z.1))),(5,.a (.d (.int .i64 ((z.2:Nat):Int))))]) (fun z=>H) (fun z=>g.bE.l.length-z.2) (fun z=>Option.bind (mc (kE n) (g.bE.l.drop z.2) z.1) p=some r) (Z,0) b wA ?_;rintro ⟨i,B⟩ b aH ad;try dsimp only at b
  refine ay fun ae C=>?_;refine af (S Mv (S Fv ?_));refine s0 (bS (TK rfl) rfl rfl (congrArg (fun x=>some (A.d x)) (aj.gG _))) rfl ?_;refine sLen (f:=aj.c) (s:=g.bE) (TK rfl) rfl rfl rfl rfl fun aL=>?_;refine S BI (S Mv (G0 Mv ?_));refine G1 38 rfl BI ?_;refine S PA (nil ?_);refine ag.jk (fun l=>Option.bind (mc (kE n) l i) p=some r) (Option.bind (some i) p=some r) b (fun b=>by rw [mc] at b; exact b) (fun _ m b=>by rw [mc] at b; rw [m] at b; exact b) rfl rfl (fun aM E q ai b=>?_) (fun q b=>?_)
  ·rw [mc] at b;rw [ai,cond_true] at b;try dsimp only at q
   have aN:=oD (and_left q);refine sk C ?_;clear C ae;refine ay fun al F=>?_;refine block ?_;refine region ?_;refine S Mv (S Fv ?_);refine s0 (bS (TK rfl) rfl rfl (congrArg (fun x=>some (A.d x)) (aj.gG _))) rfl ?_;refine S Mv ?_;obtain⟨aP,am,b⟩:=vO E b;refine S (ix aj.c B am) (S Ld ?_);obtain⟨aQ,an,b⟩:=qO rfl b;refine Sc rfl rfl (G an) ?_
   obtain⟨ao,ap,b⟩:=qO rfl b;refine s0 (cI rfl rfl ap) rfl ?_;refine S As (nil ?_);refine F _ ?_;clear F al;refine region ?_;refine S Mv ?_;refine SI ?_;refine S As (nil ?_);exact ad _ (ao,(B+1)) wA b (dl E)
  have b:=ku ab b;refine ag.exit ?_;obtain⟨aR,aq,b⟩:=bW b;have b:=ku aq b;exact aa _ i wA b
 rintro t b;try dsimp only at b
 refine af (S Mv (S As (nil ?_)));exact rt b
theorem Ik:∀(n:Nat),(BT (ak:=ak) n)
 | 0=>fun b=>by first|cases b|(rw [kE] at b; cases b)
 | n+1=>Rc n (Ik n)
def Il (b:aj):Option Int:=kE F0 b
theorem Re {b:aj}{r:Int}(f:Il b=some r) (H:ah) :AC Tryz.prog 23 [.agg (aj.c b)] H fun v h'=>v=.a (.d (.int .i64 r))/\h'=H:=(Ik F0) f H 
def BW (b:aj):Option Int:=kE F0 b
theorem Rf (a0:aj):Il a0=BW a0:=rfl
def nO :List aj->Int->Option (Int)
 | [],b=>some b
 | f::g,b=>bif (decide (b<=(300:Int))) then(on (f) fun i=>(BW i).bind fun j=>(bG b j).bind fun k=>nO  (g) k) else(some b)
def s4 (g:(Sl aj)):Option Bool:=Option.bind (nO  g.l (0:Int)) fun b=>on (b) fun f=>some (decide ((300:Int)<f))
def BY (b:(Sl aj)):Option Bool:=s4 b
theorem Rg (a0:(Sl aj)):BY a0=s4 a0:=rfl
theorem Rh {g:Sl aj}{w0:Option Nat}{r:Bool}(b:BY g=some r) (H:ah) :AC Tryz.prog 7 [.d (Sl.d 9 aj.c w0 g)] H fun v h'=>v=.a (.d (.bool r))/\h'=H:=by
 unfold BY s4 at b;refine AC.oW 24 [.tmp 2] Tryz.call7 Tryz.func7 ?_;refine af (S As (nil ?_));refine af (S As (nil ?_));refine aT kN (fun(z:Int)=>[(3,.a (.d (.int .i64 z)))]) (fun z=>H) (fun z=>(some (decide ((300:Int)<z)))=some r) ?_ ?_
 ·intro K t;refine af (S As (nil ?_));refine block ?_;obtain⟨i,u,b⟩:=cB b;refine bx (TA 0 kN) (fun(z:Int×Nat)=>[(3,.a (.d (.int .i64 z.1))),(4,.a (.d (.int .i64 ((z.2:Nat):Int))))]) (fun z=>H) (fun z=>g.l.length-z.2) (fun z=>Option.bind (nO  (g.l.drop z.2) z.1) i=some r) ((0:Int),0) b wA ?_;rintro ⟨j,m⟩ b L w;try dsimp only at b
  refine ay fun x o=>?_;refine af (S Mv (S Mv ?_));refine sLen (f:=aj.c) (s:=g) (TK rfl) rfl rfl rfl rfl fun M=>?_;refine S BI (S Mv (G0 Mv ?_));refine G1 10 rfl BI ?_;refine S PA (nil ?_);refine ag.jk (fun l=>Option.bind (nO  l j) i=some r) (Option.bind (some j) i=some r) b (fun b=>by rw [nO] at b; exact b) (fun _ y b=>by rw [nO] at b; rw [y] at b; exact b) rfl rfl (fun N p k B b=>?_) (fun k b=>?_)
  ·rw [nO] at b;rw [B,cond_true] at b;try dsimp only at k
   have O:=oD (and_left k);refine sk o ?_;clear o x;refine ay fun C q=>?_;refine block ?_;refine region ?_;refine S Mv (S Mv (S Mv ?_));obtain⟨P,E,b⟩:=vO p b;refine S (ix aj.c m E) (S Ld ?_);obtain⟨Q,F,b⟩:=qO (Rf _) b;refine Sc rfl rfl (Re F) ?_;obtain⟨G,I,b⟩:=qO rfl b;refine s0 (cI rfl rfl I) rfl ?_;refine S As (nil ?_)
   refine q _ ?_;clear q C;refine region ?_;refine S Mv ?_;refine SI ?_;refine S As (nil ?_);exact w _ (G,(m+1)) wA b (dl p)
  have b:=ku u b;refine ag.exit ?_;obtain⟨R,J,b⟩:=bW b;have b:=ku J b;exact t _ j wA b
 rintro U b;try dsimp only at b
 refine af (S Mv (S BI (S As (nil ?_))));exact rt b
def jt (b:Int):Bs:=bif (decide (b=(1:Int))) then(([81,117,101,114,121]:Bs)) else(bif (decide (b=(2:Int))) then(([77,117,116,97,116,105,111,110]:Bs)) else(bif (decide (b=(3:Int))) then(([83,117,98,115,99,114,105,112,116,105,111,110]:Bs)) else(([]:Bs))))
def qN (b:Int):Option Bs:=some (jt b)
theorem PS (a0:Int):qN a0=some (jt a0):=rfl
theorem xJ {g:Int}{r:Bs}(b:qN g=some r) (H:ah) :AC Tryz.prog 26 [.d (.int .i64 g)] H fun v h'=>v=.a (.d (.str r))/\h'=H:=by
 unfold qN jt at b;refine AC.oW 10 [.tmp 2] Tryz.call26 Tryz.func26 ?_;refine af (S As (nil ?_));refine ay fun i f=>?_;refine af (S Mv (nil ?_));refine block ?_;refine af (S BI (S As (nil ?_)));refine cP b (fun j b=>?_) (fun j b=>?_)
 ·refine af (S As (nil ?_));exact rt b
 refine af (S BI (S As (nil ?_)));refine cP b (fun k b=>?_) (fun k b=>?_)
 ·refine af (S As (nil ?_));exact rt b
 refine af (S BI (S As (nil ?_)));refine cP b (fun l b=>?_) (fun l b=>?_)
 ·refine af (S As (nil ?_));exact rt b
 refine sk f ?_;clear f i;refine af (S As (nil ?_));exact rt b
def me (f:Bs):List ax->Unit ⊕ ((ax×Bool))
 | []=>Sum.inl ()
 | g::i=>on (g) fun b=>bif ((b.ai==f)) then(Sum.inr (b,true)) else(me f (i) )
def eL (g:aq) (i:Bs):(ax×Bool):=on (me i g.aA.l ) fun b=>match b with|Sum.inl _=>(on (()) fun _=>((ax.mk (0:Int) ([]:Bs) (Sl.nil:Sl Bs) (Sl.nil:Sl aL) (Sl.nil:Sl Z6) (Sl.nil:Sl Z9) (Sl.nil:Sl Z8)),false))|Sum.inr f=>(f)
def qP (b:aq) (f:Bs):Option (ax×Bool):=some (eL b f)
theorem oO (a0:aq) (a1:Bs):qP a0 a1=some (eL a0 a1):=rfl
theorem pq {g:aq}{i:Bs}{r:ax×Bool}(b:qP g i=some r) (H:ah) :AC Tryz.prog 27 [.agg (aq.c g),.d (.str i)] H fun v h'=>v=.cS [.agg (ax.c r.1),.d (.bool r.2)]/\h'=H:=by
 unfold qP eL at b;refine AC.oW 22 [.cell 4 68,.tmp 5] Tryz.call27 Tryz.func27 ?_;refine af (S BX ?_);refine Sl ?_;refine S As (nil ?_);refine eD (TA 4 kN) (fun(z:ax)=>[]) (fun z=>[ax.c z]) (fun z=>H) (fun z=>some (((ax.mk (0:Int) ([]:Bs) (Sl.nil:Sl Bs) (Sl.nil:Sl aL) (Sl.nil:Sl Z6) (Sl.nil:Sl Z9) (Sl.nil:Sl Z8)),false))=some r) ?_ ?_
 ·intro G w;refine af (S Fv (S Ld ?_));refine sLen (f:=ax.c) (s:=g.aA) (TK rfl) rfl rfl rfl rfl fun I=>?_;refine S Mv (nil ?_);refine block ?_;obtain⟨k,m,b⟩:=eB b;refine gW (TA 1 (TA 4 (TA 9 (TA 10 kN)))) (fun(z:Nat×ax)=>[(11,.a (.d (.int .i64 ((z.1:Nat):Int))))]) (fun z=>[ax.c z.2]) (fun z=>H) (fun z=>g.aA.l.length-z.1) (fun z=>k (me i (g.aA.l.drop z.1) )=some r) (0,ax.zero) b wA ?_
  rintro ⟨o,p⟩ b J x;try dsimp only at b
  refine af (S BI (nil ?_));refine ay fun y q=>?_;refine ag.cA (fun l=>k (me i l )=some r) b rfl (fun K t j b=>?_) (fun j b=>?_)
  ·rw [me] at b;try dsimp only at j
   have L:=oD j;refine sk q ?_;clear q y;refine ay fun B u=>?_;refine block ?_;refine af ?_;obtain⟨M,C,b⟩:=vP t b;refine S (ix ax.c o C) (S Ld ?_);refine Sl ?_;refine Sf ?_;refine nil ?_;refine bu 7 _ rfl (KA 1 (KA 4 (KA 9 (KA 10 (KA 11 aS.nil))))) ?_;refine af (S Fv (S Ld (S Mv (S BS (nil ?_)))));refine cP b (fun E b=>?_) (fun E b=>?_)
   ·refine af (S Ld ?_);refine Sf ?_;refine S As (nil ?_);refine ag.ret ?_;repeat (first|refine bK ?_|refine bL ?_)
    have b:=ku m b;obtain rfl:=oJ b;refine bz.bJ H rfl ⟨rfl,rfl⟩ ?_;exact(fun _ _ h=>h)
   refine sk u ?_;clear u B;refine region ?_;refine SI ?_;refine S Mv (nil ?_);exact x _ ((o+1),p) wA b (dl t)
  rw [me] at b;have b:=ku m b;try dsimp only at b
  refine ag.exit ?_;obtain⟨N,F,b⟩:=eB b;have b:=ku F b;exact w _ p wA b
 rintro O b;try dsimp only at b
 refine af (S BU ?_);refine Sf ?_;refine S As (nil ?_);exact rt b
def iR (f:Bs):List Bs->Nat->Unit ⊕ Int
 | [],b=>Sum.inl ()
 | g::i,b=>on (g) fun j=>bif ((f==j)) then(Sum.inr ((b:Nat):Int)) else(iR f (i) (b+1) )
def g_ (g:(Sl Bs)) (i:Bs):Int:=on (iR i g.l 0 ) fun b=>match b with|Sum.inl _=>(on (()) fun _=>(-1:Int))|Sum.inr f=>(f)
def BZ (b:(Sl Bs)) (f:Bs):Option Int:=some (g_ b f)
theorem B0 (a0:(Sl Bs)) (a1:Bs):BZ a0 a1=some (g_ a0 a1):=rfl
theorem B1 {g:Sl Bs}{i:Bs}{w0:Option Nat}{r:Int}(b:BZ g i=some r) (H:ah) :AC Tryz.prog 62 [.d (Sl.d 1 aP w0 g),.d (.str i)] H fun v h'=>v=.a (.d (.int .i64 r))/\h'=H:=by
 unfold BZ g_ at b;refine AC.oW 19 [.tmp 4] Tryz.call62 Tryz.func62 ?_;refine af (S As (nil ?_));refine aT kN (fun(z:Unit)=>[]) (fun z=>H) (fun z=>some ((-1:Int))=some r) ?_ ?_
 ·intro F u;refine af (S Mv ?_);refine sLen (f:=aP) (s:=g) (TK rfl) rfl rfl rfl rfl fun G=>?_;refine S Mv (nil ?_);refine block ?_;obtain⟨m,o,b⟩:=eB b;refine bx (TA 0 (TA 1 (TA 7 kN))) (fun(z:Nat)=>[(8,.a (.d (.int .i64 ((z:Nat):Int))))]) (fun z=>H) (fun z=>g.l.length-z) (fun z=>m (iR i (g.l.drop z) z )=some r) 0 b wA ?_;rintro j b I w;try dsimp only at b
  refine af (S BI (nil ?_));refine ay fun x p=>?_;refine ag.cA (fun l=>m (iR i l j )=some r) b rfl (fun J q k b=>?_) (fun k b=>?_)
  ·rw [iR] at b;try dsimp only at k
   have K:=oD k;refine sk p ?_;clear p x;refine ay fun y t=>?_;refine block ?_;refine af (S Mv (S As (nil ?_)));refine af (S Mv (S Mv (S Mv ?_)));obtain⟨L,B,b⟩:=vP q b;refine S (ix aP j B) (S Ld (S BS (nil ?_)));refine cP b (fun C b=>?_) (fun C b=>?_)
   ·refine af (S Mv (S As (nil ?_)));refine ag.ret ?_;repeat (first|refine bK ?_|refine bL ?_)
    have b:=ku o b;obtain rfl:=oJ b;refine bz.bJ H rfl ⟨rfl,rfl⟩ ?_;exact(fun _ _ h=>h)
   refine sk t ?_;clear t y;refine region ?_;refine SI ?_;refine S Mv (nil ?_);exact w _ (j+1) wA b (dl q)
  rw [iR] at b;have b:=ku o b;try dsimp only at b
  refine ag.exit ?_;obtain⟨M,E,b⟩:=eB b;have b:=ku E b;exact u _ () wA b
 rintro _ b;try dsimp only at b
 refine af (S As (nil ?_));exact rt b
def s5 (f:(Sl Bs)) (g:Bs):Bool:=on (g_ f g) fun b=>(decide ((0:Int)<=b))
def B2 (b:(Sl Bs)) (f:Bs):Option Bool:=some (s5 b f)
theorem Ri (a0:(Sl Bs)) (a1:Bs):B2 a0 a1=some (s5 a0 a1):=rfl
theorem Rj {f:Sl Bs}{g:Bs}{w0:Option Nat}{r:Bool}(b:B2 f g=some r) (H:ah) :AC Tryz.prog 164 [.d (Sl.d 1 aP w0 f),.d (.str g)] H fun v h'=>v=.a (.d (.bool r))/\h'=H:=by
 unfold B2 s5 at b;refine AC.oW 9 [.tmp 4] Tryz.call164 Tryz.func164 ?_;refine af (S As (nil ?_));refine af (S Mv (S Mv ?_));obtain⟨j,i,b⟩:=vP (B0 _ _) b;refine Sc rfl rfl (B1 i) ?_;refine S BI (S As (nil ?_));exact rt b
def u4 (f:ax) (g:Bs):Bool:=on (s5 f.bU g) fun b=>b
def u6 (b:ax) (f:Bs):Option Bool:=some (u4 b f)
theorem B3 (a0:ax) (a1:Bs):u6 a0 a1=some (u4 a0 a1):=rfl
theorem Im {f:ax}{g:Bs}{r:Bool}(b:u6 f g=some r) (H:ah) :AC Tryz.prog 105 [.agg (ax.c f),.d (.str g)] H fun v h'=>v=.a (.d (.bool r))/\h'=H:=by
 unfold u6 u4 at b;refine AC.oW 9 [.tmp 4] Tryz.call105 Tryz.func105 ?_;refine af (S BX (S As (nil ?_)));refine af (S Fv (S Ld (S Mv ?_)));obtain⟨j,i,b⟩:=vP (Ri _ _) b;refine Sc rfl rfl (Rj i) ?_;refine S As (nil ?_);exact rt b
def xK  (b:(Sl Bs)) (f:(List Bs)):Option (Sl Bs):=some b
def s6 (b:Nat) (f:(Sl Bs)->Nat->(List Bs)->Option (Sl Bs)) (g:(Sl Bs)) (i:(List Bs)):Option (Sl Bs):=f g (b+1) i
def mg (g:aq) :Nat->(Sl Bs)->Nat->(List Bs)->Option (Sl Bs)
 | 0,_,_,_=>none
 | k+1,i,b,f=>bif (decide (((b:Nat):Int)<((g.aA.l.length:Nat):Int))) then((g.aA.l[b]?).bind fun j=>bif (f.contains j.ai) then((aZ 16 i (⟨false,[j.ai]⟩:Sl Bs)).bind fun m=>s6 b ((mg g k)) m (List.erase f j.ai)) else(s6 b ((mg g k)) i f)) else(xK   i f)
def u7 (b:aq)  (f:(List Bs)):Option (Sl Bs):=mg b (b.aA.l.length+1) (Sl.nil:Sl Bs) 0 f
def qQ (a0:aq) (a1:Bs) (f:(ax×Bool))  (g:Bs):Option Bool:=(qP a0 g).bind fun b=>aN ((!((!b.2)||(!decide (b.1.an=(1:Int))))&&(decide (f.1.an=(2:Int))))) (u6 b.1 a1) false fun i=>bif (((!b.2)||(!decide (b.1.an=(1:Int))))||((decide (f.1.an=(2:Int)))&&(!i))) then(some false) else(some true)
def mh (b:aq) (j:Bs) (f:(ax×Bool))  (g:(List Bs)):Option (Sl Bs):=Option.bind (qn (qQ b j f) g) fun i=>u7 b  i
def s7 (b:Nat) (f:Nat->(List Bs)->Option (Sl Bs)) (g:(List Bs)):Option (Sl Bs):=f (b+1) g
def mj (b:aq) (g:Bs) (i:(ax×Bool)) :Nat->Nat->(List Bs)->Option (Sl Bs)
 | 0,_,_=>none
 | k+1,f,j=>bif (decide (((f:Nat):Int)<((b.aA.l.length:Nat):Int))) then((b.aA.l[f]?).bind fun m=>(u6 m g).bind fun o=>bif o then(s7 f ((mj b g i k)) (fF j m.ai)) else(s7 f ((mj b g i k)) j)) else(mh b g i  j)
def pu (i:aq) (j:Bs) (b:(ax×Bool)) :Nat->Nat->(List Bs)->Option (Sl Bs)
 | 0,_,_=>none
 | k+1,f,g=>bif (decide (((f:Nat):Int)<((b.1.bI.l.length:Nat):Int))) then((b.1.bI.l[f]?).bind fun m=>(pu i j b k) (f+1) (fF g m.ai)) else(mh i j b  g)
def qR (f:aq) (g:Bs):Option (Sl Bs):=(qP f g).bind fun b=>bif (decide (b.1.an=(1:Int))) then(mh f g b  (fF ([]:List Bs) g)) else(bif (decide (b.1.an=(2:Int))) then(mj f g b (f.aA.l.length+1) 0 ([]:List Bs)) else(bif (decide (b.1.an=(3:Int))) then(pu f g b (b.1.bI.l.length+1) 0 ([]:List Bs)) else(mh f g b  ([]:List Bs))))
theorem Io {m:aq}{q:Bs}{r:Sl Bs}(b:qR m q=some r) (H:ah) :AC Tryz.prog 61 [.agg (aq.c m),.d (.str q)] H fun v h'=>v=.a (.d (Sl.d 1 aP none r))/\h'=H:=by
 unfold qR at b;refine AC.oW 113 [.tmp 4] Tryz.call61 Tryz.func61 ?_;refine ag.tok 1 fun g bs=>?_;refine af (S BX ?_);refine s0 (fK (k':=1) rfl) rfl ?_;refine nil ?_;refine af (S Ld (S Mv ?_));obtain⟨t,aN,b⟩:=bO b;refine Sc rfl rfl (pq aN) ?_;refine S Mv (S EX (S EX ?_));refine Sl ?_;refine Sf ?_;refine S As (nil ?_);refine bu 5 _ rfl (KA 1 (KA 2 aS.nil)) ?_
 refine af ?_;refine sE dW.makeMap rfl (fun _ _ _ ⟨i,an,aO,aQ,aR⟩=>?_); subst aO aQ aR;obtain⟨bt,an⟩:=ah.gB an;refine hq ((H.set g (some (.tok 1 0))).set i (some (.map (dZ ([]:List Bs))))) ?_;refine S As (nil ?_);refine aT (TA 1 (TA 2 (TA 5 (TA 7 kN)))) (fun(z:(List Bs))=>[]) (fun z=>((H.set g (some (.tok 1 0))).set i (some (.map (dZ z))))) (fun z=>mh m q t z=some r) ?_ ?_
 ·intro bv I;refine af (S Fv (S Ld (nil ?_)));refine block ?_;refine af (S BI (S As (nil ?_)));refine cE b (fun aU b=>?_) (fun aU b=>?_)
  ·refine region ?_;refine S Mv (S Mv ?_);refine fT (mapUpdate (TK rfl) rfl (TK rfl) rfl rfl rfl rfl aI (wB _ _) rfl) rfl rfl ?_;refine hq ((H.set g (some (.tok 1 0))).set i (some (.map (dZ (fF ([]:List Bs) q))))) ?_;refine nil ?_;exact I _ (fF ([]:List Bs) q) wA b
  refine af (S BI (S As (nil ?_)));refine cE b (fun aV b=>?_) (fun aV b=>?_)
  ·refine af (S Fv (S Ld ?_));refine sLen (f:=ax.c) (s:=m.aA) (TK rfl) rfl rfl rfl rfl fun bw=>?_;refine S Mv (nil ?_);refine block ?_;refine bx (TA 1 (TA 2 (TA 5 (TA 7 (TA 34 (TA 35 kN)))))) (fun(z:Nat×Nat×(List Bs))=>[(36,.a (.d (.int .i64 ((z.2.1:Nat):Int))))]) (fun z=>((H.set g (some (.tok 1 0))).set i (some (.map (dZ z.2.2))))) (fun z=>z.1) (fun z=>mj m q t z.1 z.2.1 z.2.2=some r) ((m.aA.l.length+1),0,([]:List Bs)) b wA ?_
   rintro ⟨J,P,K⟩ b bB aW;try dsimp only at b
   cases J with
   | zero=>cases b
   | succ J =>
     rw [mj] at b;refine af (S BI (nil ?_));refine ay fun aX ao=>?_;refine cE b (fun Q b=>?_) (fun Q b=>?_)
     ·try dsimp only at Q
      have bC:=oD Q;refine sk ao ?_;clear ao aX;refine aT (TA 1 (TA 2 (TA 5 (TA 7 (TA 34 (TA 35 (TA 36 kN))))))) (fun(z:(List Bs))=>[]) (fun z=>((H.set g (some (.tok 1 0))).set i (some (.map (dZ z))))) (fun z=>s7 P ((mj m q t J)) z=some r) ?_ ?_
      ·intro bD ap;refine block ?_;refine af ?_;obtain⟨au,aY,b⟩:=bO b;refine S (ix ax.c P aY) (S Ld ?_);refine Sl ?_;refine Sf ?_;refine nil ?_;refine bu 9 _ rfl (KA 1 (KA 2 (KA 5 (KA 7 (KA 34 (KA 35 (KA 36 aS.nil))))))) ?_;refine af (S Ld (S Mv ?_));obtain⟨bE,aZ,b⟩:=bO b;refine Sc rfl rfl (Im aZ) ?_;refine nil ?_;refine cE b (fun a0 b=>?_) (fun a0 b=>?_)
       ·refine region ?_;refine S Mv (S Fv (S Ld ?_));refine fT (mapUpdate (TK rfl) rfl (TK rfl) rfl rfl rfl rfl aI (wB _ _) rfl) rfl rfl ?_;refine hq ((H.set g (some (.tok 1 0))).set i (some (.map (dZ (fF K au.ai))))) ?_;refine nil ?_;exact ap _ (fF K au.ai) wA b
       refine ag.skip ?_;exact ap _ K wA b
      rintro a1 b;try dsimp only at b
      unfold s7 at b;refine region ?_;refine SI ?_;refine S Mv (nil ?_);exact aW _ (J,(P+1),a1) wA b (nS _)
     refine ag.exit ?_;exact I _ K wA b
  refine af (S BI (S As (nil ?_)));refine cE b (fun a2 b=>?_) (fun a2 b=>?_)
  ·refine af (S Fv (S Ld ?_));refine sLen (f:=Z9.c) (s:=t.1.bI) (TK rfl) rfl rfl rfl rfl fun bF=>?_;refine S Mv (nil ?_);refine block ?_;refine bx (TA 1 (TA 2 (TA 5 (TA 7 (TA 50 (TA 51 kN)))))) (fun(z:Nat×Nat×(List Bs))=>[(52,.a (.d (.int .i64 ((z.2.1:Nat):Int))))]) (fun z=>((H.set g (some (.tok 1 0))).set i (some (.map (dZ z.2.2))))) (fun z=>z.1) (fun z=>pu m q t z.1 z.2.1 z.2.2=some r) ((t.1.bI.l.length+1),0,([]:List Bs)) b wA ?_
   rintro ⟨R,av,U⟩ b bG a3;try dsimp only at b
   cases R with
   | zero=>cases b
   | succ R =>
     rw [pu] at b;refine af (S BI (nil ?_));refine ay fun a4 aw=>?_;refine cE b (fun W b=>?_) (fun W b=>?_)
     ·try dsimp only at W
      have bH:=oD W;refine sk aw ?_;clear aw a4;refine ay fun a5 az=>?_;refine block ?_;refine af ?_;obtain⟨aB,a6,b⟩:=bO b;refine S (ix Z9.c av a6) (S Ld ?_);refine Sl ?_;refine Sf ?_;refine nil ?_;refine bu 11 _ rfl (KA 1 (KA 2 (KA 5 (KA 7 (KA 50 (KA 51 (KA 52 aS.nil))))))) ?_;refine region ?_;refine S Mv (S Fv (S Ld ?_));refine fT (mapUpdate (TK rfl) rfl (TK rfl) rfl rfl rfl rfl aI (wB _ _) rfl) rfl rfl ?_
      refine hq ((H.set g (some (.tok 1 0))).set i (some (.map (dZ (fF U aB.ai))))) ?_;refine nil ?_;refine az _ ?_;clear az a5;refine region ?_;refine SI ?_;refine S Mv (nil ?_);exact a3 _ (R,(av+1),(fF U aB.ai)) wA b (nS _)
     refine ag.exit ?_;exact I _ U wA b
  refine ag.skip ?_;exact I _ ([]:List Bs) wA b
 rintro a7 b;try dsimp only at b
 unfold mh at b;refine aT (TA 2 (TA 7 kN)) (fun(z:(List Bs))=>[]) (fun z=>((H.set g (some (.tok 1 0))).set i (some (.map (dZ z))))) (fun z=>u7 m z=some r) ?_ ?_
 ·intro bM a8;refine ay fun a9 aC=>?_;refine ag.NQ i (l:=a7) aI fun p X j a_=>?_;refine ag.eS (h':=((H.set g (some (.tok 1 0))).set i (some (.dS p (.map (mE X).toArray j))))) (by first|rfl|(rw [ah.set_set]; rfl)|(funext n_; simp only [ah.set]; (repeat' split)<;>first|rfl|(exfalso; simp_all; done)|(simp_all; done))) ?_;refine region ?_;refine S Mv ?_
  refine sE (dW.NT (TK rfl) rfl rfl aI) rfl ?_;rintro _ _ _ ⟨u,y,B,rfl,rfl,rfl⟩;obtain⟨a',B⟩:=ah.gB B;obtain⟨ba,B⟩:=ah.gB B;refine hq (((H.set g (some (.tok 1 0))).set i (some (.dS p (.map (mE X).toArray j)))).set u (some (.dS y (.mapIter (some p) j (#[]) j)))) ?_
  refine nil ?_;refine aC _ ?_;clear aC a9;refine block ?_;obtain⟨Y,bb,b⟩:=bO b;refine bx (TA 1 (TA 2 (TA 5 (TA 7 (TA 61 kN))))) (fun(z:List (Bs×Nat)×Array Nat)=>[]) (fun z=>(((H.set g (some (.tok 1 0))).set i (some (.dS p (.map (mE z.1).toArray j)))).set u (some (.dS y (.mapIter (some p) j z.2 j))))) (fun z=>(dI z.1 z.2).length) (fun z=>jN (qQ m q t) Y j z) (X,#[]) (jN.start bb a_) wA ?_
  rintro ⟨L,C⟩ o bN aD;try dsimp only at o
  refine ay fun bQ aE=>?_;refine region ?_;refine sE (dW.NU (id:=i) rfl aI aI o.pop.lt (fun x Z=>o.pop.len _ (List.mem_map_of_mem Z))) rfl ?_;rintro _ _ _ ⟨rfl,⟨bc,rfl,rfl⟩|⟨aF,M,E,rfl,rfl⟩⟩
  ·refine S EX (nil ?_);refine aE _ ?_;refine ay fun bd aH=>?_;refine ag.NR i aI o.pop ?_;rw [o.done bc];refine ag.eS (h':=(((H.set g (some (.tok 1 0))).set i (some (.map (dZ Y)))).set u (some (.dS y (.mapIter (some p) j C j))))) (by first|rfl|(rw [ah.set_set]; rfl)|(funext n_; simp only [ah.set]; (repeat' split)<;>first|rfl|(exfalso; simp_all; done)|(simp_all; done))) ?_
   refine ag.cond rfl (fun aa=>by cases aa) fun _=>?_;refine ag.exit ?_;exact a8 _ Y (cw.toFA (by(intro N be w); (have bf:N≠u:=fun F=>by rw [F] at w; simp [ah.set,B,ba,a'] at w); (rw [<- w]); (simp only [ah.set,if_neg bf]); (first|done|rfl))) b
  obtain⟨r,ab⟩:=o.told _ (uB E).1;have b:=ab;simp only at b;unfold qQ at b;refine hq (((H.set g (some (.tok 1 0))).set i (some (.dS p (.map (mE L).toArray j)))).set u (some (.dS y (.mapIter (some p) j (C.push M) j)))) ?_;refine S EX (nil ?_);refine aE _ ?_;refine ay fun bd aH=>?_;refine ag.cond rfl (fun _=>?_) (fun aa=>by cases aa)
  refine ag.skip ?_;refine aH _ ?_;refine block ?_;refine af ?_;refine s0 (NX (id:=i) rfl aI aI (uB E).1 o.pop.nodup (o.pop.len _ (List.mem_map_of_mem (uB E).1))) rfl ?_;refine S EX (S As (nil ?_));refine af (S Ld (S Mv ?_));obtain⟨bR,bg,b⟩:=bO b;refine Sc rfl rfl (pq bg) ?_;refine S Mv (S EX (S EX ?_));refine Sl ?_;refine Sf ?_;refine S As (nil ?_)
  refine bu 13 _ rfl (KA 1 (KA 2 (KA 5 (KA 7 (KA 12 (KA 14 (KA 61 aS.nil))))))) ?_;refine af (S Mv (S NB (S Mv (G0 Fv ?_))));refine G1 75 rfl Ld ?_;refine G1 76 rfl BI ?_;refine S PO (S Mv (G0 Fv ?_));refine G1 80 rfl Ld ?_;refine G1 81 rfl BI ?_;refine G1 82 rfl Mv ?_;refine G0 Ld (G0 Mv ?_);obtain⟨bT,bh,b⟩:=gO b;refine fI 84 85 rfl rfl rfl rfl rfl rfl (fun hC=>Im (bh hC)) ?_
  refine G1 86 rfl NB ?_;refine gC rfl rfl (fun hC=>aG (k:=83) rfl (fV rfl rfl rfl)) rfl ?_;refine S PO (nil ?_);refine cE b (fun bi b=>?_) (fun bi b=>?_)
  ·refine region ?_;refine S Mv (S Mv ?_);refine fT (NV (TK rfl) rfl (TK rfl) rfl rfl rfl rfl aI (fun x Z=>o.pop.len _ (List.mem_map_of_mem Z))) rfl rfl ?_;refine hq (((H.set g (some (.tok 1 0))).set i (some (.dS p (.map (mE (gh L aF)).toArray j)))).set u (some (.dS y (.mapIter (some p) j (C.push M) j)))) ?_;refine nil ?_;obtain rfl:=oJ b
   obtain⟨ad,ae⟩:=o.drop E ab;exact aD _ ((gh L aF),C.push M) wA ad ae
  refine ag.skip ?_;obtain rfl:=oJ b;obtain⟨ad,ae⟩:=o.keep E ab;exact aD _ (L,C.push M) wA ad ae
 rintro bj b;try dsimp only at b
 unfold u7 at b;refine af (S As (nil ?_));refine ag.fU 15 1 g rfl aI ?_;refine aT kN (fun(z:(Sl Bs)×(List Bs))=>[(15,.a (.d (Sl.d 1 aP (some g) z.1)))]) (fun z=>((H.set g (some (.tok 1 z.1.l.length))).set i (some (.map (dZ z.2))))) (fun z=>xK z.1 z.2=some r) ?_ ?_
 ·intro bU bk;refine af (S Fv (S Ld ?_));refine sLen (f:=ax.c) (s:=m.aA) (TK rfl) rfl rfl rfl rfl fun bV=>?_;refine S Mv (nil ?_);refine block ?_;refine bx (TA 7 (TA 93 (TA 94 kN))) (fun(z:Nat×(Sl Bs)×Nat×(List Bs))=>[(15,.a (.d (Sl.d 1 aP (some g) z.2.1))),(95,.a (.d (.int .i64 ((z.2.2.1:Nat):Int))))]) (fun z=>((H.set g (some (.tok 1 z.2.1.l.length))).set i (some (.map (dZ z.2.2.2))))) (fun z=>z.1) (fun z=>mg m z.1 z.2.1 z.2.2.1 z.2.2.2=some r) ((m.aA.l.length+1),(Sl.nil:Sl Bs),0,bj) b wA ?_
  rintro ⟨O,aJ,aj,G⟩ b bW bl;try dsimp only at b
  cases O with
  | zero=>cases b
  | succ O =>
    rw [mg] at b;refine af (S BI (nil ?_));refine ay fun bm aK=>?_;refine cE b (fun ak b=>?_) (fun ak b=>?_)
    ·try dsimp only at ak
     have bY:=oD ak;refine sk aK ?_;clear aK bm;refine aT (TA 7 (TA 93 (TA 94 (TA 95 kN)))) (fun(z:(Sl Bs)×(List Bs))=>[(15,.a (.d (Sl.d 1 aP (some g) z.1)))]) (fun z=>((H.set g (some (.tok 1 z.1.l.length))).set i (some (.map (dZ z.2))))) (fun z=>s6 aj ((mg m O)) z.1 z.2=some r) ?_ ?_
     ·intro bZ aL;refine block ?_;refine af ?_;obtain⟨aM,bn,b⟩:=bO b;refine S (ix ax.c aj bn) (S Ld ?_);refine Sl ?_;refine Sf ?_;refine nil ?_;refine bu 17 _ rfl (KA 7 (KA 15 (KA 93 (KA 94 (KA 95 aS.nil))))) ?_;refine af (S Mv (S Fv (S Ld ?_)));refine s0 (FO (TK rfl) rfl (TK rfl) (TK rfl) rfl rfl rfl rfl aI) rfl ?_;refine nil ?_;refine cE b (fun bo b=>?_) (fun bo b=>?_)
      ·refine af (S Mv (S Fv (S Ld (S BV ?_))));obtain⟨al,bp,b⟩:=bO b;refine SH (am aP (TK rfl) rfl (TK rfl) (TK rfl) bp) ?_;refine hq ((H.set g (some (.tok 1 al.l.length))).set i (some (.map (dZ G)))) ?_;refine S As (nil ?_);refine region ?_;refine S Mv (S Fv (S Ld ?_));refine fT (NW (TK rfl) rfl (TK rfl) rfl rfl rfl rfl aI) rfl rfl ?_;refine hq ((H.set g (some (.tok 1 al.l.length))).set i (some (.map (dZ (List.erase G aM.ai))))) ?_
       refine nil ?_;exact aL _ (al,(List.erase G aM.ai)) wA b
      refine ag.skip ?_;exact aL _ (aJ,G) wA b
     rintro ⟨bq,br⟩ b;try dsimp only at b
     unfold s6 at b;refine region ?_;refine SI ?_;refine S Mv (nil ?_);exact bl _ (O,bq,(aj+1),br) wA b (nS _)
    refine ag.exit ?_;exact bk _ (aJ,G) wA b
 rintro ⟨b0,b1⟩ b;try dsimp only at b
 unfold xK at b;refine af (S Mv (S As (nil ?_)));refine ag.gb 4 rfl ?_;refine ag.ret ?_;repeat (first|refine bK ?_|refine bL ?_)
 obtain rfl:=oJ b;refine bz.bJ H rfl ⟨rfl,rfl⟩ ?_;intro N be w;have b2:N≠g:=fun F=>by subst F; simp_all [ah.set]
 have b3:N≠i:=fun F=>by subst F; simp_all [ah.set]
 rw [<- w];simp only [ah.set] at w ⊢
 (repeat' split)<;>simp_all
def qS (b:aq) (f:Bs):Option (Sl Bs):=qR b f
theorem Rk (a0:aq) (a1:Bs):qR a0 a1=qS a0 a1:=rfl
def lz (f:(Sl Int)):List Int->Nat->Option (Unit ⊕ Bool)
 | [],b=>some (Sum.inl ())
 | g::i,b=>on (g) fun j=>(f.l[b]?).bind fun k=>bif (!decide (j=k)) then(some (Sum.inr false)) else(lz f (i) (b+1) )
def qU (b:(Sl Int)) (f:(Sl Int)):Option Bool:=bif (!decide (((b.l.length:Nat):Int)=((f.l.length:Nat):Int))) then(some false) else(Option.bind (lz f b.l 0 ) fun g=>match g with|Sum.inl _=>(on (()) fun _=>some true)|Sum.inr i=>(some i))
def B4 (b:(Sl Int)) (f:(Sl Int)):Option Bool:=qU b f
theorem Rm (a0:(Sl Int)) (a1:(Sl Int)):B4 a0 a1=qU a0 a1:=rfl
theorem Rn {g i:Sl Int}{w0 w:Option Nat}{r:Bool}(b:B4 g i=some r) (H:ah) :AC Tryz.prog 83 [.d (Sl.d 1 (bp .i64) w0 g),.d (Sl.d 1 (bp .i64) w i)] H fun v h'=>v=.a (.d (.bool r))/\h'=H:=by
 unfold B4 qU at b;refine AC.oW 26 [.tmp 4] Tryz.call83 Tryz.func83 ?_;refine af (S As (nil ?_));refine ay fun x m=>?_;refine af (S Mv ?_);refine sLen (f:=(bp .i64)) (s:=g) (TK rfl) rfl rfl rfl rfl fun L=>?_;refine S Mv ?_;refine sLen (f:=(bp .i64)) (s:=i) (TK rfl) rfl rfl rfl rfl fun M=>?_;refine S BI (nil ?_);refine cE b (fun y b=>?_) (fun y b=>?_)
 ·refine af (S As (nil ?_));exact rt b
 refine sk m ?_;clear m x;refine aT kN (fun(z:Unit)=>[]) (fun z=>H) (fun z=>(some true)=some r) ?_ ?_
 ·intro N B;refine af (S Mv ?_);refine sLen (f:=(bp .i64)) (s:=g) (TK rfl) rfl rfl rfl rfl fun O=>?_;refine S Mv (nil ?_);refine block ?_;obtain⟨o,p,b⟩:=cB b;refine bx (TA 0 (TA 1 (TA 12 kN))) (fun(z:Nat)=>[(13,.a (.d (.int .i64 ((z:Nat):Int))))]) (fun z=>H) (fun z=>g.l.length-z) (fun z=>Option.bind (lz i (g.l.drop z) z ) o=some r) 0 b wA ?_;rintro j b P C
  try dsimp only at b
  refine af (S BI (nil ?_));refine ay fun E q=>?_;refine ag.cA (fun l=>Option.bind (lz i l j ) o=some r) b rfl (fun Q t k b=>?_) (fun k b=>?_)
  ·rw [lz] at b;try dsimp only at k
   have R:=oD k;refine sk q ?_;clear q E;refine ay fun F u=>?_;refine block ?_;refine af (S Mv (S As (nil ?_)));refine ag.bY (Sd Mv (Sd Mv ?_));obtain⟨U,G,b⟩:=vO t b;refine Sd (ix (bp .i64) j G) ?_;refine Sd Ld (Sd Mv (Sd Mv ?_));obtain⟨W,I,b⟩:=qO rfl b;refine Sd (ix (bp .i64) j I) ?_;refine Sd Ld (Sd BI ?_);refine au.nil (by decide +kernel) ?_
   refine cO b (fun J b=>?_) (fun J b=>?_)
   ·refine af (S As (nil ?_));refine ag.ret ?_;repeat (first|refine bK ?_|refine bL ?_)
    have b:=ku p b;obtain rfl:=oJ b;refine bz.bJ H rfl ⟨rfl,rfl⟩ ?_;exact(fun _ _ h=>h)
   refine sk u ?_;clear u F;refine region ?_;refine SI ?_;refine S Mv (nil ?_);exact C _ (j+1) wA b (dl t)
  rw [lz] at b;have b:=ku p b;try dsimp only at b
  refine ag.exit ?_;obtain⟨X,K,b⟩:=bW b;have b:=ku K b;exact B _ () wA b
 rintro _ b;try dsimp only at b
 refine af (S As (nil ?_));exact rt b
def qV (b:az) (f:az):Option Bool:=aN (((b.ai==f.ai))) (qU b.aK f.aK) false fun g=>some (((b.ai==f.ai))&&g)
def xL (b:az) (f:az):Option Bool:=qV b f
theorem Ip (a0:az) (a1:az):xL a0 a1=qV a0 a1:=rfl
theorem B5 {f g:az}{r:Bool}(b:xL f g=some r) (H:ah) :AC Tryz.prog 42 [.agg (az.c f),.agg (az.c g)] H fun v h'=>v=.a (.d (.bool r))/\h'=H:=by
 unfold xL qV at b;refine AC.oW 17 [.tmp 4] Tryz.call42 Tryz.func42 ?_;refine af (S BX (S BX (S As (nil ?_))));refine af (S Fv (S Ld (S Fv (S Ld (S BS (S Mv (G0 Fv ?_)))))));refine G1 11 rfl Ld ?_;refine G0 Fv ?_;refine G1 13 rfl Ld ?_;obtain⟨j,i,b⟩:=dx (Rm _ _) b;refine fI 12 14 rfl rfl rfl rfl rfl rfl (fun hC=>Rn (i hC)) ?_;refine S PA (S As (nil ?_));exact rt b
def px (b:(Sl Int)):Option (Sl Int):=bif b.nl then(some (Sl.nil:Sl Int)) else((aZ 8 (⟨false,[]⟩:Sl Int) b).bind fun f=>some f)
def xM (b:(Sl Int)):Option (Sl Int):=px b
theorem Iq (a0:(Sl Int)):xM a0=px a0:=rfl
theorem B6 {i:Sl Int}{w0:Option Nat}{r:Sl Int}(b:xM i=some r) (H:ah) :AC Tryz.prog 162 [.d (Sl.d 1 (bp .i64) w0 i)] H fun v h'=>v=.a (.d (Sl.d 1 (bp .i64) none r))/\h'=H:=by
 unfold xM px at b;refine AC.oW 8 [.tmp 2] Tryz.call162 Tryz.func162 ?_;refine af ?_;refine s0 (fK (k':=1) rfl) rfl ?_;refine nil ?_;refine ay fun j g=>?_;refine af (S Mv ?_);refine s0 (FU (TK rfl) rfl rfl) rfl ?_;refine nil ?_;refine cE b (fun k b=>?_) (fun k b=>?_)
 ·refine af ?_;refine s0 (fK (k':=1) rfl) rfl ?_;refine nil ?_;exact rt b
 refine sk g ?_;clear g j;refine af ?_;refine s0 (ov (TK rfl) rfl (TK rfl) rfl rfl rfl rfl rfl rfl) rfl ?_;refine S Mv ?_;obtain⟨m,l,b⟩:=qT rfl b;refine s0 (rR (f:=(bp .i64)) (TK rfl) rfl (TK rfl) (TK rfl) ⟨_,rfl⟩ rfl rfl (by decide) rfl rfl rfl (by intro q h; cases h<;>decide) rfl rfl l) rfl ?_;refine S As (nil ?_);exact rt b
def gq (b:az):Bool:=on (bif (decide ((0:Int)<((b.aK.l.length:Nat):Int))) then((b.aK.l)[0]?.getD (0:Int)) else(0:Int)) fun f=>((decide ((0:Int)<((b.aK.l.length:Nat):Int)))&&(decide (f=(1:Int))))
def B7 (b:az):Option Bool:=some (gq b)
theorem u_ (a0:az):B7 a0=some (gq a0):=rfl
theorem vb {g:az}{r:Bool}(b:B7 g=some r) (H:ah) :AC Tryz.prog 173 [.agg (az.c g)] H fun v h'=>v=.a (.d (.bool r))/\h'=H:=by
 unfold B7 gq at b;refine AC.oW 14 [.tmp 2] Tryz.call173 Tryz.func173 ?_;refine af (S BX (S As (nil ?_)));refine af (S Fv (S Ld ?_));refine sLen (f:=(bp .i64)) (s:=g.aK) (TK rfl) rfl rfl rfl rfl fun j=>?_;refine S BI (S Mv (G0 Fv ?_));refine G1 8 rfl Ld ?_;obtain⟨l,i,b⟩:=lP (fun hc=>Q.getD_some (by simp at hc; omega)) b;refine gC rfl rfl (fun hC=>aG (k:=9) rfl (eR (f:=(bp .i64)) (n:=0) (TK rfl) rfl (TK rfl) rfl rfl rfl (i hC))) rfl ?_
 refine G1 10 rfl Ld ?_;refine G1 11 rfl BI ?_;refine S PA (S As (nil ?_));exact rt b
def qW (b:az):Option az:=on (gq b) fun f=>Option.bind (bif f then((mR b.aK (some (1:Int)) none).bind fun g=>some g) else(some b.aK)) fun i=>(px i).bind fun j=>some (az.mk b.ai j)
def B8 (b:az):Option az:=qW b
theorem Ir (a0:az):B8 a0=qW a0:=rfl
theorem Is {g r:az}(b:B8 g=some r) (H:ah) :AC Tryz.prog 165 [.agg (az.c g)] H fun v h'=>v=.a (.agg (az.c r))/\h'=H:=by
 unfold B8 qW at b;refine AC.oW 15 [.cell 2 50] Tryz.call165 Tryz.func165 ?_;refine af (S BX ?_);refine Sl ?_;refine nil ?_;refine af (S Fv (S Ld (S As (nil ?_))));refine aT (TA 1 (TA 2 kN)) (fun(z:(Sl Int))=>[(3,.a (.d (Sl.d 1 (bp .i64) none z)))]) (fun z=>H) (fun z=>((px z).bind fun i=>some (az.mk g.ai i))=some r) ?_ ?_
 ·intro t j;refine af (S Ld ?_);obtain⟨u,m,b⟩:=vT (u_ _) b;refine Sc rfl rfl (vb m) ?_;refine nil ?_;obtain⟨w,k,b⟩:=cB b;refine cO b (fun o b=>?_) (fun o b=>?_)
  ·refine region ?_;refine S Mv ?_;obtain⟨p,q,b⟩:=qO rfl b;refine s0 (lJ (f:=(bp .i64)) (l:=(some (1:Int))) (r:=none) (TK rfl) rfl (TK rfl) rfl rfl rfl trivial q) rfl ?_;refine S As (nil ?_);have b:=ku k b;exact j _ p wA b
  refine ag.skip ?_;have b:=ku k b;exact j _ g.aK wA b
 rintro x b;try dsimp only at b
 refine ag.bY (Sd Fv (Sd Ld (Sd Mv ?_)));obtain⟨i,s,b⟩:=qT (Iq _) b;refine cq rfl rfl (B6 s) ?_;refine Sd BU ?_;refine au.dh (dH (TK rfl) rfl rfl rfl rfl rfl) ?_;refine au.nil (by decide +kernel) ?_;exact rt b
def qX (g:az):Option Bool:=(qW g).bind fun b=>on (bif (decide ((0:Int)<((b.aK.l.length:Nat):Int))) then((b.aK.l)[0]?.getD (0:Int)) else(0:Int)) fun f=>some ((decide ((0:Int)<((b.aK.l.length:Nat):Int)))&&(decide (f=(2:Int))))
def B9 (b:az):Option Bool:=qX b
theorem It (a0:az):B9 a0=qX a0:=rfl
theorem Iu {g:az}{r:Bool}(b:B9 g=some r) (H:ah) :AC Tryz.prog 106 [.agg (az.c g)] H fun v h'=>v=.a (.d (.bool r))/\h'=H:=by
 unfold B9 qX at b;refine AC.oW 16 [.tmp 2] Tryz.call106 Tryz.func106 ?_;refine af ?_;refine sL (rL rfl (by repeat (first|exact bA.nil|apply bA.cons))) rfl ?_;refine S As (nil ?_);refine af (S LL ?_);obtain⟨i,j,b⟩:=qT (Ir _) b;refine Sc rfl rfl (Is j) ?_;refine Sf ?_;refine nil ?_;refine af (S FL (S LL ?_));refine sLen (f:=(bp .i64)) (s:=i.aK) (TK rfl) rfl rfl rfl rfl fun m=>?_
 refine S BI (S Mv (G0 FL ?_));refine gC rfl rfl (fun hC=>uz (k:=10) rfl (rI (TK rfl) rfl rfl rfl rfl)) rfl ?_;obtain⟨o,l,b⟩:=lN (fun hc=>Q.getD_some (by simp at hc; omega)) b;refine gC rfl rfl (fun hC=>aG (k:=11) rfl (eR (f:=(bp .i64)) (n:=0) (TK rfl) rfl (TK rfl) rfl rfl rfl (l hC))) rfl ?_;refine G1 12 rfl Ld ?_;refine G1 13 rfl BI ?_;refine S PA (S As (nil ?_));exact rt b
def xN (b:az):Option az:=on (gq b) fun f=>bif f then((px b.aK).bind fun g=>some (az.mk b.ai g)) else((aZ 8 (⟨false,[(1:Int)]⟩:Sl Int) b.aK).bind fun i=>some (az.mk b.ai i))
def B_ (b:az):Option az:=xN b
theorem Ro (a0:az):B_ a0=xN a0:=rfl
theorem Rp {i r:az}(b:B_ i=some r) (H:ah) :AC Tryz.prog 166 [.agg (az.c i)] H fun v h'=>v=.a (.agg (az.c r))/\h'=H:=by
 unfold B_ xN at b;refine AC.oW 18 [.cell 2 50] Tryz.call166 Tryz.func166 ?_;refine af (S BX ?_);refine Sl ?_;refine nil ?_;refine ay fun j g=>?_;refine af (S Ld ?_);obtain⟨p,k,b⟩:=vT (u_ _) b;refine Sc rfl rfl (vb k) ?_;refine nil ?_;refine cE b (fun l b=>?_) (fun l b=>?_)
 ·refine ag.bY (Sd Fv (Sd Ld (Sd Fv (Sd Ld ?_))));obtain⟨s,m,b⟩:=qT (Iq _) b;refine cq rfl rfl (B6 m) ?_;refine Sd BU ?_;refine au.dh (dH (TK rfl) rfl rfl rfl rfl rfl) ?_;refine au.nil (by decide +kernel) ?_;exact rt b
 refine sk g ?_;clear g j;refine ag.bY (Sd Fv (Sd Ld ?_));refine au.s0 (ov (TK rfl) rfl (TK rfl) rfl rfl rfl rfl rfl rfl) rfl ?_;refine Sd Fv (Sd Ld ?_);obtain⟨t,o,b⟩:=qT rfl b;refine au.s0 (rR (f:=(bp .i64)) (TK rfl) rfl (TK rfl) (TK rfl) ⟨_,rfl⟩ rfl rfl (by decide) rfl rfl rfl (by intro q h; cases h<;>decide) rfl rfl o) rfl ?_;refine Sd BU ?_;refine au.dh (dH (TK rfl) rfl rfl rfl rfl rfl) ?_
 refine au.nil (by decide +kernel) ?_;exact rt b
end Go.Proofs
