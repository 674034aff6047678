import Derived.Test.YtgkmefkmmafocaaGreatDoorV6
set_option maxRecDepth 100000
set_option maxHeartbeats 2000000
set_option linter.unusedVariables false
set_option linter.unusedSimpArgs false
namespace Go.Proofs
open Go Go.Ab
open aP ar ah aS fp
variable {ax:bK}
def mY (i:az) (m:Int) (j:Z1->az->af->Int->Option (af×Int×Z1)):List af->Z1->af->Option (((Z1×af)) ⊕ ((af×Int×Z1)))
 | [],g,b=>some (Sum.inl (g,b))
 | o::p,g,b=>on (o) fun q=>(cG m (1:Int)).bind fun r=>(j g i q r).bind fun f=>bif (!decide (f.2.1=(0:Int))) then(some (Sum.inr ((af.mk (0:Int) (0:Int) ([]:Bs) true ([]) (Sl.nil:Sl Bs)),f.2.1,f.2.2))) else((aW 80 b.aD (⟨false,[f.1]⟩:Sl af)).bind fun k=>mY i m j (p) f.2.2 (af.mk b.an b.bl b.bg k.nl k.l b.aN))
def oy (f:Z1) (b:aj):List Bs->Unit ⊕ ((af×Int×Z1))
 | []=>Sum.inl ()
 | g::i=>on (g) fun j=>on (l6 b.aL j) fun k=>bif (!k.2) then(Sum.inr ((af.mk (0:Int) (0:Int) ([]:Bs) true ([]) (Sl.nil:Sl Bs)),(22:Int),f)) else(oy f b (i) )
def fZ (j:aj) (x:af) (r:Int) (s:Z1->az->af->Int->Option (af×Int×Z1)) (t:Z1->Z8->Int->Option (af×Int×Z1)):List Z8->Nat->Z1->af->Option (((Z1×af)) ⊕ ((af×Int×Z1)))
 | [],k,f,b=>some (Sum.inl (f,b))
 | y::z,k,f,b=>on (y) fun g=>on ((⟨j.aL.nl,j.aL.l.take k⟩:Sl Z8)) fun B=>on (l6 B g.aa) fun C=>on (fun(E:Z1) (F:af)=>fZ j x r s t (z) (k+1) E F) fun m=>bif C.2 then(m f b) else((l_ x g.aa).bind fun i=>aR (i.2) (p7 f i.1) false fun G=>on (fun(u:Int) (v:Z1) (H:af)=>bif (!decide (u=(0:Int))) then(some (Sum.inr ((af.mk (0:Int) (0:Int) ([]:Bs) true ([]) (Sl.nil:Sl Bs)),u,v))) else((aW 16 b.aN (⟨false,[g.aa]⟩:Sl Bs)).bind fun I=>(aW 80 b.aD (⟨false,[H]⟩:Sl af)).bind fun w=>m v (af.mk b.an b.bl b.bg w.nl w.l I))) fun o=>bif (i.2&&(!G)) then((cG r (1:Int)).bind fun J=>(s f g.aA i.1 J).bind fun p=>o p.2.1 p.2.2 p.1) else(bif g.bY then((cG r (1:Int)).bind fun K=>(t f g K).bind fun q=>o q.2.1 q.2.2 q.1) else(on (ig g.aA) fun L=>bif L then(o (22:Int) f af.zero) else(m f b))))
mutual
def eZ:Nat->Z1->az->af->Int->Option (af×Int×Z1)
 | 0,_,_,_,_=>none
 | n+1,f,g,q,m=>on (gm f.Fd g.aa) fun u=>bif (!u) then(some ((af.mk (0:Int) (0:Int) ([]:Bs) true ([]) (Sl.nil:Sl Bs)),(10:Int),f)) else(on (fun(v:Z1) (i:af)=>(ov v m).bind fun b=>bif (!decide (b.1=(0:Int))) then(some ((af.mk (0:Int) (0:Int) ([]:Bs) true ([]) (Sl.nil:Sl Bs)),b.1,b.2)) else(bif (decide (i.an=(0:Int))) then(on (ig g) fun w=>bif w then(some ((af.mk (0:Int) (0:Int) ([]:Bs) true ([]) (Sl.nil:Sl Bs)),(23:Int),b.2)) else(some ((af.mk (0:Int) (0:Int) ([]:Bs) true ([]) (Sl.nil:Sl Bs)),(0:Int),b.2))) else((ot g).bind fun r=>bif r.2 then(((rH n) b.2 r.1 i m).bind fun o=>some (o.1,o.2.1,o.2.2)) else(on (eT b.2.Fd g.aa) fun j=>on (bif j.2 then cC g.aa else false) fun x=>bif ((j.2&&(!x))&&(decide (j.1.an=(5:Int)))) then(((rI n) b.2 j.1 i m).bind fun p=>some (p.1,p.2.1,p.2.2)) else((ox b.2 g.aa i).bind fun s=>some (s.1,s.2,b.2)))))) fun t=>bif ((decide (q.an=(7:Int)))&&f.k_) then((l_ f.ep q.bg).bind fun k=>bif (!decide (k.1.an=(0:Int))) then((yz f k.1 m).bind fun l=>bif (!decide (l.1=(0:Int))) then(some ((af.mk (0:Int) (0:Int) ([]:Bs) true ([]) (Sl.nil:Sl Bs)),l.1,l.2)) else(some (k.1,(0:Int),l.2))) else(t f k.1)) else(t f q))
def rH:Nat->Z1->az->af->Int->Option (af×Int×Z1)
 | 0,_,_,_,_=>none
 | n+1,o,i,b,p=>on (bif (!decide (b.an=(5:Int))) then((⟨false,[b]⟩:Sl af)) else(b.aD)) fun j=>Option.bind (mY i p (eZ n) j.l o (af.mk (5:Int) (0:Int) ([]:Bs) true ([]) (Sl.nil:Sl Bs))) fun k=>match k with|Sum.inl f=>(on ((f.1,f.2)) fun g=>some (g.2,(0:Int),g.1))|Sum.inr m=>(some m)
def rI:Nat->Z1->aj->af->Int->Option (af×Int×Z1)
 | 0,_,_,_,_=>none
 | n+1,f,b,g,q=>bif (!decide (g.an=(6:Int))) then(some ((af.mk (0:Int) (0:Int) ([]:Bs) true ([]) (Sl.nil:Sl Bs)),(23:Int),f)) else(on (oy f b g.aN.l ) fun k=>match k with|Sum.inl _=>(on (()) fun _=>Option.bind (fZ b g q (eZ n) (gX n) b.aL.l 0 f (af.mk (6:Int) (0:Int) ([]:Bs) true ([]) (Sl.nil:Sl Bs))) fun m=>match m with|Sum.inl i=>(on ((i.1,i.2)) fun j=>some (j.2,(0:Int),j.1))|Sum.inr o=>(some o))|Sum.inr p=>(some p))
def gX:Nat->Z1->Z8->Int->Option (af×Int×Z1)
 | 0,_,_,_=>none
 | n+1,b,g,j=>((eZ n) (Z1.mk b.Fd (af.mk (0:Int) (0:Int) ([]:Bs) true ([]) (Sl.nil:Sl Bs)) true b.nE) g.aA g.cB j).bind fun f=>on (yA b.ep b.k_ f.2.2) fun i=>some (f.1,f.2.1,i)
end
def uk (n:Nat):Prop:=∀{a0:Z1}{f:az}{a2:af}{a3:Int}{oT:Ab.Obj}{b:Nat}{gT:Nat}{r:(af×Int×Z1)},eZ n a0 f a2 a3=some r->∀(H:ai) (g:H b=some (.cells (Z1.c a0))) (i:H gT=some oT) (j:fU Tryz.prog oT),AC Tryz.prog 118 [.d (.ptr b 0),.agg (az.c f),.agg (af.c a2),.d (.int .i64 a3)] H fun v h'=>v=.cF [.agg (af.c r.1),.d (.int .i64 r.2.1)]/\h'=(H.set b (some (.cells (Z1.c r.2.2))))
def ul (n:Nat):Prop:=∀{a0:Z1}{f:az}{a2:af}{a3:Int}{oT:Ab.Obj}{b:Nat}{gT:Nat}{r:(af×Int×Z1)},rH n a0 f a2 a3=some r->∀(H:ai) (g:H b=some (.cells (Z1.c a0))) (i:H gT=some oT) (j:fU Tryz.prog oT),AC Tryz.prog 147 [.d (.ptr b 0),.agg (az.c f),.agg (af.c a2),.d (.int .i64 a3)] H fun v h'=>v=.cF [.agg (af.c r.1),.d (.int .i64 r.2.1)]/\h'=(H.set b (some (.cells (Z1.c r.2.2))))
def um (n:Nat):Prop:=∀{a0:Z1}{f:aj}{a2:af}{a3:Int}{oT:Ab.Obj}{b:Nat}{gT:Nat}{r:(af×Int×Z1)},rI n a0 f a2 a3=some r->∀(H:ai) (g:H b=some (.cells (Z1.c a0))) (i:H gT=some oT) (j:fU Tryz.prog oT),AC Tryz.prog 148 [.d (.ptr b 0),.agg (aj.c f),.agg (af.c a2),.d (.int .i64 a3)] H fun v h'=>v=.cF [.agg (af.c r.1),.d (.int .i64 r.2.1)]/\h'=(H.set b (some (.cells (Z1.c r.2.2))))
def uo (n:Nat):Prop:=∀{a0:Z1}{f:Z8}{a2:Int}{oT:Ab.Obj}{b:Nat}{gT:Nat}{r:(af×Int×Z1)},gX n a0 f a2=some r->∀(H:ai) (g:H b=some (.cells (Z1.c a0))) (i:H gT=some oT) (j:fU Tryz.prog oT),AC Tryz.prog 166 [.d (.ptr b 0),.agg (Z8.c f),.d (.int .i64 a2)] H fun v h'=>v=.cF [.agg (af.c r.1),.d (.int .i64 r.2.1)]/\h'=(H.set b (some (.cells (Z1.c r.2.2))))
theorem Rf (n:Nat) (az:uk (ax:=ax) n) (t:ul (ax:=ax) n) (u:um (ax:=ax) n) (aA:uo (ax:=ax) n):uk (ax:=ax) (n+1):=by
 intro g aB aw aR oT f gT r b H aC aD v;rw [eZ] at b;refine AC.oW 119 [.cell 8 61,.tmp 9] Tryz.call118 Tryz.func118 ?_;have aE:gT≠f:=fun w=>by subst w; obtain⟨_,_,_,aF,_⟩:=v; simp_all
 refine ah.dx (h':=(H.set f (some (.cells (Z1.c g))))) (by funext n_; simp only [ai.set]; (repeat' split)<;>simp_all) ?_;refine ag (S BX ?_);refine sL (sM rfl (by repeat (first|exact bL.nil|apply bL.cons))) rfl ?_;refine Sl ?_;refine S As (nil ?_);refine ay fun x i=>?_;refine ah.cr (Sd Mv (Sd NP ?_));refine au.s0 (bE (TK rfl) rfl rfl (TK rfl) rfl rfl) rfl ?_;refine au.s0 (bZ (TK rfl) rfl rfl av rfl) rfl ?_
 refine Sd Fv (Sd Ld ?_);obtain⟨aG,y,b⟩:=vT (Cl _ _) b;refine cM rfl rfl (Cm y) ?_;refine Sd NB ?_;refine au.nil (by decide +kernel) ?_;refine cE b (fun B b=>?_) (fun B b=>?_)
 ·refine ag (S BU ?_);refine Sf ?_;refine S As (nil ?_);exact rt b
 refine sk i ?_;clear i x;obtain⟨C,E,b⟩:=mT b;refine eb (TA 0 (TA 3 (TA 5 (TA 6 (TA 8 kN))))) (fun(z:Z1×af×af)=>[]) (fun z=>[af.c z.2.1,af.c z.2.2]) (fun z=>(H.set f (some (.cells (Z1.c z.1))))) (fun z=>(C z.1 z.2.1)=some r) ?_ ?_
 ·intro aH j;refine ag (S FL (S LL (S BI (S Mv (G0 Mv ?_)))));refine G1 29 rfl NP ?_;refine gC rfl rfl (fun hC=>aK (k:=30) rfl (bE (TK rfl) rfl rfl (TK rfl) rfl rfl)) rfl ?_;refine gC rfl rfl (fun hC=>aK (k:=31) rfl (bZ (TK rfl) rfl rfl av rfl)) rfl ?_;refine S PA (nil ?_);refine cE b (fun F b=>?_) (fun F b=>?_)
  ·refine ah.cr (Sd Mv (Sd NP ?_));refine au.s0 (bE (TK rfl) rfl rfl (TK rfl) rfl rfl) rfl ?_;refine au.s0 (bZ (TK rfl) rfl rfl av rfl) rfl ?_;refine Sd FL (Sd LL ?_);obtain⟨G,I,b⟩:=qT (CL _ _) b;refine cM rfl rfl (CM I) ?_;refine Sd Mv (Sd EX (Sd EX ?_));refine au.dB (eG (TK rfl) rfl rfl rfl rfl rfl) ?_;refine au.nil (by decide +kernel) ?_;refine ag (S FL (S LL (S BI (nil ?_))))
   refine cE b (fun J b=>?_) (fun J b=>?_)
   ·refine ag (S Mv (S LL (S Mv ?_)));obtain⟨K,L,b⟩:=qT (Q0 _ _ _) b;refine sH (bP rfl rfl (QZ L _ av)) rfl ?_;refine hq (H.set f (some (.cells (Z1.c K.2)))) ?_;refine S As (nil ?_);refine ay fun M l=>?_;refine ag (S Mv (S BI (nil ?_)));refine cE b (fun N b=>?_) (fun N b=>?_)
    ·refine ag (S BU (S Mv ?_));refine Sf ?_;refine S As (nil ?_);exact rt b
    refine sk l ?_;clear l M;refine ag (S LL ?_);refine Sf ?_;refine S As (nil ?_);exact rt b
   refine ah.skip ?_;exact j _ (g,G.1,af.zero) wA b
  refine ah.skip ?_;exact j _ (g,aw,af.zero) wA b
 rintro ⟨aI,aJ,aL⟩ b;try dsimp only at b
 rw [E] at b;try dsimp only at b
 refine ay fun O m=>?_;refine ag (S Mv (S Mv ?_));obtain⟨P,Q,b⟩:=qT (HB _ _) b;refine sH (bP rfl rfl (HC Q _ av)) rfl ?_;refine hq (H.set f (some (.cells (Z1.c P.2)))) ?_;refine S As (nil ?_);refine ag (S Mv (S BI (nil ?_)));refine cE b (fun R b=>?_) (fun R b=>?_)
 ·refine ag (S BU (S Mv ?_));refine Sf ?_;refine S As (nil ?_);exact rt b
 refine sk m ?_;clear m O;refine ay fun U o=>?_;refine ag (S FL (S LL (S BI (nil ?_))));refine cE b (fun W b=>?_) (fun W b=>?_)
 ·refine ay fun X p=>?_;refine ag (S Ld ?_);obtain⟨aM,Y,b⟩:=vT (pO _) b;refine Sc rfl rfl (pP Y) ?_;refine nil ?_;refine cE b (fun Z b=>?_) (fun Z b=>?_)
  ·refine ag (S BU ?_);refine Sf ?_;refine S As (nil ?_);exact rt b
  refine sk p ?_;clear p X;refine ag (S BU ?_);refine Sf ?_;refine S As (nil ?_);exact rt b
 refine sk o ?_;clear o U;refine ay fun aa q=>?_;refine ag (S Ld ?_);obtain⟨aN,ab,b⟩:=qT (Cz _) b;refine Sc rfl rfl (CA ab) ?_;refine S Mv (S EX (S EX ?_));refine Sl ?_;refine Sf ?_;refine S As (nil ?_);refine bu 12 _ rfl (KA 0 (KA 3 (KA 5 (KA 6 (KA 8 (KA 13 aS.nil)))))) ?_;refine ag (S Mv (nil ?_));refine cE b (fun ad b=>?_) (fun ad b=>?_)
 ·refine ag (S Mv (S Ld (S LL (S Mv ?_))));obtain⟨ae,aj,b⟩:=qT rfl b;refine sH (bP rfl rfl (t (gT:=gT) (oT:=oT) aj _ av av (by assumption))) rfl ?_;refine hq (H.set f (some (.cells (Z1.c ae.2.2)))) ?_;refine S EX (S EX ?_);refine Sf ?_;refine S As (nil ?_);exact rt b
 refine sk q ?_;clear q aa;refine ay fun ak s=>?_;refine ah.cr (Sd Mv (Sd NP ?_));refine au.s0 (bE (TK rfl) rfl rfl (TK rfl) rfl rfl) rfl ?_;refine au.s0 (bZ (TK rfl) rfl rfl av rfl) rfl ?_;refine Sd Fv (Sd Ld ?_);obtain⟨aO,al,b⟩:=vT (lT _ _) b;refine cM rfl rfl (kz al) ?_;refine Sd Mv (Sd EX (Sd EX ?_));refine au.sB (TK rfl) rfl rfl ?_ (by repeat (first|exact bL.nil|apply bL.cons))
 refine au.dB (eG (TK rfl) rfl rfl rfl rfl rfl) ?_;refine Sd As ?_;refine au.nil (by decide +kernel) ?_;refine bu 14 _ rfl (KA 0 (KA 3 (KA 5 (KA 6 (KA 8 (KA 15 aS.nil)))))) ?_;refine ag (S Mv (S Mv (G0 Fv ?_)));refine G1 95 rfl Ld ?_;obtain⟨aP,am,b⟩:=k9 (fun _=>(ru _)) b;refine dz 96 rfl rfl rfl rfl rfl (fun hC=>ry (am hC)) ?_;refine G1 97 rfl NB ?_;refine S PA (S Mv (G0 Fv ?_))
 refine G1 101 rfl Ld ?_;refine G1 102 rfl BI ?_;refine S PA (nil ?_);refine cE b (fun an b=>?_) (fun an b=>?_)
 ·refine ag (S Mv (S Ld (S LL (S Mv ?_))));obtain⟨ao,ap,b⟩:=qT rfl b;refine sH (bP rfl rfl (u (gT:=gT) (oT:=oT) ap _ av av (by assumption))) rfl ?_;refine hq (H.set f (some (.cells (Z1.c ao.2.2)))) ?_;refine S EX (S EX ?_);refine Sf ?_;refine S As (nil ?_);exact rt b
 refine sk s ?_;clear s ak;refine ag (S Mv (S Fv (S Ld (S LL ?_))));obtain⟨aQ,aq,b⟩:=qT (Rc _ _ _) b;refine s0 (eu rfl rfl (Re (gT:=gT) (oT:=oT) aq _ av av (by assumption))) rfl ?_;refine S EX (S EX ?_);refine Sf ?_;refine S As (nil ?_);exact rt b
theorem Rg (n:Nat) (W:uk (ax:=ax) n) (aF:ul (ax:=ax) n) (aG:um (ax:=ax) n) (aH:uo (ax:=ax) n):ul (ax:=ax) (n+1):=by
 intro B C R U oT i gT r b H aI aJ X;rw [rH] at b;refine AC.oW 51 [.cell 8 61,.tmp 9] Tryz.call147 Tryz.func147 ?_;have aK:gT≠i:=fun k=>by subst k; obtain⟨_,_,_,aL,_⟩:=X; simp_all
 refine ah.dx (h':=(H.set i (some (.cells (Z1.c B))))) (by funext n_; simp only [ai.set]; (repeat' split)<;>simp_all) ?_;refine ag (S BX (S BX ?_));refine Sl ?_;refine S As (nil ?_);refine ag (S Fv ?_);refine s0 (dZ (TK rfl) rfl rfl (congrArg (fun x=>some (A.d x)) (af.dW _))) rfl ?_;refine S As (nil ?_);obtain⟨Y,Z,b⟩:=bW b;refine aQ (TA 0 (TA 3 (TA 5 (TA 8 kN)))) (fun(z:(Sl af))=>[(10,.a (.d (Sl.d 5 af.c none z)))]) (fun z=>(H.set i (some (.cells (Z1.c B))))) (fun z=>Y z=some r) ?_ ?_
 ·intro aM E;refine ag (S Fv (S Ld (S BI (nil ?_))));refine cP b (fun aa b=>?_) (fun aa b=>?_)
  ·refine region ?_;refine S Ld (S BV (S As (nil ?_)));exact E _ (⟨false,[R]⟩:Sl af) wA b
  refine ah.skip ?_;exact E _ R.aD wA b
 rintro q b;try dsimp only at b
 have b:=ku Z b;refine ag (S BU ?_);refine Sl ?_;refine aP.tok 5 fun g F=>?_;obtain⟨aR,F⟩:=ai.dP F;have aT:g≠gT:=fun k=>by subst k; simp_all
 refine aP.cU 1 _ rfl (fun j w cs hh hx=>tok_cell 3 5 5 hh (t:=g) av hx rfl) ?_;refine Sf ?_;refine aP.cU 1 _ rfl (fun j w cs hh hx=>tok_cell 3 5 5 hh (t:=g) av hx rfl) ?_;refine nil ?_;refine eb (TA 8 (TA 11 kN)) (fun(z:Z1×af×af)=>[]) (fun z=>[af.c z.2.1,((bC .i64) z.2.2.an++(bC .i64) z.2.2.bl++aO z.2.2.bg++[Sl.d 5 af.c (some g) z.2.2.aD]++(fun s=>[Sl.d 1 aO none s]) z.2.2.aN)]) (fun z=>((H.set i (some (.cells (Z1.c z.1)))).set g (some (.tok 5 z.2.2.aD.l.length)))) (fun z=>(some (z.2.2,(0:Int),z.1))=some r) ?_ ?_
 ·intro aU ab;refine ag (S Mv ?_);refine sLen (f:=af.c) (s:=q) (TK rfl) rfl rfl rfl rfl fun aV=>?_;refine S Mv (nil ?_);refine block ?_;obtain⟨G,I,b⟩:=b_ b;refine gb (TA 0 (TA 3 (TA 5 (TA 8 (TA 11 (TA 24 (TA 25 kN))))))) (fun(z:Nat×Z1×af×af)=>[(26,.a (.d (.int .i64 ((z.1:Nat):Int))))]) (fun z=>[af.c z.2.2.1,((bC .i64) z.2.2.2.an++(bC .i64) z.2.2.2.bl++aO z.2.2.2.bg++[Sl.d 5 af.c (some g) z.2.2.2.aD]++(fun s=>[Sl.d 1 aO none s]) z.2.2.2.aN)]) (fun z=>((H.set i (some (.cells (Z1.c z.2.1)))).set g (some (.tok 5 z.2.2.2.aD.l.length)))) (fun z=>q.l.length-z.1) (fun z=>Option.bind (mY C U (eZ n) (q.l.drop z.1) z.2.1 z.2.2.2) G=some r) (0,B,af.zero,(af.mk (5:Int) (0:Int) ([]:Bs) true ([]) (Sl.nil:Sl Bs))) b wA ?_
  rintro ⟨J,K,L,m⟩ b aW ad;try dsimp only at b
  refine ag (S BI (nil ?_));refine ay fun ae M=>?_;refine ah.bN (fun l=>Option.bind (mY C U (eZ n) l K m) G=some r) b rfl (fun aX N u b=>?_) (fun u b=>?_)
  ·rw [mY] at b;try dsimp only at u
   have aY:=oD u;refine sk M ?_;clear M ae;refine ay fun aj O=>?_;refine block ?_;refine ag ?_;obtain⟨aZ,ak,b⟩:=vO N b;refine S (ix af.c J ak) (S Ld ?_);refine Sl ?_;refine Sf ?_;refine nil ?_;refine bu 13 _ rfl (KA 0 (KA 3 (KA 5 (KA 8 (KA 11 (KA 24 (KA 25 (KA 26 aS.nil)))))))) ?_;refine ag (S Mv (S Ld (S Ld (S Mv ?_))));obtain⟨a0,al,b⟩:=qO rfl b
   refine s0 (eR rfl rfl al) rfl ?_;obtain⟨p,ao,b⟩:=qO rfl b;refine sH (bP rfl rfl (W (gT:=gT) (oT:=oT) ao _ av av (by assumption))) rfl ?_;refine hq ((H.set i (some (.cells (Z1.c p.2.2)))).set g (some (.tok 5 m.aD.l.length))) ?_;refine S Mv (S EX (S EX ?_));refine Sl ?_;refine Sf ?_;refine S As (nil ?_);refine bu 14 _ rfl (KA 0 (KA 3 (KA 5 (KA 8 (KA 11 (KA 15 (KA 24 (KA 25 (KA 26 aS.nil))))))))) ?_
   refine ay fun ap P=>?_;refine ag (S Mv (S BI (nil ?_)));refine cO b (fun aq b=>?_) (fun aq b=>?_)
   ·refine ag (S BU (S Mv ?_));refine Sf ?_;refine S As (nil ?_);refine ah.ret ?_;repeat (first|refine bF ?_|refine bG ?_)
    have b:=ku I b;obtain rfl:=oJ b;refine bn.bH (H.set i (some (.cells (Z1.c p.2.2)))) rfl ⟨rfl,rfl⟩ ?_;intro v au o;have aw:v≠g:=fun k=>by subst k; simp_all [ai.set]
    rw [<- o];simp only [ai.set] at o ⊢
    (repeat' split)<;>simp_all
   refine sk P ?_;clear P ap;refine region ?_;refine S FL (S LL (S Ld (S BV ?_)));obtain⟨y,az,b⟩:=qO rfl b;refine SH (am af.c (TK rfl) rfl (TK rfl) (TK rfl) az) ?_;refine hq ((H.set i (some (.cells (Z1.c p.2.2)))).set g (some (.tok 5 y.l.length))) ?_;refine S FL ?_;refine Sf ?_;refine nil ?_;refine O _ ?_;clear O aj;refine region ?_;refine SI ?_;refine S Mv (nil ?_)
   exact ad _ ((J+1),p.2.2,L,(af.mk m.an m.bl m.bg y.nl y.l m.aN)) wA b (dl N)
  rw [mY] at b;have b:=ku I b;try dsimp only at b
  refine ah.exit ?_;obtain⟨a1,aA,b⟩:=bW b;have b:=ku aA b;exact ab _ (K,L,m) wA b
 rintro ⟨aB,a2,aC⟩ b;try dsimp only at b
 refine ay fun aE Q=>?_;refine ah.cU 1 _ rfl (fun j w cs hh hx=>jt 3 hx rfl) ?_;refine ah.cU 1 (af.c aC) rfl (fun j w cs hh hx=>by rw [af.jX]; exact hx) ?_;refine region ?_;refine S LL ?_;refine Sf ?_;refine S As (nil ?_);refine Q _ ?_;clear Q aE;refine ah.ret ?_;repeat (first|refine bF ?_|refine bG ?_)
 obtain rfl:=oJ b;refine bn.bH (H.set i (some (.cells (Z1.c aB)))) rfl ⟨rfl,rfl⟩ ?_;intro v au o;have aw:v≠g:=fun k=>by subst k; simp_all [ai.set]
 rw [<- o];simp only [ai.set] at o ⊢
 (repeat' split)<;>simp_all
theorem Rh (n:Nat) (aB:uk (ax:=ax) n) (bz:ul (ax:=ax) n) (bA:um (ax:=ax) n) (aC:uo (ax:=ax) n):um (ax:=ax) (n+1):=by
 intro v p x I oT o gT r b H bB bD aE;rw [rI] at b;refine AC.oW 124 [.cell 8 61,.tmp 9] Tryz.call148 Tryz.func148 ?_;have bE:gT≠o:=fun q=>by subst q; obtain⟨_,_,_,bI,_⟩:=aE; simp_all
 refine ah.dx (h':=(H.set o (some (.cells (Z1.c v))))) (by funext n_; simp only [ai.set]; (repeat' split)<;>simp_all) ?_;refine ag (S BX (S BX ?_));refine Sl ?_;refine S As (nil ?_);refine ay fun aF W=>?_;refine ag (S Fv (S Ld (S BI (nil ?_))));refine cE b (fun aG b=>?_) (fun aG b=>?_)
 ·refine ag (S BU ?_);refine Sf ?_;refine S As (nil ?_);exact rt b
 refine sk W ?_;clear W aF;refine eb (TA 0 (TA 3 (TA 5 (TA 6 (TA 8 kN))))) (fun(z:af)=>[]) (fun z=>[af.c z]) (fun z=>(H.set o (some (.cells (Z1.c v))))) (fun z=>(Option.bind (fZ p x I (eZ n) (gX n) p.aL.l 0 v (af.mk (6:Int) (0:Int) ([]:Bs) true ([]) (Sl.nil:Sl Bs))) fun aH=>match aH with|Sum.inl X=>(on ((X.1,X.2)) fun Y=>some (Y.2,(0:Int),Y.1))|Sum.inr aI=>(some aI))=some r) ?_ ?_
 ·intro bK aJ;refine ag (S Fv (S Ld ?_));refine sLen (f:=aO) (s:=x.aN) (TK rfl) rfl rfl rfl rfl fun bM=>?_;refine S Mv (nil ?_);refine block ?_;obtain⟨Z,ab,b⟩:=bW b;refine gb (TA 0 (TA 3 (TA 5 (TA 6 (TA 8 (TA 28 (TA 29 kN))))))) (fun(z:Nat×af)=>[(30,.a (.d (.int .i64 ((z.1:Nat):Int))))]) (fun z=>[af.c z.2]) (fun z=>(H.set o (some (.cells (Z1.c v))))) (fun z=>x.aN.l.length-z.1) (fun z=>Z (oy v p (x.aN.l.drop z.1) )=some r) (0,af.zero) b wA ?_
  rintro ⟨ad,ae⟩ b bO aM;try dsimp only at b
  refine ag (S BI (nil ?_));refine ay fun aQ aj=>?_;refine ah.bN (fun l=>Z (oy v p l )=some r) b rfl (fun bQ ak O b=>?_) (fun O b=>?_)
  ·rw [oy] at b;try dsimp only at O
   have bR:=oD O;refine sk aj ?_;clear aj aQ;refine ay fun aR al=>?_;refine block ?_;refine ag ?_;obtain⟨bS,aT,b⟩:=vP ak b;refine S (ix aO ad aT) (S Ld (S As (nil ?_)));refine ag (S Fv (S Ld (S Mv ?_)));obtain⟨bT,aU,b⟩:=vP (yw _ _) b;refine Sc rfl rfl (yx aU) ?_;refine S Mv (S EX (S EX ?_));refine Sl ?_;refine Sf ?_;refine S As (nil ?_)
   refine bu 12 _ rfl (KA 0 (KA 3 (KA 5 (KA 6 (KA 8 (KA 13 (KA 28 (KA 29 (KA 30 aS.nil))))))))) ?_;refine ag (S Mv (S NB (nil ?_)));refine cP b (fun aV b=>?_) (fun aV b=>?_)
   ·refine ag (S BU ?_);refine Sf ?_;refine S As (nil ?_);refine ah.ret ?_;repeat (first|refine bF ?_|refine bG ?_)
    have b:=ku ab b;obtain rfl:=oJ b;refine bn.bH (H.set o (some (.cells (Z1.c v)))) rfl ⟨rfl,rfl⟩ ?_;exact(fun _ _ h=>h)
   refine sk al ?_;clear al aR;refine region ?_;refine SI ?_;refine S Mv (nil ?_);exact aM _ ((ad+1),ae) wA b (dl ak)
  rw [oy] at b;have b:=ku ab b;try dsimp only at b
  refine ah.exit ?_;obtain⟨bU,aX,b⟩:=bW b;have b:=ku aX b;exact aJ _ ae wA b
 rintro aY b;try dsimp only at b
 refine ag (S BU ?_);refine Sl ?_;refine aP.tok 5 fun i am=>?_;obtain⟨bV,am⟩:=ai.dP am;have bX:i≠gT:=fun q=>by subst q; simp_all
 refine aP.cU 1 _ rfl (fun j w cs hh hx=>tok_cell 3 5 5 hh (t:=i) av hx rfl) ?_;refine aP.tok 1 fun m J=>?_;obtain⟨bY,J⟩:=ai.dP J;obtain⟨bZ,J⟩:=ai.dP J;have b0:m≠gT:=fun q=>by subst q; simp_all
 refine aP.cU 1 _ rfl (fun j w cs hh hx=>tok_cell 4 1 1 hh (t:=m) av hx rfl) ?_;refine Sf ?_;refine aP.cU 1 _ rfl (fun j w cs hh hx=>tok_cell 3 5 5 hh (t:=i) av hx rfl) ?_;refine aP.cU 1 _ rfl (fun j w cs hh hx=>tok_cell 4 1 1 hh (t:=m) av hx rfl) ?_;refine nil ?_;refine eb (TA 8 (TA 14 kN)) (fun(z:Z1×af×af)=>[]) (fun z=>[af.c z.2.1,((bC .i64) z.2.2.an++(bC .i64) z.2.2.bl++aO z.2.2.bg++[Sl.d 5 af.c (some i) z.2.2.aD]++[Sl.d 1 aO (some m) z.2.2.aN])]) (fun z=>(((H.set o (some (.cells (Z1.c z.1)))).set i (some (.tok 5 z.2.2.aD.l.length))).set m (some (.tok 1 z.2.2.aN.l.length)))) (fun z=>(some (z.2.2,(0:Int),z.1))=some r) ?_ ?_
 ·intro b1 aZ;refine ag (S Fv (S Ld ?_));refine sLen (f:=Z8.c) (s:=p.aL) (TK rfl) rfl rfl rfl rfl fun b2=>?_;refine S Mv (nil ?_);refine block ?_;obtain⟨K,ao,b⟩:=b_ b;refine gb (TA 0 (TA 3 (TA 5 (TA 6 (TA 8 (TA 14 (TA 47 (TA 48 kN)))))))) (fun(z:Nat×Z1×af×af)=>[(49,.a (.d (.int .i64 ((z.1:Nat):Int))))]) (fun z=>[af.c z.2.2.1,((bC .i64) z.2.2.2.an++(bC .i64) z.2.2.2.bl++aO z.2.2.2.bg++[Sl.d 5 af.c (some i) z.2.2.2.aD]++[Sl.d 1 aO (some m) z.2.2.2.aN])]) (fun z=>(((H.set o (some (.cells (Z1.c z.2.1)))).set i (some (.tok 5 z.2.2.2.aD.l.length))).set m (some (.tok 1 z.2.2.2.aN.l.length)))) (fun z=>p.aL.l.length-z.1) (fun z=>Option.bind (fZ p x I (eZ n) (gX n) (p.aL.l.drop z.1) z.1 z.2.1 z.2.2.2) K=some r) (0,v,aY,(af.mk (6:Int) (0:Int) ([]:Bs) true ([]) (Sl.nil:Sl Bs))) b wA ?_
  rintro ⟨u,B,C,g⟩ b b3 a0;try dsimp only at b
  refine ag (S BI (nil ?_));refine ay fun a1 ap=>?_;refine ah.bN (fun l=>Option.bind (fZ p x I (eZ n) (gX n) l u B g) K=some r) b rfl (fun b4 aq P b=>?_) (fun P b=>?_)
  ·rw [fZ] at b;try dsimp only at P
   have b5:=oD P;refine sk ap ?_;clear ap a1;refine eb (TA 0 (TA 3 (TA 5 (TA 6 (TA 8 (TA 14 (TA 47 (TA 48 (TA 49 kN))))))))) (fun(z:Z1×af×af)=>[]) (fun z=>[af.c z.2.1,((bC .i64) z.2.2.an++(bC .i64) z.2.2.bl++aO z.2.2.bg++[Sl.d 5 af.c (some i) z.2.2.aD]++[Sl.d 1 aO (some m) z.2.2.aN])]) (fun z=>(((H.set o (some (.cells (Z1.c z.1)))).set i (some (.tok 5 z.2.2.aD.l.length))).set m (some (.tok 1 z.2.2.aN.l.length)))) (fun z=>Option.bind (fZ p x I (eZ n) (gX n) (p.aL.l.drop (u+1)) (u+1) z.1 z.2.2) K=some r) ?_ ?_
   ·intro b6 R;refine block ?_;refine ag (S Mv ?_);obtain⟨a2,a3,b⟩:=vO aq b;refine S (ix Z8.c u a3) (S Ld ?_);refine Sl ?_;refine S As ?_;refine Sf ?_;refine nil ?_;refine bu 16 _ rfl (KA 0 (KA 3 (KA 5 (KA 6 (KA 8 (KA 14 (KA 15 (KA 47 (KA 48 (KA 49 aS.nil)))))))))) ?_;refine ay fun a4 aw=>?_;refine ah.cr (Sd Fv (Sd Ld (Sd Mv ?_)));obtain⟨b7,a5,b⟩:=vO (Q.qP (by omega)) b
    refine au.s0 (mm (f:=Z8.c) (l:=none) (r:=(some ((u:Nat):Int))) (TK rfl) rfl (TK rfl) rfl rfl trivial rfl a5) rfl ?_;refine Sd Fv (Sd Ld ?_);obtain⟨b8,a6,b⟩:=vO (yw _ _) b;refine cM rfl rfl (yx a6) ?_;refine Sd Mv (Sd EX (Sd EX ?_));refine au.sB (TK rfl) rfl rfl ?_ (by repeat (first|exact bL.nil|apply bL.cons));refine au.dB (eG (TK rfl) rfl rfl rfl rfl rfl) ?_
    refine Sd As ?_;refine au.nil (by decide +kernel) ?_;refine bu 17 _ rfl (KA 0 (KA 3 (KA 5 (KA 6 (KA 8 (KA 14 (KA 16 (KA 18 (KA 47 (KA 48 (KA 49 aS.nil))))))))))) ?_;refine ag (S Mv (nil ?_));obtain⟨_,rfl,b⟩:=mO b;refine cO b (fun a7 b=>?_) (fun a7 b=>?_)
    ·refine ah.exit ?_;exact R _ (B,C,g) wA b
    refine sk aw ?_;clear aw a4;refine ag (S Ld (S Fv (S Ld ?_)));obtain⟨b9,a8,b⟩:=qO (CL _ _) b;refine Sc rfl rfl (CM a8) ?_;refine S Mv (S EX (S EX ?_));refine Sl ?_;refine Sf ?_;refine S As (nil ?_);refine bu 19 _ rfl (KA 0 (KA 3 (KA 5 (KA 6 (KA 8 (KA 14 (KA 16 (KA 20 (KA 47 (KA 48 (KA 49 aS.nil))))))))))) ?_;refine ag ?_;refine Sl ?_;refine nil ?_;refine ag (S As (nil ?_))
    refine eb (TA 0 (TA 3 (TA 5 (TA 6 (TA 8 (TA 14 (TA 16 (TA 21 (TA 47 (TA 48 (TA 49 kN))))))))))) (fun(z:Int×Z1×af)=>[(22,.a (.d (.int .i64 z.1)))]) (fun z=>[af.c C,((bC .i64) g.an++(bC .i64) g.bl++aO g.bg++[Sl.d 5 af.c (some i) g.aD]++[Sl.d 1 aO (some m) g.aN]),af.c z.2.2]) (fun z=>(((H.set o (some (.cells (Z1.c z.2.1)))).set i (some (.tok 5 g.aD.l.length))).set m (some (.tok 1 g.aN.l.length)))) (fun z=>Option.bind (bif (!decide (z.1=(0:Int))) then(some (Sum.inr ((af.mk (0:Int) (0:Int) ([]:Bs) true ([]) (Sl.nil:Sl Bs)),z.1,z.2.1))) else((aW 16 g.aN (⟨false,[a2.aa]⟩:Sl Bs)).bind fun E=>(aW 80 g.aD (⟨false,[z.2.2]⟩:Sl af)).bind fun y=>(fZ p x I (eZ n) (gX n) (p.aL.l.drop (u+1)) (u+1) z.2.1 (af.mk g.an g.bl g.bg y.nl y.l E)))) K=some r) ?_ ?_
    ·intro b' U;refine block ?_;refine ag (S Mv (S Mv (G0 Mv (G0 Ld ?_))));obtain⟨ca,a9,b⟩:=eS (Hz _ _) b;refine gC rfl rfl (fun hC=>aK (k:=75) rfl (aK (k:=76) rfl (eu rfl rfl (HA (a9 hC) _ av)))) rfl ?_;refine G1 77 rfl NB ?_;refine S PA (S As (nil ?_));obtain⟨_,rfl,b⟩:=mO b;refine cO b (fun a_ b=>?_) (fun a_ b=>?_)
     ·refine region ?_;refine S Mv (S Fv (S Ld (S Ld (S Mv ?_))));obtain⟨cb,a',b⟩:=qO rfl b;refine s0 (eR rfl rfl a') rfl ?_;obtain⟨L,ba,b⟩:=qO rfl b;refine sH (bP rfl rfl (aB (gT:=gT) (oT:=oT) ba _ av av (by assumption))) rfl ?_;refine hq (((H.set o (some (.cells (Z1.c L.2.2)))).set i (some (.tok 5 g.aD.l.length))).set m (some (.tok 1 g.aN.l.length))) ?_
      refine S Mv (S EX (S EX ?_));refine Sf ?_;refine S As (nil ?_);exact U _ (L.2.1,L.2.2,L.1) wA b
     refine ag (S Fv (S Ld (S As (nil ?_))));refine cO b (fun bb b=>?_) (fun bb b=>?_)
     ·refine region ?_;refine S Mv (S Ld (S Mv ?_));obtain⟨cc,bc,b⟩:=qO rfl b;refine s0 (eR rfl rfl bc) rfl ?_;obtain⟨M,bd,b⟩:=qO rfl b;refine sH (bP rfl rfl (aC (gT:=gT) (oT:=oT) bd _ av av (by assumption))) rfl ?_;refine hq (((H.set o (some (.cells (Z1.c M.2.2)))).set i (some (.tok 5 g.aD.l.length))).set m (some (.tok 1 g.aN.l.length))) ?_
      refine S Mv (S EX (S EX ?_));refine Sf ?_;refine S As (nil ?_);exact U _ (M.2.1,M.2.2,M.1) wA b
     refine ag (S Fv (S Ld ?_));obtain⟨cd,be,b⟩:=vO (pO _) b;refine Sc rfl rfl (pP be) ?_;refine S As (nil ?_);refine cO b (fun bf b=>?_) (fun bf b=>?_)
     ·refine region ?_;refine S As (nil ?_);exact U _ ((22:Int),B,af.zero) wA b
     refine ah.exit ?_;exact R _ (B,C,g) wA b
    rintro ⟨ce,N,cf⟩ b;try dsimp only at b
    refine ay fun bh az=>?_;refine ag (S Mv (S BI (nil ?_)));refine cO b (fun bi b=>?_) (fun bi b=>?_)
    ·refine ag (S BU (S Mv ?_));refine Sf ?_;refine S As (nil ?_);refine ah.ret ?_;repeat (first|refine bF ?_|refine bG ?_)
     have b:=ku ao b;obtain rfl:=oJ b;refine bn.bH (H.set o (some (.cells (Z1.c N)))) rfl ⟨rfl,rfl⟩ ?_;intro F bj G;have bk:F≠i:=fun q=>by subst q; simp_all [ai.set]
     have bm:F≠m:=fun q=>by subst q; simp_all [ai.set]
     rw [<- G];simp only [ai.set] at G ⊢
     (repeat' split)<;>simp_all
    refine sk az ?_;clear az bh;refine ah.draw rfl ?_;refine Sd FL (Sd LL (Sd Fv (Sd Ld (Sd BV ?_))));obtain⟨E,bo,b⟩:=qO rfl b;refine au.sH (jU (f:=aO) (TK rfl) rfl (TK rfl) (TK rfl) ⟨_,rfl⟩ rfl rfl (by decide) rfl rfl rfl rfl av rfl bo) rfl ?_;refine au.Dh (((H.set o (some (.cells (Z1.c N)))).set i (some (.tok 5 g.aD.l.length))).set m (some (.tok 1 E.l.length))) ?_
    refine Sd FL (Sd LL (Sd LL (Sd BV ?_)));obtain⟨y,bp,b⟩:=qO rfl b;refine au.sH (jU (f:=af.c) (TK rfl) rfl (TK rfl) (TK rfl) ⟨_,rfl⟩ rfl rfl (by decide) rfl rfl rfl rfl av rfl bp) rfl ?_;refine au.Dh (((H.set o (some (.cells (Z1.c N)))).set i (some (.tok 5 y.l.length))).set m (some (.tok 1 E.l.length))) ?_;refine Sd FL ?_;refine au.dB (qE (TK rfl) rfl rfl rfl rfl (by repeat (first|exact bJ.zero|apply bJ.succ)) (by repeat (first|exact bJ.zero|apply bJ.succ))) ?_
    refine Sd FL ?_;refine au.dB (qE (TK rfl) rfl rfl rfl rfl (by repeat (first|exact bJ.zero|apply bJ.succ)) (by repeat (first|exact bJ.zero|apply bJ.succ))) ?_;refine au.nil (by decide +kernel) ?_;exact R _ (N,C,(af.mk g.an g.bl g.bg y.nl y.l E)) wA b
   rintro ⟨bq,br,bs⟩ b;try dsimp only at b
   refine region ?_;refine SI ?_;refine S Mv (nil ?_);exact a0 _ ((u+1),bq,br,bs) wA b (dl aq)
  rw [fZ] at b;have b:=ku ao b;try dsimp only at b
  refine ah.exit ?_;obtain⟨cg,bt,b⟩:=bW b;have b:=ku bt b;exact aZ _ (B,C,g) wA b
 rintro ⟨bv,ch,bw⟩ b;try dsimp only at b
 refine ay fun bx aA=>?_;refine ah.cU 1 _ rfl (fun j w cs hh hx=>jt 3 hx rfl) ?_;refine ah.cU 1 _ rfl (fun j w cs hh hx=>jt 4 hx rfl) ?_;refine ah.cU 1 (af.c bw) rfl (fun j w cs hh hx=>by rw [af.jX]; exact hx) ?_;refine region ?_;refine S LL ?_;refine Sf ?_;refine S As (nil ?_);refine aA _ ?_;clear aA bx;refine ah.ret ?_;repeat (first|refine bF ?_|refine bG ?_)
 obtain rfl:=oJ b;refine bn.bH (H.set o (some (.cells (Z1.c bv)))) rfl ⟨rfl,rfl⟩ ?_;intro F bj G;have bk:F≠i:=fun q=>by subst q; simp_all [ai.set]
 have bm:F≠m:=fun q=>by subst q; simp_all [ai.set]
 rw [<- G];simp only [ai.set] at G ⊢
 (repeat' split)<;>simp_all
theorem Ri (n:Nat) (l:uk (ax:=ax) n) (x:ul (ax:=ax) n) (y:um (ax:=ax) n) (z:uo (ax:=ax) n):uo (ax:=ax) (n+1):=by
 intro g B L oT b gT r f H C E m;rw [gX] at f
 apply AC.MK (fn:=Tryz.f166) (c:=_) Tryz.bI (fun _ _=>Tryz.call166 _ _) Tryz.func166 rfl (n:=35) rfl (rs:=[.cell 6 61,.tmp 7]) rfl rfl
 have F:gT≠b:=fun i=>by subst i; obtain⟨_,_,_,G,_⟩:=m; simp_all
 refine fC.dx (h':=(H.set b (some (.cells (Z1.c g))))) (by funext n_; simp only [ai.set]; (repeat' split)<;>simp_all) ?_;refine fC.ay fun I o=>?_;refine region ?_;refine S BX (S BX ?_);refine Sl ?_;refine S As (nil ?_);refine o _ ?_;refine fC.ay fun p j=>?_;refine ah.draw rfl ?_;refine Sd Ld (Sd NP ?_);refine au.s0 (bE (TK rfl) rfl rfl (TK rfl) rfl rfl) rfl ?_;refine au.s0 (bZ (TK rfl) rfl rfl av rfl) rfl ?_
 refine Sd Ld (Sd NP ?_);refine au.s0 (bE (TK rfl) rfl rfl (TK rfl) rfl rfl) rfl ?_;refine au.s0 (bZ (TK rfl) rfl rfl av rfl) rfl ?_;refine au.sB (TK rfl) rfl rfl ?_ (by repeat (first|exact bL.nil|apply bL.cons));refine au.sB (TK rfl) rfl rfl ?_ (by repeat (first|exact bL.nil|apply bL.cons));refine au.dB (eG (TK rfl) rfl rfl rfl rfl rfl) ?_;refine au.dB (qE (TK rfl) rfl rfl rfl rfl (by repeat (first|exact bJ.zero|apply bJ.succ)) (by repeat (first|exact bJ.zero|apply bJ.succ))) ?_
 refine au.nil (by decide +kernel) ?_;refine j _ ?_;clear j p;refine fC.freeze 9 _ rfl (by repeat (first|exact bL.nil|apply bL.cons)) (KA 2 (KA 3 (KA 4 (KA 6 (KA 8 aS.nil))))) ?_;refine fC.freeze 8 _ rfl (by repeat (first|exact bL.nil|apply bL.cons)) (KA 2 (KA 3 (KA 4 (KA 6 (KA 9 aS.nil))))) ?_;refine fC.ay fun J q=>?_;refine ah.draw rfl ?_;refine Sd Ld (Sd Ld (Sd BU (Sd NP ?_)))
 refine au.s0 (bE (TK rfl) rfl rfl (TK rfl) rfl rfl) rfl ?_;refine au.dA (qF (TK rfl) rfl rfl av rfl (Nat.le_of_ble_eq_true rfl) rfl rfl) rfl rfl ?_;refine au.Dh (H.set b (some (.cells (Z1.c (Z1.mk g.Fd (af.mk (0:Int) (0:Int) ([]:Bs) true ([]) (Sl.nil:Sl Bs)) g.k_ g.nE))))) ?_;refine Sd NP ?_;refine au.s0 (bE (TK rfl) rfl rfl (TK rfl) rfl rfl) rfl ?_;refine au.dA (fO (TK rfl) rfl rfl av rfl (by repeat (first|exact bJ.zero|apply bJ.succ))) rfl rfl ?_
 refine au.Dh (H.set b (some (.cells (Z1.c (Z1.mk g.Fd (af.mk (0:Int) (0:Int) ([]:Bs) true ([]) (Sl.nil:Sl Bs)) true g.nE))))) ?_;refine au.nil (by decide +kernel) ?_;refine q _ ?_;refine fC.done ⟨_,rfl,rfl,fun fM=>?_⟩;refine ag (S Ld (S Fv (S Ld (S Fv (S Ld (S Mv ?_))))));obtain⟨s,t,f⟩:=qT rfl f;refine sH (bP rfl rfl (l (gT:=gT) (oT:=oT) t _ av av (by assumption))) rfl ?_
 refine hq (H.set b (some (.cells (Z1.c s.2.2)))) ?_;refine S EX (S EX ?_);refine Sf ?_;refine S As (nil ?_);obtain⟨u,v,f⟩:=vT (Q1 _ _ _) f;refine ah.ret ?_;repeat (first|refine bF ?_|refine bG ?_|refine ff ?_|refine fe ?_|refine fc ?_)
 refine⟨.inr rfl, ?_⟩;obtain rfl:=oJ f;refine nx.mono (Q2 v _ av) fun _ _ ⟨_,i⟩=>?_;subst i;refine⟨_,(H.set b (some (.cells (Z1.c u)))),rfl, ?_,⟨rfl,rfl⟩⟩;refine fun w K k=>?_;rw [<- k]; clear k;exact congrFun (by first|rfl|exact(ai.set_set _ _ _ _).symm|(rw [ai.set_set]; rfl)|(funext n_; simp only [ai.set]; (repeat' split)<;>first|rfl|(exfalso; simp_all; done)|(simp_all; done))) w
theorem gY:∀(n:Nat),(uk (ax:=ax) n)/\(ul (ax:=ax) n)/\(um (ax:=ax) n)/\(uo (ax:=ax) n)
 | 0=>⟨fun b=>by first|cases b|(rw [eZ] at b; cases b),fun b=>by first|cases b|(rw [rH] at b; cases b),fun b=>by first|cases b|(rw [rI] at b; cases b),fun b=>by first|cases b|(rw [gX] at b; cases b)⟩
 | n+1=>⟨Rf n (gY n).1 (gY n).2.1 (gY n).2.2.1 (gY n).2.2.2,Rg n (gY n).1 (gY n).2.1 (gY n).2.2.1 (gY n).2.2.2,Rh n (gY n).1 (gY n).2.1 (gY n).2.2.1 (gY n).2.2.2,Ri n (gY n).1 (gY n).2.1 (gY n).2.2.1 (gY n).2.2.2⟩
def HF (a0:Z1) (b:az) (a2:af) (a3:Int):Option (af×Int×Z1):=eZ F0 a0 b a2 a3
theorem Rj {g:Z1}{f:az}{i:af}{j:Int}{oT:Ab.Obj}{b gT:Nat}{r:af×Int×Z1}(k:HF g f i j=some r) (H:ai) (l:H b=some (.cells (Z1.c g))) (m:H gT=some oT) (o:fU Tryz.prog oT):AC Tryz.prog 118 [.d (.ptr b 0),.agg (az.c f),.agg (af.c i),.d (.int .i64 j)] H fun v h'=>v=.cF [.agg (af.c r.1),.d (.int .i64 r.2.1)]/\h'=(H.set b (some (.cells (Z1.c r.2.2)))):=(gY F0).1 k H l m o
def yC (f:Z1) (b:az) (g:af) (i:Int):Option (af×Int×Z1):=eZ F0 f b g i
theorem Rk (a0:Z1) (b:az) (a2:af) (a3:Int):HF a0 b a2 a3=yC a0 b a2 a3:=rfl
def mb (b:ak) (f:az) (j:af) (k:af):Option (af×Int):=(p7 (Z1.mk b k true (0:Int)) j).bind fun l=>bif l then(on (gm b f.aa) fun m=>bif (!m) then(some ((af.mk (0:Int) (0:Int) ([]:Bs) true ([]) (Sl.nil:Sl Bs)),(10:Int))) else(some ((af.mk (0:Int) (0:Int) ([]:Bs) true ([]) (Sl.nil:Sl Bs)),(8:Int)))) else((yC (Z1.mk b k true (0:Int)) f j (1:Int)).bind fun g=>(ou g.1 g.2.1).bind fun i=>some (i.1,i.2))
def CW (f:ak) (b:az) (g:af) (i:af):Option (af×Int):=mb f b g i
theorem Rm (a0:ak) (b:az) (a2:af) (a3:af):CW a0 b a2 a3=mb a0 b a2 a3:=rfl
theorem Rn {i:ak}{k:az}{o j:af}{oT:Ab.Obj}{gT:Nat}{r:af×Int}(b:CW i k o j=some r) (H:ai) (G:H gT=some oT) (I:fU Tryz.prog oT):AC Tryz.prog 78 [.agg (ak.c i),.agg (az.c k),.agg (af.c o),.agg (af.c j)] H fun v h'=>v=.cF [.agg (af.c r.1),.d (.int .i64 r.2)]/\h'=H:=by
 unfold CW mb at b;refine AC.oW 34 [.cell 8 61,.tmp 9] Tryz.call78 Tryz.func78 ?_;refine ag (S BX (S BX (S BX (S BX ?_))));refine Sl ?_;refine S As (nil ?_);refine ag (S Ld (S Ld (S BU ?_)));refine sE (c_.uP rfl) rfl (fun _ _ _ ⟨g,f,p,q,s⟩=>?_); subst p q s;have J:g≠gT:=fun t=>by subst t; simp_all
 refine hq (H.set g (some (.cells (Z1.c (Z1.mk i j true (0:Int)))))) ?_;refine S As (nil ?_);refine ay fun u l=>?_;refine ag (S Mv (S Ld ?_));obtain⟨K,w,b⟩:=qT (Hz _ _) b;refine s0 (eu rfl rfl (HA w _ av)) rfl ?_;refine nil ?_;refine cE b (fun x b=>?_) (fun x b=>?_)
 ·refine ay fun y m=>?_;refine ag (S Ld (S Fv (S Ld ?_)));obtain⟨L,z,b⟩:=vT (Cl _ _) b;refine Sc rfl rfl (Cm z) ?_;refine S NB (nil ?_);refine cE b (fun B b=>?_) (fun B b=>?_)
  ·refine ag (S BU ?_);refine Sf ?_;refine S As (nil ?_);refine ah.ret ?_;repeat (first|refine bF ?_|refine bG ?_)
   obtain rfl:=oJ b;refine bn.bH H rfl ⟨rfl,rfl⟩ ?_
   first|exact ai.cm f|(simp only [ai.set_set]; exact ai.cm f)
  refine sk m ?_;clear m y;refine ag (S BU ?_);refine Sf ?_;refine S As (nil ?_);refine ah.ret ?_;repeat (first|refine bF ?_|refine bG ?_)
  obtain rfl:=oJ b;refine bn.bH H rfl ⟨rfl,rfl⟩ ?_
  first|exact ai.cm f|(simp only [ai.set_set]; exact ai.cm f)
 refine sk l ?_;clear l u;refine ag (S Mv (S Ld (S Ld ?_)));obtain⟨C,E,b⟩:=qT (Rk _ _ _ _) b;refine sH (bP rfl rfl (Rj (gT:=gT) (oT:=oT) E _ av av (by assumption))) rfl ?_;refine hq (H.set g (some (.cells (Z1.c C.2.2)))) ?_;refine S EX (S EX ?_);obtain⟨M,F,b⟩:=qT (QW _ _) b;refine Sc rfl rfl (QX F) ?_;refine S EX (S EX ?_)
 refine Sf ?_;refine S As (nil ?_);refine ah.ret ?_;repeat (first|refine bF ?_|refine bG ?_)
 obtain rfl:=oJ b;refine bn.bH H rfl ⟨rfl,rfl⟩ ?_
 first|exact ai.cm f|(simp only [ai.set_set]; exact ai.cm f)
def rJ (b:Z8) (g:Bs) (k:ak) (f:(Sl Z6)):Option (Sl Z6):=bif (!b.bY) then(some f) else((mb k b.aA b.cB (af.mk (0:Int) (0:Int) ([]:Bs) true ([]) (Sl.nil:Sl Bs))).bind fun i=>bif (!decide (i.2=(0:Int))) then((aW 24 f (⟨false,[(Z6.mk (23:Int) g)]⟩:Sl Z6)).bind fun j=>some j) else(some f))
def CX (f:Z8) (b:Bs) (g:ak) (i:(Sl Z6)):Option (Sl Z6):=rJ f b g i
theorem HG (a0:Z8) (b:Bs) (a2:ak) (a3:(Sl Z6)):CX a0 b a2 a3=rJ a0 b a2 a3:=rfl
theorem HH {p:Z8}{k:Bs}{q:ak}{g:Sl Z6}{oT:Ab.Obj}{c3 b gT:Nat}{r:Sl Z6}(f:CX p k q g=some r) (H:ai) (z:H c3=some (.cells [Sl.d 2 Z6.c (some b) g])) (B:H b=some (.tok 2 g.l.length)) (C:H gT=some oT) (m:fU Tryz.prog oT):AC Tryz.prog 77 [.agg (Z8.c p),.d (.str k),.d (.view (ak.c q)),.d (.ptr c3 0)] H fun v h'=>v=.cF []/\h'=((H.set b (some (.tok 2 r.l.length))).set c3 (some (.cells [Sl.d 2 Z6.c (some b) r]))):=by
 unfold CX rJ at f;refine AC.oW 28 [] Tryz.call77 Tryz.func77 ?_;have E:c3≠b:=fun i=>by subst i; simp_all
 have F:gT≠b:=fun i=>by subst i; obtain⟨_,_,_,s,_⟩:=m; simp_all
 have G:gT≠c3:=fun i=>by subst i; obtain⟨_,_,_,s,_⟩:=m; simp_all
 refine ah.dx (h':=((H.set b (some (.tok 2 g.l.length))).set c3 (some (.cells ([Sl.d 2 Z6.c (some b) g]))))) (by funext n_; simp only [ai.set]; (repeat' split)<;>simp_all) ?_;refine ag (S BX (nil ?_));refine ay fun t o=>?_;refine ag (S Fv (S Ld (S NB (nil ?_))));refine cE f (fun u f=>?_) (fun u f=>?_)
 ·exact rt f
 refine sk o ?_;clear o t;refine ag (S Ld (S Fv (S Ld (S Fv (S Ld (S BU ?_))))));obtain⟨I,w,f⟩:=qT (Rm _ _ _ _) f;refine s0 (eu rfl rfl (Rn (gT:=gT) (oT:=oT) w _ av (by assumption))) rfl ?_;refine S Mv (S EX (S EX ?_));refine Sl ?_;refine Sf ?_;refine S As (nil ?_);refine bu 6 _ rfl (KA 1 (KA 3 (KA 7 aS.nil))) ?_;refine ag (S Mv (S BI (nil ?_)));refine cE f (fun x f=>?_) (fun x f=>?_)
 ·refine region ?_;refine s0 (bZ (TK rfl) rfl rfl av rfl) rfl ?_;refine S Mv (S BU (S BV ?_));obtain⟨j,y,f⟩:=qT rfl f;refine SH (am Z6.c (TK rfl) rfl (TK rfl) (TK rfl) y) ?_;refine hq ((H.set b (some (.tok 2 j.l.length))).set c3 (some (.cells ([Sl.d 2 Z6.c (some b) g])))) ?_;refine dA (fO (TK rfl) rfl rfl av rfl (by repeat (first|exact bJ.zero|apply bJ.succ))) rfl rfl ?_
  refine hq ((H.set b (some (.tok 2 j.l.length))).set c3 (some (.cells ([Sl.d 2 Z6.c (some b) j])))) ?_;refine nil ?_;repeat (first|refine ff ?_|refine fe ?_|refine fc ?_)
  obtain rfl:=oJ f;refine bn.fq ((H.set b (some (.tok 2 j.l.length))).set c3 (some (.cells ([Sl.d 2 Z6.c (some b) j])))) (xs:=[]) rfl ⟨rfl,rfl⟩ ?_;exact(fun _ _ h=>h)
 refine ah.skip ?_;repeat (first|refine ff ?_|refine fe ?_|refine fc ?_)
 obtain rfl:=oJ f;refine bn.fq ((H.set b (some (.tok 2 g.l.length))).set c3 (some (.cells ([Sl.d 2 Z6.c (some b) g])))) (xs:=[]) rfl ⟨rfl,rfl⟩ ?_;exact(fun _ _ h=>h)
def p8 (j:ak) (f:aj) (g:Z7):List Z8->(Sl Z6)->Option ((Sl Z6))
 | [],b=>some b
 | k::l,b=>on (k) fun i=>(bM f.aa ([46]:Bs)).bind fun m=>(bM m g.aa).bind fun o=>(bM o ([40]:Bs)).bind fun p=>(bM p i.aa).bind fun q=>(bM q ([41]:Bs)).bind fun r=>(rJ i r j b).bind fun s=>p8 j f g (l) s
def oz (i:ak) (f:aj):List Z7->(Sl Z6)->Option ((Sl Z6))
 | [],b=>some b
 | j::k,b=>on (j) fun g=>Option.bind (p8 i f g g.aH.l b) fun m=>on (m) fun o=>oz i f (k) o
def oA (i:ak) (f:aj):List Z8->(Sl Z6)->Option ((Sl Z6))
 | [],b=>some b
 | j::k,b=>on (j) fun g=>(bM f.aa ([46]:Bs)).bind fun l=>(bM l g.aa).bind fun m=>(rJ g m i b).bind fun o=>oA i f (k) o
def mZ (g:ak):List aj->(Sl Z6)->Option ((Sl Z6))
 | [],f=>some f
 | i::j,f=>on (i) fun b=>Option.bind (oz g b b.aB.l f) fun k=>on (k) fun m=>Option.bind (oA g b b.aL.l m) fun o=>on (o) fun p=>mZ g (j) p
def p9 (b:ak):Option (Sl Z6):=Option.bind (mZ b b.aq.l (Sl.nil:Sl Z6)) fun f=>on (f) fun g=>some g
def CY (b:ak):Option (Sl Z6):=p9 b
theorem Ro (a0:ak):CY a0=p9 a0:=rfl
theorem Rp {i:ak}{oT:Ab.Obj}{gT:Nat}{r:Sl Z6}(b:CY i=some r) (H:ai) (bc:H gT=some oT) (bd:fU Tryz.prog oT):AC Tryz.prog 43 [.agg (ak.c i)] H fun v h'=>v=.a (.d (Sl.d 2 Z6.c none r))/\h'=H:=by
 unfold CY p9 at b;refine AC.oW 70 [.tmp 2] Tryz.call43 Tryz.func43 ?_;refine ag (S BX ?_);refine s0 (dR (k':=2) rfl) rfl ?_;refine nil ?_;refine ag ?_;refine aP.tok 2 fun g be=>?_;have bf:g≠gT:=fun o=>by subst o; simp_all
 refine sE (c_.wU (TK rfl) rfl) rfl (fun _ _ _ ⟨m,N,ao,ap,au⟩=>?_); subst ao ap au;obtain⟨bg,N⟩:=ai.dP N;have bh:m≠gT:=fun o=>by subst o; simp_all
 refine aP.iL m _ av (fun j w cs hh hx=>tok_cell 0 2 2 hh (t:=g) av hx rfl) ?_;refine hq ((H.set g (some (.tok 2 0))).set m (some (.cells ([Sl.d 2 Z6.c (some g) (Sl.nil:Sl Z6)])))) ?_;refine nil ?_;refine ag ?_;refine s0 (makeFunc rfl) rfl ?_;refine S As (nil ?_);refine aQ (TA 3 kN) (fun(z:(Sl Z6))=>[]) (fun z=>((H.set g (some (.tok 2 z.l.length))).set m (some (.cells ([Sl.d 2 Z6.c (some g) z]))))) (fun z=>(some z)=some r) ?_ ?_
 ·intro bi aw;refine ag (S Fv (S Ld ?_));refine sLen (f:=aj.c) (s:=i.aq) (TK rfl) rfl rfl rfl rfl fun bj=>?_;refine S Mv (nil ?_);refine block ?_;obtain⟨q,ax,b⟩:=b_ b;refine bA (TA 3 (TA 4 (TA 15 (TA 16 kN)))) (fun(z:Nat×(Sl Z6))=>[(17,.a (.d (.int .i64 ((z.1:Nat):Int))))]) (fun z=>((H.set g (some (.tok 2 z.2.l.length))).set m (some (.cells ([Sl.d 2 Z6.c (some g) z.2]))))) (fun z=>i.aq.l.length-z.1) (fun z=>Option.bind (mZ i (i.aq.l.drop z.1) z.2) q=some r) (0,(Sl.nil:Sl Z6)) b wA ?_
  rintro ⟨u,y⟩ b bk az;try dsimp only at b
  refine ag (S BI (nil ?_));refine ay fun aA O=>?_;refine ah.bN (fun l=>Option.bind (mZ i l y) q=some r) b rfl (fun bl P B b=>?_) (fun B b=>?_)
  ·rw [mZ] at b;try dsimp only at B
   have bm:=oD B;refine sk O ?_;clear O aA;refine aQ (TA 3 (TA 4 (TA 15 (TA 16 (TA 17 kN))))) (fun(z:(Sl Z6))=>[]) (fun z=>((H.set g (some (.tok 2 z.l.length))).set m (some (.cells ([Sl.d 2 Z6.c (some g) z]))))) (fun z=>Option.bind (mZ i (i.aq.l.drop (u+1)) z) q=some r) ?_ ?_
   ·intro bo aC;refine block ?_;refine ag ?_;obtain⟨k,aD,b⟩:=vO P b;refine S (ix aj.c u aD) (S Ld ?_);refine Sl ?_;refine Sf ?_;refine nil ?_;refine bu 6 _ rfl (KA 3 (KA 4 (KA 15 (KA 16 (KA 17 aS.nil))))) ?_;refine aQ (TA 3 (TA 4 (TA 6 (TA 15 (TA 16 (TA 17 kN)))))) (fun(z:(Sl Z6))=>[]) (fun z=>((H.set g (some (.tok 2 z.l.length))).set m (some (.cells ([Sl.d 2 Z6.c (some g) z]))))) (fun z=>Option.bind (Option.bind (oA i k k.aL.l z) fun x=>on (x) fun C=>mZ i (i.aq.l.drop (u+1)) C) q=some r) ?_ ?_
    ·intro bp aE;refine ag (S Fv (S Ld ?_));refine sLen (f:=Z7.c) (s:=k.aB) (TK rfl) rfl rfl rfl rfl fun bq=>?_;refine S Mv (nil ?_);refine block ?_;obtain⟨E,aF,b⟩:=dI b;refine bA (TA 3 (TA 4 (TA 6 (TA 15 (TA 16 (TA 17 (TA 22 (TA 23 kN)))))))) (fun(z:Nat×(Sl Z6))=>[(24,.a (.d (.int .i64 ((z.1:Nat):Int))))]) (fun z=>((H.set g (some (.tok 2 z.2.l.length))).set m (some (.cells ([Sl.d 2 Z6.c (some g) z.2]))))) (fun z=>k.aB.l.length-z.1) (fun z=>Option.bind (oz i k (k.aB.l.drop z.1) z.2) E=some r) (0,y) b wA ?_
     rintro ⟨F,G⟩ b br aG;try dsimp only at b
     refine ag (S BI (nil ?_));refine ay fun aI Q=>?_;refine ah.bN (fun l=>Option.bind (oz i k l G) E=some r) b rfl (fun bs R I b=>?_) (fun I b=>?_)
     ·rw [oz] at b;try dsimp only at I
      have bt:=oD I;refine sk Q ?_;clear Q aI;refine aQ (TA 3 (TA 4 (TA 6 (TA 15 (TA 16 (TA 17 (TA 22 (TA 23 (TA 24 kN))))))))) (fun(z:(Sl Z6))=>[]) (fun z=>((H.set g (some (.tok 2 z.l.length))).set m (some (.cells ([Sl.d 2 Z6.c (some g) z]))))) (fun z=>Option.bind (oz i k (k.aB.l.drop (F+1)) z) E=some r) ?_ ?_
      ·intro bv aJ;refine block ?_;refine ag ?_;obtain⟨p,aK,b⟩:=vO R b;refine S (ix Z7.c F aK) (S Ld ?_);refine Sl ?_;refine Sf ?_;refine nil ?_;refine bu 8 _ rfl (KA 3 (KA 4 (KA 6 (KA 15 (KA 16 (KA 17 (KA 22 (KA 23 (KA 24 aS.nil))))))))) ?_;refine ag (S Fv (S Ld ?_));refine sLen (f:=Z8.c) (s:=p.aH) (TK rfl) rfl rfl rfl rfl fun bw=>?_;refine S Mv (nil ?_);refine block ?_
       obtain⟨U,aM,b⟩:=dI b;refine bA (TA 3 (TA 4 (TA 6 (TA 8 (TA 15 (TA 16 (TA 17 (TA 22 (TA 23 (TA 24 (TA 29 (TA 30 kN)))))))))))) (fun(z:Nat×(Sl Z6))=>[(31,.a (.d (.int .i64 ((z.1:Nat):Int))))]) (fun z=>((H.set g (some (.tok 2 z.2.l.length))).set m (some (.cells ([Sl.d 2 Z6.c (some g) z.2]))))) (fun z=>p.aH.l.length-z.1) (fun z=>Option.bind (p8 i k p (p.aH.l.drop z.1) z.2) U=some r) (0,G) b wA ?_
       rintro ⟨W,X⟩ b bx aN;try dsimp only at b
       refine ag (S BI (nil ?_));refine ay fun aO Y=>?_;refine ah.bN (fun l=>Option.bind (p8 i k p l X) U=some r) b rfl (fun bz Z J b=>?_) (fun J b=>?_)
       ·rw [p8] at b;try dsimp only at J
        have bB:=oD J;refine sk Y ?_;clear Y aO;refine ay fun aR aa=>?_;refine block ?_;refine ag ?_;obtain⟨bC,aT,b⟩:=vO Z b;refine S (ix Z8.c W aT) (S Ld ?_);refine Sl ?_;refine Sf ?_;refine nil ?_;refine bu 10 _ rfl (KA 3 (KA 4 (KA 6 (KA 8 (KA 15 (KA 16 (KA 17 (KA 22 (KA 23 (KA 24 (KA 29 (KA 30 (KA 31 aS.nil))))))))))))) ?_;refine region ?_
        refine S Mv (S Ld (S Fv (S Ld ?_)));obtain⟨bD,aU,b⟩:=qO rfl b;refine s0 (cL rfl rfl aU) rfl ?_;refine S Fv (S Ld ?_);obtain⟨bE,aV,b⟩:=qO rfl b;refine s0 (cL rfl rfl aV) rfl ?_;obtain⟨bI,aW,b⟩:=qO rfl b;refine s0 (cL rfl rfl aW) rfl ?_;refine S Fv (S Ld ?_);obtain⟨bK,aX,b⟩:=qO rfl b;refine s0 (cL rfl rfl aX) rfl ?_;obtain⟨bM,aY,b⟩:=qO rfl b;refine s0 (cL rfl rfl aY) rfl ?_
        obtain⟨K,aZ,b⟩:=qO (HG _ _ _ _) b;refine sH (bP rfl rfl (HH (gT:=gT) (oT:=oT) aZ _ av av av (by assumption))) rfl ?_;refine hq ((H.set g (some (.tok 2 K.l.length))).set m (some (.cells ([Sl.d 2 Z6.c (some g) K])))) ?_;refine nil ?_;refine aa _ ?_;clear aa aR;refine region ?_;refine SI ?_;refine S Mv (nil ?_);exact aN _ ((W+1),K) wA b (dl Z)
       rw [p8] at b;have b:=ku aM b;refine ah.exit ?_;obtain⟨bO,a0,b⟩:=gH b;have b:=ku a0 b;exact aJ _ X wA b
      rintro a1 b;try dsimp only at b
      refine region ?_;refine SI ?_;refine S Mv (nil ?_);exact aG _ ((F+1),a1) wA b (dl R)
     rw [oz] at b;have b:=ku aF b;refine ah.exit ?_;obtain⟨bQ,a2,b⟩:=gH b;have b:=ku a2 b;exact aE _ G wA b
    rintro a3 b;try dsimp only at b
    refine ag (S Fv (S Ld ?_));refine sLen (f:=Z8.c) (s:=k.aL) (TK rfl) rfl rfl rfl rfl fun bR=>?_;refine S Mv (nil ?_);refine block ?_;obtain⟨ab,a4,b⟩:=dI b;refine bA (TA 3 (TA 4 (TA 6 (TA 15 (TA 16 (TA 17 (TA 52 (TA 53 kN)))))))) (fun(z:Nat×(Sl Z6))=>[(54,.a (.d (.int .i64 ((z.1:Nat):Int))))]) (fun z=>((H.set g (some (.tok 2 z.2.l.length))).set m (some (.cells ([Sl.d 2 Z6.c (some g) z.2]))))) (fun z=>k.aL.l.length-z.1) (fun z=>Option.bind (oA i k (k.aL.l.drop z.1) z.2) ab=some r) (0,a3) b wA ?_
    rintro ⟨ad,x⟩ b bS a5;try dsimp only at b
    refine ag (S BI (nil ?_));refine ay fun a6 ae=>?_;refine ah.bN (fun l=>Option.bind (oA i k l x) ab=some r) b rfl (fun bT af L b=>?_) (fun L b=>?_)
    ·rw [oA] at b;try dsimp only at L
     have bU:=oD L;refine sk ae ?_;clear ae a6;refine ay fun a7 al=>?_;refine block ?_;refine ag ?_;obtain⟨bV,a8,b⟩:=vO af b;refine S (ix Z8.c ad a8) (S Ld ?_);refine Sl ?_;refine Sf ?_;refine nil ?_;refine bu 12 _ rfl (KA 3 (KA 4 (KA 6 (KA 15 (KA 16 (KA 17 (KA 52 (KA 53 (KA 54 aS.nil))))))))) ?_;refine region ?_;refine S Mv (S Ld (S Fv (S Ld ?_)))
     obtain⟨bX,a9,b⟩:=qO rfl b;refine s0 (cL rfl rfl a9) rfl ?_;refine S Fv (S Ld ?_);obtain⟨bY,a_,b⟩:=qO rfl b;refine s0 (cL rfl rfl a_) rfl ?_;obtain⟨M,a',b⟩:=qO (HG _ _ _ _) b;refine sH (bP rfl rfl (HH (gT:=gT) (oT:=oT) a' _ av av av (by assumption))) rfl ?_;refine hq ((H.set g (some (.tok 2 M.l.length))).set m (some (.cells ([Sl.d 2 Z6.c (some g) M])))) ?_
     refine nil ?_;refine al _ ?_;clear al a7;refine region ?_;refine SI ?_;refine S Mv (nil ?_);exact a5 _ ((ad+1),M) wA b (dl af)
    rw [oA] at b;have b:=ku a4 b;refine ah.exit ?_;obtain⟨b0,ba,b⟩:=gH b;have b:=ku ba b;exact aC _ x wA b
   rintro C b;try dsimp only at b
   refine region ?_;refine SI ?_;refine S Mv (nil ?_);exact az _ ((u+1),C) wA b (dl P)
  rw [mZ] at b;have b:=ku ax b;refine ah.exit ?_;obtain⟨b1,bb,b⟩:=bW b;have b:=ku bb b;exact aw _ y wA b
 rintro b2 b;try dsimp only at b
 refine ag ?_;refine s0 (bZ (TK rfl) rfl rfl av rfl) rfl ?_;refine S As (nil ?_);refine ah.dU 2 rfl ?_;refine ah.ret ?_;repeat (first|refine bF ?_|refine bG ?_)
 obtain rfl:=oJ b;refine bn.bH H rfl ⟨rfl,rfl⟩ ?_;intro am b3 an;have b4:am≠g:=fun o=>by subst o; simp_all [ai.set]
 have b5:am≠m:=fun o=>by subst o; simp_all [ai.set]
 rw [<- an];simp only [ai.set] at an ⊢
 (repeat' split)<;>simp_all
def vY (b:ak):Option (Sl Z6):=(tY b true).bind fun f=>bif (decide ((0:Int)<((f.l.length:Nat):Int))) then(some f) else((uj b).bind fun g=>(p9 b).bind fun i=>(aW 24 g i).bind fun j=>some j)
def yD (b:ak):Option (Sl Z6):=vY b
theorem Rq (a0:ak):yD a0=vY a0:=rfl
theorem Rr {k:ak}{oT:Ab.Obj}{gT:Nat}{r:Sl Z6}(b:yD k=some r) (H:ai) (B:H gT=some oT) (C:fU Tryz.prog oT):AC Tryz.prog 19 [.agg (ak.c k)] H fun v h'=>v=.a (.d (Sl.d 2 Z6.c none r))/\h'=H:=by
 unfold yD vY at b;refine AC.oW 15 [.tmp 2] Tryz.call19 Tryz.func19 ?_;refine ag (S BX ?_);refine s0 (dR (k':=2) rfl) rfl ?_;refine nil ?_;refine ay fun m i=>?_;refine ag (S Ld ?_);obtain⟨o,p,b⟩:=qT (Qt _ _) b;refine Sc rfl rfl (Qu p) ?_;refine S As (nil ?_);refine ag (S Mv ?_);refine sLen (f:=Z6.c) (s:=o) (TK rfl) rfl rfl rfl rfl fun E=>?_;refine S BI (nil ?_)
 refine cE b (fun q b=>?_) (fun q b=>?_)
 ·refine ag (S Mv (S As (nil ?_)));exact rt b
 refine sk i ?_;clear i m;refine ah.tok 2 fun g j=>?_;have F:g≠gT:=fun t=>by subst t; simp_all
 refine ah.cr (Sd Ld ?_);obtain⟨u,w,b⟩:=qT (QU _) b;refine au.sH (bP rfl rfl (QV w _ av)) rfl ?_;refine au.Dh (H.set g (some (.tok 2 u.l.length))) ?_;refine Sd Ld ?_;obtain⟨G,x,b⟩:=qT (Ro _) b;refine au.s0 (eu rfl rfl (Rp (gT:=gT) (oT:=oT) x _ av (by assumption))) rfl ?_;obtain⟨y,z,b⟩:=qT rfl b;refine au.sH (jU (f:=Z6.c) (TK rfl) rfl (TK rfl) (TK rfl) ⟨_,rfl⟩ rfl rfl (by decide) rfl rfl rfl rfl av rfl z) rfl ?_
 refine au.Dh (H.set g (some (.tok 2 y.l.length))) ?_;refine Sd As ?_;refine au.nil (by decide +kernel) ?_;refine ah.dU 2 rfl ?_;refine ah.ret ?_;repeat (first|refine bF ?_|refine bG ?_)
 obtain rfl:=oJ b;refine bn.bH H rfl ⟨rfl,rfl⟩ ?_
 first|exact ai.cm j|(simp only [ai.set_set]; exact ai.cm j)
-- @uses supergraph/contract.Tags supergraph/contract.meets (supergraph/contract.filter).first (*supergraph/contract.cutter).round supergraph/validate.Schema
noncomputable def rK (t:Nat) (z:Z2):List D:=[Sl.d 7 aj.c (some t) z.Fd.aq,.bool z.dX]
def yE  (b:Z2):Option (ak×(Sl Z6)):=(yD b.Fd).bind fun f=>bif (decide ((0:Int)<((f.l.length:Nat):Int))) then(some ((ak.mk (Sl.nil:Sl aj)),f)) else(some (b.Fd,(Sl.nil:Sl Z6)))
def vZ :Nat->Z2->Option (ak×(Sl Z6))
 | 0,_=>none
 | f+1,b=>bif b.dX then((vH b).bind fun g=>(vZ  f) g) else(yE   b)
def v7  (b:Z2):Option (ak×(Sl Z6)):=(vH b).bind fun f=>vZ F0 f
def v8 (b:Nat) (f:Nat->Z2->Option (ak×(Sl Z6))) (g:Z2):Option (ak×(Sl Z6)):=f (b+1) g
def p_ (g:ak) (j:(Sl Bs)) (i:(Sl Bs)) :Nat->Nat->Z2->Option (ak×(Sl Z6))
 | 0,_,_=>none
 | k+1,b,f=>bif (decide (((b:Nat):Int)<((g.aq.l.length:Nat):Int))) then((g.aq.l[b]?).bind fun m=>(xT m.bp).bind fun o=>(xX o i).bind fun p=>bif (!p) then((vA (Z3.mk j i) m).bind fun q=>(aW 144 f.Fd.aq (⟨false,[q]⟩:Sl aj)).bind fun r=>v8 b ((p_ g j i k)) (Z2.mk (ak.mk r) f.dX)) else(v8 b ((p_ g j i k)) f)) else(v7   f)
def uq (b:ak) (f:(Sl Bs)) (g:(Sl Bs)):Option (ak×(Sl Z6)):=p_ b f g (b.aq.l.length+1) 0 (Z2.mk ak.zero false)
def yF (f:ak) (b:(Sl Bs)) (g:(Sl Bs)):Option (ak×(Sl Z6)):=uq f b g
theorem Rs (a0:ak) (b:(Sl Bs)) (a2:(Sl Bs)):uq a0 b a2=yF a0 b a2:=rfl
theorem HI {m:ak}{p x:Sl Bs}{O P:Option Nat}{oT:Ab.Obj}{gT:Nat}{r:(ak×(Sl Z6))}(b:uq m p x=some r) (H:ai) (aH:H gT=some oT) (aI:fU Tryz.prog oT):AC Tryz.prog 7 [.agg (ak.c m),.d (Sl.d 1 aO O p),.d (Sl.d 1 aO P x)] H fun v h'=>v=.cF [.agg (ak.c r.1),.d (Sl.d 2 Z6.c none r.2)]/\h'=H:=by
 unfold uq at b;refine AC.oW 68 [.cell 6 24,.tmp 7] Tryz.call7 Tryz.func7 ?_;refine ag (S BX ?_);refine Sl ?_;refine s0 (dR (k':=2) rfl) rfl ?_;refine nil ?_;refine ag (S Mv (S Mv ?_));refine aP.dU 13 rfl ?_;refine aP.dU 14 rfl ?_;refine S BU ?_;refine Sl ?_;refine Sf ?_;refine nil ?_;refine bu 8 _ rfl (KA 2 (KA 3 (KA 6 aS.nil))) ?_;refine ag (S BU ?_);refine sE (c_.uP rfl) rfl (fun _ _ _ ⟨i,q,Q,R,U⟩=>?_); subst Q R U
 have aJ:i≠gT:=fun k=>by subst k; simp_all
 refine hq (H.set i (some (.cells (Z2.c (Z2.mk ak.zero false))))) ?_;refine S As (nil ?_);refine ah.tok 7 fun g W=>?_;have X:g≠i:=fun k=>by subst k; simp_all [ai.set]
 have aK:g≠gT:=fun k=>by subst k; simp_all [ai.set]
 have aL:H g=none:=by simpa [ai.set,X] using W
 refine ah.iL i (rK g (Z2.mk ak.zero false)) av (fun j w cs hh hx=>by exact tok_cell (xs:=Z2.c (Z2.mk ak.zero false)) 0 7 7 hh (t:=g) av hx rfl) ?_;refine ah.dx (h':=((H.set g (some (.tok 7 (Z2.mk ak.zero false).Fd.aq.l.length))).set i (some (.cells (rK g (Z2.mk ak.zero false)))))) (by first|rfl|(rw [ai.set_set]; rfl)|(funext n_; simp only [ai.set]; (repeat' split)<;>first|rfl|(exfalso; simp_all; done)|(simp_all; done))) ?_
 refine aQ (TA 6 (TA 9 kN)) (fun(z:Z2)=>[]) (fun z=>((H.set g (some (.tok 7 z.Fd.aq.l.length))).set i (some (.cells (rK g z))))) (fun z=>v7 z=some r) ?_ ?_
 ·intro aM Y;refine ag (S Fv (S Ld ?_));refine sLen (f:=aj.c) (s:=m.aq) (TK rfl) rfl rfl rfl rfl fun aN=>?_;refine S Mv (nil ?_);refine block ?_;refine bA (TA 2 (TA 6 (TA 8 (TA 9 (TA 19 (TA 20 kN)))))) (fun(z:Nat×Nat×Z2)=>[(21,.a (.d (.int .i64 ((z.2.1:Nat):Int))))]) (fun z=>((H.set g (some (.tok 7 z.2.2.Fd.aq.l.length))).set i (some (.cells (rK g z.2.2))))) (fun z=>z.1) (fun z=>p_ m p x z.1 z.2.1 z.2.2=some r) ((m.aq.l.length+1),0,(Z2.mk ak.zero false)) b wA ?_
  rintro ⟨u,y,o⟩ b aR Z;try dsimp only at b
  cases u with
  | zero=>cases b
  | succ u =>
    rw [p_] at b;refine ag (S BI (nil ?_));refine ay fun aa G=>?_;refine cE b (fun B b=>?_) (fun B b=>?_)
    ·try dsimp only at B
     have aT:=oD B;refine sk G ?_;clear G aa;refine aQ (TA 2 (TA 6 (TA 8 (TA 9 (TA 19 (TA 20 (TA 21 kN))))))) (fun(z:Z2)=>[]) (fun z=>((H.set g (some (.tok 7 z.Fd.aq.l.length))).set i (some (.cells (rK g z))))) (fun z=>v8 y ((p_ m p x u)) z=some r) ?_ ?_
     ·intro aU I;refine block ?_;refine ag ?_;obtain⟨aV,ab,b⟩:=bO b;refine S (ix aj.c y ab) (S Ld ?_);refine Sl ?_;refine Sf ?_;refine nil ?_;refine bu 11 _ rfl (KA 2 (KA 6 (KA 8 (KA 9 (KA 19 (KA 20 (KA 21 aS.nil))))))) ?_;refine ag (S Fv (S Ld ?_));obtain⟨aW,ad,b⟩:=bO b;refine Sc rfl rfl (xV ad) ?_;refine S Mv ?_;obtain⟨aX,ae,b⟩:=bO b;refine Sc rfl rfl (BO ae) ?_
      refine S NB (nil ?_);refine cE b (fun af b=>?_) (fun af b=>?_)
      ·refine ah.draw rfl ?_;refine Sd Mv (Sd Mv (Sd NP ?_));refine au.s0 (bE (TK rfl) rfl rfl (TK rfl) rfl rfl) rfl ?_;refine au.s0 (bE (TK rfl) rfl rfl (TK rfl) rfl rfl) rfl ?_;refine au.s0 (bZ (TK rfl) rfl rfl av rfl) rfl ?_;refine Sd Ld (Sd Ld ?_);obtain⟨aY,al,b⟩:=bO b;refine cM rfl rfl (G5 al) ?_;refine Sd BV ?_;obtain⟨C,am,b⟩:=bO b;refine au.sH (jU (f:=aj.c) (TK rfl) rfl (TK rfl) (TK rfl) ⟨_,rfl⟩ rfl rfl (by decide) rfl rfl rfl rfl av rfl am) rfl ?_
       refine Sd NP ?_;refine au.s0 (bE (TK rfl) rfl rfl (TK rfl) rfl rfl) rfl ?_;refine au.s0 (bE (TK rfl) rfl rfl (TK rfl) rfl rfl) rfl ?_;refine au.dA (fO (TK rfl) rfl rfl av rfl (by repeat (first|exact bJ.zero|apply bJ.succ))) rfl rfl ?_;refine au.Dh ((H.set g (some (.tok 7 (Z2.mk (ak.mk C) o.dX).Fd.aq.l.length))).set i (some (.cells (rK g (Z2.mk (ak.mk C) o.dX))))) ?_
       refine au.nil (by decide +kernel) ?_;exact I _ (Z2.mk (ak.mk C) o.dX) wA b
      refine ah.skip ?_;exact I _ o wA b
     rintro an b;try dsimp only at b
     unfold v8 at b;refine region ?_;refine SI ?_;refine S Mv (nil ?_);exact Z _ (u,(y+1),an) wA b (nS _)
    refine ah.exit ?_;exact Y _ o wA b
 rintro E b;try dsimp only at b
 unfold v7 at b;refine ah.iL i (Z2.c E) av (fun j w cs hh hx=>by exact jt (xs:=rK g E) 0 hx rfl) ?_;refine ah.qC (cq.forget (h':=(H.set i (some (.cells (Z2.c E))))) ?_) ?_
 ·intro ao aZ J;have a0:ao≠g:=fun k=>by subst k; simp_all [ai.set]
  rw [<- J];simp only [ai.set] at J ⊢
  (repeat' split)<;>simp_all
 refine aQ (TA 6 (TA 9 kN)) (fun(z:Z2)=>[]) (fun z=>(H.set i (some (.cells (Z2.c z))))) (fun z=>yE z=some r) ?_ ?_
 ·intro a1 ap;refine ag (S Mv ?_);obtain⟨K,aw,b⟩:=bO b;refine sH (bP rfl rfl (Hf aw _ av)) rfl ?_;refine hq (H.set i (some (.cells (Z2.c K)))) ?_;refine nil ?_;refine block ?_;refine bA (TA 6 (TA 9 kN)) (fun(z:Nat×Z2)=>[]) (fun z=>(H.set i (some (.cells (Z2.c z.2))))) (fun z=>z.1) (fun z=>vZ z.1 z.2=some r) (F0,K) b wA ?_;rintro ⟨F,ax⟩ b a2 az
  try dsimp only at b
  cases F with
  | zero=>cases b
  | succ F =>
    rw [vZ] at b;refine ay fun aA L=>?_;refine ag (S Mv (S NP ?_));refine s0 (bE (TK rfl) rfl rfl (TK rfl) rfl rfl) rfl ?_;refine s0 (bZ (TK rfl) rfl rfl av rfl) rfl ?_;refine nil ?_;refine cE b (fun aB b=>?_) (fun aB b=>?_)
    ·refine sk L ?_;clear L aA;refine block ?_;refine region ?_;refine S Mv ?_;obtain⟨M,aC,b⟩:=bO b;refine sH (bP rfl rfl (Hf aC _ av)) rfl ?_;refine hq (H.set i (some (.cells (Z2.c M)))) ?_;refine nil ?_;exact az _ (F,M) wA b (nS _)
    refine ah.exit ?_;exact ap _ ax wA b
 rintro a3 b;try dsimp only at b
 unfold yE at b;refine ay fun aD N=>?_;refine ag (S Mv (S NP ?_));refine s0 (bE (TK rfl) rfl rfl (TK rfl) rfl rfl) rfl ?_;refine s0 (bZ (TK rfl) rfl rfl av rfl) rfl ?_;obtain⟨aE,aF,b⟩:=bO b;refine s0 (eu rfl rfl (Rr (gT:=gT) (oT:=oT) aF _ av (by assumption))) rfl ?_;refine S As (nil ?_);refine ag (S Mv ?_);refine sLen (f:=Z6.c) (s:=aE) (TK rfl) rfl rfl rfl rfl fun a4=>?_
 refine S BI (nil ?_);refine cE b (fun aG b=>?_) (fun aG b=>?_)
 ·refine ag (S BU (S Mv ?_));refine Sf ?_;refine S As (nil ?_);refine ah.ret ?_;repeat (first|refine bF ?_|refine bG ?_)
  obtain rfl:=oJ b;refine bn.bH H rfl ⟨rfl,rfl⟩ ?_
  first|exact ai.cm q|(simp only [ai.set_set]; exact ai.cm q)
 refine sk N ?_;clear N aD;refine ag (S Mv (S NP ?_));refine s0 (bE (TK rfl) rfl rfl (TK rfl) rfl rfl) rfl ?_;refine s0 (bZ (TK rfl) rfl rfl av rfl) rfl ?_;refine Sf ?_;refine s0 (dR (k':=2) rfl) rfl ?_;refine nil ?_;refine ah.ret ?_;repeat (first|refine bF ?_|refine bG ?_)
 obtain rfl:=oJ b;refine bn.bH H rfl ⟨rfl,rfl⟩ ?_
 first|exact ai.cm q|(simp only [ai.set_set]; exact ai.cm q)
def CZ (b:Nat) (f:Nat->(List Bs)->Option (List Bs)) (g:(List Bs)):Option (List Bs):=f (b+1) g
def v_ (j:Bs) (b:ak) (f:(aj×Bool)) :Nat->Nat->(List Bs)->Option (List Bs)
 | 0,_,_=>none
 | k+1,g,i=>bif (decide (((g:Nat):Int)<((b.aq.l.length:Nat):Int))) then((b.aq.l[g]?).bind fun m=>aR ((decide (f.1.an=(2:Int)))) (xS m.aX j) false fun o=>bif ((decide (f.1.an=(2:Int)))&&o) then(none) else(CZ g ((v_ j b f k)) i)) else(some i)
def C0 (i:Bs) (b:ak) (f:(aj×Bool))  (g:(List Bs)):Option (List Bs):=v_ i b f (b.aq.l.length+1) 0 g
def C1 (j:Bs) (f:ak) (b:(aj×Bool)) :Nat->Nat->(List Bs)->Option (List Bs)
 | 0,_,_=>none
 | k+1,g,i=>bif (decide (((g:Nat):Int)<((b.1.aX.l.length:Nat):Int))) then(none) else(C0 j f b  i)
def C2 (i:Bs) (f:ak) (b:(aj×Bool))  (g:(List Bs)):Option (List Bs):=C1 i f b (b.1.aX.l.length+1) 0 g
def C3 (j:Bs) (f:ak) (b:(aj×Bool)) :Nat->Nat->(List Bs)->Option (List Bs)
 | 0,_,_=>none
 | k+1,g,i=>bif (decide (((g:Nat):Int)<((b.1.aG.l.length:Nat):Int))) then(none) else(C2 j f b  i)
def C4 (i:Bs) (f:ak) (b:(aj×Bool))  (g:(List Bs)):Option (List Bs):=C3 i f b (b.1.aG.l.length+1) 0 g
def C5 (j:Bs) (f:ak) (b:(aj×Bool)) :Nat->Nat->(List Bs)->Option (List Bs)
 | 0,_,_=>none
 | k+1,g,i=>bif (decide (((g:Nat):Int)<((b.1.aL.l.length:Nat):Int))) then(none) else(C4 j f b  i)
def C6 (i:Bs) (f:ak) (b:(aj×Bool))  (g:(List Bs)):Option (List Bs):=C5 i f b (b.1.aL.l.length+1) 0 g
def C7 (b:Nat) (f:Nat->(List Bs)->Option (List Bs)) (g:(List Bs)):Option (List Bs):=f (b+1) g
def C8 (b:Nat) (f:Z7) (g:Nat->(List Bs)->Option (List Bs)):Nat->Nat->(List Bs)->Option (List Bs)
 | 0,_,_=>none
 | k+1,i,j=>bif (decide (((i:Nat):Int)<((f.aH.l.length:Nat):Int))) then(none) else(C7 b g j)
def ur (m:Bs) (f:ak) (b:(aj×Bool)) (j:Bs->ak->(List Bs)->Option (List Bs)):Nat->Nat->(List Bs)->Option (List Bs)
 | 0,_,_=>none
 | o+1,g,k=>bif (decide (((g:Nat):Int)<((b.1.aB.l.length:Nat):Int))) then((b.1.aB.l[g]?).bind fun i=>(j i.aA.aa f k).bind fun p=>C8 g i ((ur m f b j o)) (i.aH.l.length+1) 0 p) else(C6 m f b  k)
def qa:Nat->Bs->ak->(List Bs)->Option (List Bs)
 | 0,_,_,_=>none
 | n+1,b,i,g=>(tT i b).bind fun f=>bif ((!f.2)||(g.contains b)) then(some g) else(ur b i f (qa n) (f.1.aB.l.length+1) 0 (b7 g b))
def C9 (n:Nat):Prop:=∀{a0:Bs}{b:ak}{a2:(List Bs)}  {c2:Nat}{c3:Nat}{r:(List Bs)},qa n a0 b a2=some r->∀(H:ai) (f:H c2=some (.map (bf a2))) (g:H c3=some (.cells [.func 21 [.view (ak.c b),.view [.map c2],.ptr c3 0]])),AC Tryz.prog 21 [.d (.str a0),.d (.view (ak.c b)),.d (.view [.map c2]),.d (.ptr c3 0)] H fun v h'=>v=.cF []/\h'=(H.set c2 (some (.map (bf r))))
theorem Rt (n:Nat) (O:C9 (ax:=ax) n):C9 (ax:=ax) (n+1):=by
 intro j i C  c2 c3 r b H aN aP;rw [qa] at b;refine AC.oW 120 [] Tryz.call21 Tryz.func21 ?_;have aR:c3≠c2:=fun P=>by subst P; simp_all
 refine ah.dx (h':=(H.set c2 (some (.map (bf C))))) (by funext n_; simp only [ai.set]; (repeat' split)<;>simp_all) ?_;refine ag (S Ld (S Mv ?_));obtain⟨g,Q,b⟩:=bO b;refine Sc rfl rfl (kz Q) ?_;refine S Mv (S EX (S EX ?_));refine Sl ?_;refine Sf ?_;refine S As (nil ?_);refine bu 5 _ rfl (KA 0 (KA 1 (KA 2 (KA 3 (KA 6 aS.nil))))) ?_;refine ay fun R E=>?_;refine ag (S Mv (S NB (S Mv (G0 Ld (G0 Mv ?_)))))
 refine gC rfl rfl (fun hC=>aK (k:=28) rfl (aK (k:=29) rfl (qI (TK rfl) rfl (TK rfl) (TK rfl) rfl rfl rfl rfl av))) rfl ?_;refine S PO (nil ?_);refine cE b (fun U b=>?_) (fun U b=>?_)
 ·exact rt b
 refine sk E ?_;clear E R;refine ag (S Ld (S Mv ?_));refine dA (mapUpdate (TK rfl) rfl (TK rfl) rfl rfl rfl rfl av (o9 _ _) rfl) rfl rfl ?_;refine hq (H.set c2 (some (.map (bf (b7 C j))))) ?_;refine nil ?_;refine aQ (TA 0 (TA 1 (TA 3 (TA 5 kN)))) (fun(z:(List Bs))=>[]) (fun z=>(H.set c2 (some (.map (bf z))))) (fun z=>C6 j i g z=some r) ?_ ?_
 ·intro aT W;refine ag (S Fv (S Ld ?_));refine sLen (f:=Z7.c) (s:=g.1.aB) (TK rfl) rfl rfl rfl rfl fun aU=>?_;refine S Mv (nil ?_);refine block ?_;refine bA (TA 0 (TA 1 (TA 3 (TA 5 (TA 35 (TA 36 kN)))))) (fun(z:Nat×Nat×(List Bs))=>[(37,.a (.d (.int .i64 ((z.2.1:Nat):Int))))]) (fun z=>(H.set c2 (some (.map (bf z.2.2))))) (fun z=>z.1) (fun z=>ur j i g (qa n) z.1 z.2.1 z.2.2=some r) ((g.1.aB.l.length+1),0,(b7 C j)) b wA ?_
  rintro ⟨m,o,X⟩ b aV Y;try dsimp only at b
  cases m with
  | zero=>cases b
  | succ m =>
    rw [ur] at b;refine ag (S BI (nil ?_));refine ay fun Z F=>?_;refine cE b (fun q b=>?_) (fun q b=>?_)
    ·try dsimp only at q
     have aW:=oD q;refine sk F ?_;clear F Z;refine aQ (TA 0 (TA 1 (TA 3 (TA 5 (TA 35 (TA 36 (TA 37 kN))))))) (fun(z:(List Bs))=>[]) (fun z=>(H.set c2 (some (.map (bf z))))) (fun z=>C7 o ((ur j i g (qa n) m)) z=some r) ?_ ?_
     ·intro aY aa;refine block ?_;refine ag ?_;obtain⟨t,ab,b⟩:=bO b;refine S (ix Z7.c o ab) (S Ld ?_);refine Sl ?_;refine Sf ?_;refine nil ?_;refine bu 8 _ rfl (KA 0 (KA 1 (KA 3 (KA 5 (KA 35 (KA 36 (KA 37 aS.nil))))))) ?_;refine ag ?_;refine s0 (bZ (TK rfl) rfl rfl av rfl) rfl ?_;refine S Fv (S Fv (S Ld ?_));obtain⟨G,ad,b⟩:=bO b;refine sH (bP rfl rfl (O ad _ av av)) rfl ?_
      refine hq (H.set c2 (some (.map (bf G)))) ?_;refine nil ?_;refine ag (S Fv (S Ld ?_));refine sLen (f:=Z8.c) (s:=t.aH) (TK rfl) rfl rfl rfl rfl fun aZ=>?_;refine S Mv (nil ?_);refine block ?_;refine bA (TA 0 (TA 1 (TA 3 (TA 5 (TA 35 (TA 36 (TA 37 (TA 47 (TA 48 kN))))))))) (fun(z:Nat×Nat×(List Bs))=>[(49,.a (.d (.int .i64 ((z.2.1:Nat):Int))))]) (fun z=>(H.set c2 (some (.map (bf z.2.2))))) (fun z=>z.1) (fun z=>C8 o t ((ur j i g (qa n) m)) z.1 z.2.1 z.2.2=some r) ((t.aH.l.length+1),0,G) b wA ?_
      rintro ⟨I,a0,ae⟩ b a1 a2;try dsimp only at b
      cases I with
      | zero=>cases b
      | succ I =>
        rw [C8] at b;refine ag (S BI (nil ?_));refine ay fun a3 a4=>?_;refine cE b (fun u b=>?_) (fun u b=>?_)
        ·try dsimp only at u
         have a5:=oD u;cases b
        refine ah.exit ?_;exact aa _ ae wA b
     rintro af b;try dsimp only at b
     unfold C7 at b;refine region ?_;refine SI ?_;refine S Mv (nil ?_);exact Y _ (m,(o+1),af) wA b (nS _)
    refine ah.exit ?_;exact W _ X wA b
 rintro ak b;try dsimp only at b
 unfold C6 at b;refine aQ (TA 0 (TA 1 (TA 3 (TA 5 kN)))) (fun(z:(List Bs))=>[]) (fun z=>(H.set c2 (some (.map (bf z))))) (fun z=>C4 j i g z=some r) ?_ ?_
 ·intro a6 al;refine ag (S Fv (S Ld ?_));refine sLen (f:=Z8.c) (s:=g.1.aL) (TK rfl) rfl rfl rfl rfl fun a7=>?_;refine S Mv (nil ?_);refine block ?_;refine bA (TA 0 (TA 1 (TA 3 (TA 5 (TA 61 (TA 62 kN)))))) (fun(z:Nat×Nat×(List Bs))=>[(63,.a (.d (.int .i64 ((z.2.1:Nat):Int))))]) (fun z=>(H.set c2 (some (.map (bf z.2.2))))) (fun z=>z.1) (fun z=>C5 j i g z.1 z.2.1 z.2.2=some r) ((g.1.aL.l.length+1),0,ak) b wA ?_
  rintro ⟨J,a8,am⟩ b a9 a_;try dsimp only at b
  cases J with
  | zero=>cases b
  | succ J =>
    rw [C5] at b;refine ag (S BI (nil ?_));refine ay fun a' ba=>?_;refine cE b (fun v b=>?_) (fun v b=>?_)
    ·try dsimp only at v
     have bb:=oD v;cases b
    refine ah.exit ?_;exact al _ am wA b
 rintro an b;try dsimp only at b
 unfold C4 at b;refine aQ (TA 0 (TA 1 (TA 3 (TA 5 kN)))) (fun(z:(List Bs))=>[]) (fun z=>(H.set c2 (some (.map (bf z))))) (fun z=>C2 j i g z=some r) ?_ ?_
 ·intro bc ao;refine ag (S Fv (S Ld ?_));refine sLen (f:=Z9.c) (s:=g.1.aG) (TK rfl) rfl rfl rfl rfl fun bd=>?_;refine S Mv (nil ?_);refine block ?_;refine bA (TA 0 (TA 1 (TA 3 (TA 5 (TA 74 (TA 75 kN)))))) (fun(z:Nat×Nat×(List Bs))=>[(76,.a (.d (.int .i64 ((z.2.1:Nat):Int))))]) (fun z=>(H.set c2 (some (.map (bf z.2.2))))) (fun z=>z.1) (fun z=>C3 j i g z.1 z.2.1 z.2.2=some r) ((g.1.aG.l.length+1),0,an) b wA ?_
  rintro ⟨K,be,ap⟩ b bg bh;try dsimp only at b
  cases K with
  | zero=>cases b
  | succ K =>
    rw [C3] at b;refine ag (S BI (nil ?_));refine ay fun bi bj=>?_;refine cE b (fun w b=>?_) (fun w b=>?_)
    ·try dsimp only at w
     have bk:=oD w;cases b
    refine ah.exit ?_;exact ao _ ap wA b
 rintro au b;try dsimp only at b
 unfold C2 at b;refine aQ (TA 0 (TA 1 (TA 3 (TA 5 kN)))) (fun(z:(List Bs))=>[]) (fun z=>(H.set c2 (some (.map (bf z))))) (fun z=>C0 j i g z=some r) ?_ ?_
 ·intro bl aw;refine ag (S Fv (S Ld ?_));refine sLen (f:=aO) (s:=g.1.aX) (TK rfl) rfl rfl rfl rfl fun bm=>?_;refine S Mv (nil ?_);refine block ?_;refine bA (TA 0 (TA 1 (TA 3 (TA 5 (TA 89 (TA 90 kN)))))) (fun(z:Nat×Nat×(List Bs))=>[(91,.a (.d (.int .i64 ((z.2.1:Nat):Int))))]) (fun z=>(H.set c2 (some (.map (bf z.2.2))))) (fun z=>z.1) (fun z=>C1 j i g z.1 z.2.1 z.2.2=some r) ((g.1.aX.l.length+1),0,au) b wA ?_
  rintro ⟨L,bo,az⟩ b bp bq;try dsimp only at b
  cases L with
  | zero=>cases b
  | succ L =>
    rw [C1] at b;refine ag (S BI (nil ?_));refine ay fun br bs=>?_;refine cE b (fun x b=>?_) (fun x b=>?_)
    ·try dsimp only at x
     have bt:=oD x;cases b
    refine ah.exit ?_;exact aw _ az wA b
 rintro aA b;try dsimp only at b
 unfold C0 at b;refine ag (S Fv (S Ld ?_));refine sLen (f:=aj.c) (s:=i.aq) (TK rfl) rfl rfl rfl rfl fun bv=>?_;refine S Mv (nil ?_);refine block ?_;refine bA (TA 0 (TA 3 (TA 5 (TA 100 (TA 101 kN))))) (fun(z:Nat×Nat×(List Bs))=>[(102,.a (.d (.int .i64 ((z.2.1:Nat):Int))))]) (fun z=>(H.set c2 (some (.map (bf z.2.2))))) (fun z=>z.1) (fun z=>v_ j i g z.1 z.2.1 z.2.2=some r) ((i.aq.l.length+1),0,aA) b wA ?_
 rintro ⟨p,y,M⟩ b bw aC;try dsimp only at b
 cases p with
 | zero=>cases b
 | succ p =>
   rw [v_] at b;refine ag (S BI (nil ?_));refine ay fun aD N=>?_;refine cE b (fun B b=>?_) (fun B b=>?_)
   ·try dsimp only at B
    have bx:=oD B;refine sk N ?_;clear N aD;refine aQ (TA 0 (TA 3 (TA 5 (TA 100 (TA 101 (TA 102 kN)))))) (fun(z:(List Bs))=>[]) (fun z=>(H.set c2 (some (.map (bf z))))) (fun z=>CZ y ((v_ j i g p)) z=some r) ?_ ?_
    ·intro bz aE;refine block ?_;refine ag ?_;obtain⟨bB,aF,b⟩:=bO b;refine S (ix aj.c y aF) (S Ld ?_);refine Sl ?_;refine Sf ?_;refine nil ?_;refine bu 18 _ rfl (KA 0 (KA 3 (KA 5 (KA 100 (KA 101 (KA 102 aS.nil)))))) ?_;refine ag (S Fv (S Ld (S BI (S Mv (G0 Fv ?_)))));refine G1 110 rfl Ld ?_;refine G0 Mv ?_;obtain⟨bC,aI,b⟩:=gO b;refine fw 111 112 rfl rfl rfl rfl rfl rfl (fun hC=>tM (aI hC)) ?_
     refine S PA (nil ?_);refine cE b (fun aJ b=>?_) (fun aJ b=>?_)
     ·cases b
     refine ah.skip ?_;exact aE _ M wA b
    rintro aM b;try dsimp only at b
    unfold CZ at b;refine region ?_;refine SI ?_;refine S Mv (nil ?_);exact aC _ (p,(y+1),aM) wA b (nS _)
   refine ah.exit ?_;repeat (first|refine ff ?_|refine fe ?_|refine fc ?_)
   obtain rfl:=oJ b;refine bn.fq (H.set c2 (some (.map (bf M)))) (xs:=[]) rfl ⟨rfl,rfl⟩ ?_;exact(fun _ _ h=>h)
theorem HJ:∀(n:Nat),(C9 (ax:=ax) n)
 | 0=>fun b=>by first|cases b|(rw [qa] at b; cases b)
 | n+1=>Rt n (HJ n)
def HK (f:Bs) (b:ak) (g:(List Bs)):Option (List Bs):=qa F0 f b g
theorem Ru {f:Bs}{b:ak}{g:List Bs}{c2 c3:Nat}{r:List Bs}(i:HK f b g=some r) (H:ai) (j:H c2=some (.map (bf g))) (k:H c3=some (.cells [.func 21 [.view (ak.c b),.view [.map c2],.ptr c3 0]])):AC Tryz.prog 21 [.d (.str f),.d (.view (ak.c b)),.d (.view [.map c2]),.d (.ptr c3 0)] H fun v h'=>v=.cF []/\h'=(H.set c2 (some (.map (bf r)))):=(HJ F0) i H j k
def C_  (b:ak):Option ak:=some b
def yG (b:Nat) (f:Nat->ak->Option ak) (g:ak):Option ak:=f (b+1) g
def uu (f:ak) (g:(List Bs)) :Nat->Nat->ak->Option ak
 | 0,_,_=>none
 | j+1,b,i=>bif (decide (((b:Nat):Int)<((f.aq.l.length:Nat):Int))) then((f.aq.l[b]?).bind fun k=>bif (g.contains k.aa) then((vA (Z3.mk (Sl.nil:Sl Bs) (Sl.nil:Sl Bs)) k).bind fun m=>(aW 144 i.aq (⟨false,[m]⟩:Sl aj)).bind fun o=>yG b ((uu f g j)) (ak.mk o)) else(yG b ((uu f g j)) i)) else(C_   i)
def C' (b:ak)  (f:(List Bs)):Option ak:=uu b f (b.aq.l.length+1) 0 ak.zero
def yH (f:ak) :Nat->Int->(List Bs)->Option ak
 | 0,_,_=>none
 | i+1,b,g=>bif (decide (b<(3:Int))) then((dh ([([81,117,101,114,121]:Bs),([77,117,116,97,116,105,111,110]:Bs),([83,117,98,115,99,114,105,112,116,105,111,110]:Bs)]:List Bs) b).bind fun j=>(HK j f g).bind fun k=>(cG b (1:Int)).bind fun l=>(yH f i) l k) else(C' f  g)
def Da (b:ak):Option ak:=yH b F0 (0:Int) ([]:List Bs)
theorem Rv {k r:ak}(b:Da k=some r) (H:ai) :AC Tryz.prog 9 [.agg (ak.c k)] H fun v h'=>v=.a (.agg (ak.c r))/\h'=H:=by
 unfold Da at b;refine AC.oW 43 [.cell 2 24] Tryz.call9 Tryz.func9 ?_;refine ag (S BX ?_);refine Sl ?_;refine nil ?_;refine ag ?_;refine sE c_.makeMap rfl (fun _ _ _ ⟨g,aB,x,y,B⟩=>?_); subst x y B;refine hq (H.set g (some (.map (bf ([]:List Bs))))) ?_;refine Sl ?_;refine Sf ?_;refine nil ?_;refine bu 3 _ rfl (KA 1 (KA 2 aS.nil)) ?_;refine ag ?_;refine sE (c_.wU (TK rfl) rfl) rfl (fun _ _ _ ⟨i,I,x,y,B⟩=>?_); subst x y B
 obtain⟨aC,I⟩:=ai.dP I;refine hq ((H.set g (some (.map (bf ([]:List Bs))))).set i (some (.cells [.nilFunc]))) ?_;refine nil ?_;refine ag ?_;refine s0 (makeFunc rfl) rfl ?_;refine dA (fO (TK rfl) rfl rfl av rfl (by repeat (first|exact bJ.zero|apply bJ.succ))) rfl rfl ?_;refine hq ((H.set g (some (.map (bf ([]:List Bs))))).set i (some (.cells [.func 21 [.view (ak.c k),.view [.map g],.ptr i 0]]))) ?_
 refine nil ?_;refine aQ (TA 1 (TA 2 (TA 3 kN))) (fun(z:(List Bs))=>[]) (fun z=>((H.set g (some (.map (bf z)))).set i (some (.cells [.func 21 [.view (ak.c k),.view [.map g],.ptr i 0]])))) (fun z=>C' k z=some r) ?_ ?_
 ·intro aD U;refine ag ?_;refine s0 (MP Tryz.bI Tryz.underlying67 rfl rfl rfl rfl rfl) rfl ?_;refine S Mv (nil ?_);refine block ?_;refine bA (TA 1 (TA 2 (TA 3 (TA 4 (TA 13 kN))))) (fun(z:Nat×Int×(List Bs))=>[(14,.a (.d (.int .i64 z.2.1)))]) (fun z=>((H.set g (some (.map (bf z.2.2)))).set i (some (.cells [.func 21 [.view (ak.c k),.view [.map g],.ptr i 0]])))) (fun z=>z.1) (fun z=>yH k z.1 z.2.1 z.2.2=some r) (F0,(0:Int),([]:List Bs)) b wA ?_
  rintro ⟨C,aE,W⟩ b aF X;try dsimp only at b
  cases C with
  | zero=>cases b
  | succ C =>
    rw [yH] at b;refine ag (S BI (nil ?_));refine ay fun Y J=>?_;refine cE b (fun Z b=>?_) (fun Z b=>?_)
    ·refine sk J ?_;clear J Y;refine ay fun aa K=>?_;refine block ?_;refine ag ?_;obtain⟨aG,ab,b⟩:=bO b;refine s0 (M4 (f:=D.str) (l:=([([81,117,101,114,121]:Bs),([77,117,116,97,116,105,111,110]:Bs),([83,117,98,115,99,114,105,112,116,105,111,110]:Bs)]:List Bs)) Tryz.underlying67 Tryz.underlying9 (Tryz.bI 9 _ rfl) rfl rfl rfl rfl ab) rfl ?_;refine S As (nil ?_);refine region ?_
     refine s0 (bZ (TK rfl) rfl rfl av rfl) rfl ?_;refine S Mv ?_;obtain⟨L,ad,b⟩:=bO b;refine sH (bP rfl rfl (Ru ad _ av av)) rfl ?_;refine hq ((H.set g (some (.map (bf L)))).set i (some (.cells [.func 21 [.view (ak.c k),.view [.map g],.ptr i 0]]))) ?_;refine nil ?_;refine K _ ?_;clear K aa;refine region ?_;obtain⟨ae,af,b⟩:=bO b;refine s0 (eR rfl rfl af) rfl ?_
     refine S Mv (nil ?_);exact X _ (C,ae,L) wA b (nS _)
    refine ah.exit ?_;exact U _ W wA b
 rintro o b;try dsimp only at b
 unfold C' at b;refine ag ?_;refine Sl ?_;refine aP.tok 7 fun m q=>?_;obtain⟨aH,q⟩:=ai.dP q;obtain⟨aI,q⟩:=ai.dP q;refine aP.cU 1 _ rfl (fun j w cs hh hx=>tok_cell 0 7 7 hh (t:=m) av hx rfl) ?_;refine nil ?_;refine ag (S BU ?_);refine Sl ?_;refine Sf ?_;refine nil ?_;refine bu 8 _ rfl (KA 1 (KA 2 (KA 3 (KA 7 aS.nil)))) ?_
 refine eb (TA 2 (TA 7 kN)) (fun(z:ak)=>[]) (fun z=>[ak.c ak.zero,([Sl.d 7 aj.c (some m) z.aq])]) (fun z=>(((H.set g (some (.map (bf o)))).set i (some (.cells [.func 21 [.view (ak.c k),.view [.map g],.ptr i 0]]))).set m (some (.tok 7 z.aq.l.length)))) (fun z=>C_ z=some r) ?_ ?_
 ·intro aJ al;refine ag (S Fv (S Ld ?_));refine sLen (f:=aj.c) (s:=k.aq) (TK rfl) rfl rfl rfl rfl fun aK=>?_;refine S Mv (nil ?_);refine block ?_;refine gb (TA 2 (TA 3 (TA 7 (TA 8 (TA 23 (TA 24 kN)))))) (fun(z:Nat×Nat×ak)=>[(25,.a (.d (.int .i64 ((z.2.1:Nat):Int))))]) (fun z=>[ak.c ak.zero,([Sl.d 7 aj.c (some m) z.2.2.aq])]) (fun z=>(((H.set g (some (.map (bf o)))).set i (some (.cells [.func 21 [.view (ak.c k),.view [.map g],.ptr i 0]]))).set m (some (.tok 7 z.2.2.aq.l.length)))) (fun z=>z.1) (fun z=>uu k o z.1 z.2.1 z.2.2=some r) ((k.aq.l.length+1),0,ak.zero) b wA ?_
  rintro ⟨u,E,M⟩ b aL am;try dsimp only at b
  cases u with
  | zero=>cases b
  | succ u =>
    rw [uu] at b;refine ag (S BI (nil ?_));refine ay fun an N=>?_;refine cE b (fun F b=>?_) (fun F b=>?_)
    ·try dsimp only at F
     have aM:=oD F;refine sk N ?_;clear N an;refine eb (TA 2 (TA 3 (TA 7 (TA 8 (TA 23 (TA 24 (TA 25 kN))))))) (fun(z:ak)=>[]) (fun z=>[ak.c ak.zero,([Sl.d 7 aj.c (some m) z.aq])]) (fun z=>(((H.set g (some (.map (bf o)))).set i (some (.cells [.func 21 [.view (ak.c k),.view [.map g],.ptr i 0]]))).set m (some (.tok 7 z.aq.l.length)))) (fun z=>yG E ((uu k o u)) z=some r) ?_ ?_
     ·intro aN O;refine block ?_;refine ag ?_;obtain⟨aO,ao,b⟩:=bO b;refine S (ix aj.c E ao) (S Ld ?_);refine Sl ?_;refine Sf ?_;refine nil ?_;refine bu 10 _ rfl (KA 2 (KA 3 (KA 7 (KA 8 (KA 23 (KA 24 (KA 25 aS.nil))))))) ?_;refine ag (S Ld (S Fv (S Ld ?_)));refine s0 (qI (TK rfl) rfl (TK rfl) (TK rfl) rfl rfl rfl rfl av) rfl ?_;refine nil ?_;refine cE b (fun ap b=>?_) (fun ap b=>?_)
      ·refine ah.draw rfl ?_;refine Sd FL (Sd LL (Sd Ld (Sd Ld ?_)));obtain⟨aR,aw,b⟩:=bO b;refine cM rfl rfl (G5 aw) ?_;refine Sd BV ?_;obtain⟨P,ax,b⟩:=bO b;refine au.sH (jU (f:=aj.c) (TK rfl) rfl (TK rfl) (TK rfl) ⟨_,rfl⟩ rfl rfl (by decide) rfl rfl rfl rfl av rfl ax) rfl ?_;refine au.Dh (((H.set g (some (.map (bf o)))).set i (some (.cells [.func 21 [.view (ak.c k),.view [.map g],.ptr i 0]]))).set m (some (.tok 7 P.l.length))) ?_
       refine Sd FL ?_;refine au.dB (qE (TK rfl) rfl rfl rfl rfl (by repeat (first|exact bJ.zero|apply bJ.succ)) (by repeat (first|exact bJ.zero|apply bJ.succ))) ?_;refine au.nil (by decide +kernel) ?_;exact O _ (ak.mk P) wA b
      refine ah.skip ?_;exact O _ M wA b
     rintro az b;try dsimp only at b
     unfold yG at b;refine region ?_;refine SI ?_;refine S Mv (nil ?_);exact am _ (u,(E+1),az) wA b (nS _)
    refine ah.exit ?_;exact al _ M wA b
 rintro aT b;try dsimp only at b
 unfold C_ at b;refine ay fun aA Q=>?_;refine ah.cU 1 _ rfl (fun j w cs hh hx=>jt 0 hx rfl) ?_;refine region ?_;refine S LL ?_;refine Sf ?_;refine nil ?_;refine Q _ ?_;clear Q aA;refine ah.ret ?_;repeat (first|refine bF ?_|refine bG ?_)
 obtain rfl:=oJ b;refine bn.bH H rfl ⟨rfl,rfl⟩ ?_;intro G aU R;have aV:G≠g:=fun p=>by subst p; simp_all [ai.set]
 have aW:G≠i:=fun p=>by subst p; simp_all [ai.set]
 have aX:G≠m:=fun p=>by subst p; simp_all [ai.set]
 rw [<- R];simp only [ai.set] at R ⊢
 (repeat' split)<;>simp_all
def HM (b:Bs):(Sl aC):=(⟨false,[(aC.mk ([116,97,103]:Bs) (⟨false,[(bQ.mk ([110,97,109,101]:Bs) (af.mk (3:Int) (0:Int) b true ([]) (Sl.nil:Sl Bs)))]⟩:Sl bQ))]⟩:Sl aC)
def Db (b:Bs):Option (Sl aC):=some (HM b)
theorem Rx {f:Bs}{r:Sl aC}(b:Db f=some r) (H:ai) :AC Tryz.prog 14 [.d (.str f)] H fun v h'=>v=.a (.d (Sl.d 2 aC.c none r))/\h'=H:=by
 unfold Db HM at b;refine AC.oW 9 [.tmp 2] Tryz.call14 Tryz.func14 ?_;refine ag ?_;refine s0 (dR (k':=2) rfl) rfl ?_;refine nil ?_;refine ag (S Mv (S BU (S BU (S BV (S BU (S BV (S As (nil ?_))))))));exact rt b
def we :Option Bool:=(Db ([120]:Bs)).bind fun g=>(uq (ak.mk (⟨false,[(aj.mk (1:Int) ([81,117,101,114,121]:Bs) (Sl.nil:Sl Bs) (Sl.nil:Sl aC) (⟨false,[(Z7.mk ([97]:Bs) (Sl.nil:Sl Z8) (az.mk ([73,110,116]:Bs) (Sl.nil:Sl Int)) g),(Z7.mk ([98]:Bs) (Sl.nil:Sl Z8) (az.mk ([73,110,116]:Bs) (Sl.nil:Sl Int)) (Sl.nil:Sl aC))]⟩:Sl Z7) (Sl.nil:Sl Z9) (Sl.nil:Sl Z8)),(aj.mk (1:Int) ([84]:Bs) (Sl.nil:Sl Bs) (Sl.nil:Sl aC) (⟨false,[(Z7.mk ([97]:Bs) (Sl.nil:Sl Z8) (az.mk ([73,110,116]:Bs) (Sl.nil:Sl Int)) (Sl.nil:Sl aC))]⟩:Sl Z7) (Sl.nil:Sl Z9) (Sl.nil:Sl Z8))]⟩:Sl aj)) (⟨false,[([120]:Bs)]⟩:Sl Bs) (Sl.nil:Sl Bs)).bind fun b=>aR (((decide (((b.2.l.length:Nat):Int)=(0:Int)))&&(decide (((b.1.aq.l.length:Nat):Int)=(1:Int))))) (b.1.aq.l[0]?) aj.zero fun f=>aR ((((decide (((b.2.l.length:Nat):Int)=(0:Int)))&&(decide (((b.1.aq.l.length:Nat):Int)=(1:Int))))&&(decide (((f.aB.l.length:Nat):Int)=(1:Int))))) (b.1.aq.l[0]?) aj.zero fun j=>aR ((((decide (((b.2.l.length:Nat):Int)=(0:Int)))&&(decide (((b.1.aq.l.length:Nat):Int)=(1:Int))))&&(decide (((f.aB.l.length:Nat):Int)=(1:Int))))) (j.aB.l[0]?) Z7.zero fun i=>aR (((((decide (((b.2.l.length:Nat):Int)=(0:Int)))&&(decide (((b.1.aq.l.length:Nat):Int)=(1:Int))))&&(decide (((f.aB.l.length:Nat):Int)=(1:Int))))&&((i.aa==([97]:Bs))))) (Da (ak.mk (⟨false,[(aj.mk (1:Int) ([81,117,101,114,121]:Bs) (Sl.nil:Sl Bs) (Sl.nil:Sl aC) (⟨false,[(Z7.mk ([97]:Bs) (Sl.nil:Sl Z8) (az.mk ([73,110,116]:Bs) (Sl.nil:Sl Int)) g),(Z7.mk ([98]:Bs) (Sl.nil:Sl Z8) (az.mk ([73,110,116]:Bs) (Sl.nil:Sl Int)) (Sl.nil:Sl aC))]⟩:Sl Z7) (Sl.nil:Sl Z9) (Sl.nil:Sl Z8)),(aj.mk (1:Int) ([84]:Bs) (Sl.nil:Sl Bs) (Sl.nil:Sl aC) (⟨false,[(Z7.mk ([97]:Bs) (Sl.nil:Sl Z8) (az.mk ([73,110,116]:Bs) (Sl.nil:Sl Int)) (Sl.nil:Sl aC))]⟩:Sl Z7) (Sl.nil:Sl Z9) (Sl.nil:Sl Z8))]⟩:Sl aj))) ak.zero fun k=>some (((((decide (((b.2.l.length:Nat):Int)=(0:Int)))&&(decide (((b.1.aq.l.length:Nat):Int)=(1:Int))))&&(decide (((f.aB.l.length:Nat):Int)=(1:Int))))&&((i.aa==([97]:Bs))))&&(decide (((k.aq.l.length:Nat):Int)=(1:Int))))
theorem HN  {oT:Ab.Obj}{gT:Nat}{r:Bool}(b:we =some r) (H:ai) (u:H gT=some oT) (w:fU Tryz.prog oT):AC Tryz.prog 6 [] H fun v h'=>v=.a (.d (.bool r))/\h'=H:=by
 unfold we at b;refine AC.oW 59 [.tmp 0] Tryz.call6 Tryz.func6 ?_;refine ag (S As (nil ?_));refine ag (S BU ?_);obtain⟨x,i,b⟩:=bO b;refine Sc rfl rfl (Rx i) ?_;refine S BU (S BU (S BU (S BV (S BU (S BU (S BU (S BV (S BU (S BV (S BU ?_))))))))));refine Sl ?_;refine Sf ?_;refine nil ?_;refine bu 1 _ rfl aS.nil ?_;refine ag (S Ld (S BV ?_));obtain⟨g,j,b⟩:=bO b;refine s0 (eu rfl rfl (AC.zS (.cons (.refl _) (.cons (.refl _) (.cons (js.w9 (k':=1)) .nil))) (HI (gT:=gT) (oT:=oT) j _ av (by assumption)))) rfl ?_
 refine S Mv (S EX (S EX ?_));refine Sl ?_;refine Sf ?_;refine S As (nil ?_);refine bu 2 _ rfl (KA 1 (KA 3 aS.nil)) ?_;refine ag (S Mv ?_);refine sLen (f:=Z6.c) (s:=g.2) (TK rfl) rfl rfl rfl rfl fun y=>?_;refine S BI (S Mv (G0 Fv ?_));refine G1 27 rfl Ld ?_;refine gC rfl rfl (fun hC=>aK (k:=28) rfl (cK (f:=aj.c) (s:=g.1.aq) (TK rfl) rfl rfl rfl)) rfl ?_;refine G1 29 rfl BI ?_
 refine S PA (S Mv (G0 Fv ?_));refine G1 33 rfl Ld ?_;obtain⟨l,m,b⟩:=gO b;refine gC rfl rfl (fun hC=>aK (k:=34) rfl (ee (f:=aj.c) (n:=0) (TK rfl) rfl (TK rfl) rfl rfl rfl (m hC))) rfl ?_;refine G1 35 rfl Fv ?_;refine G1 36 rfl Ld ?_;refine gC rfl rfl (fun hC=>aK (k:=37) rfl (cK (f:=Z7.c) (s:=l.aB) (TK rfl) rfl rfl rfl)) rfl ?_;refine G1 38 rfl BI ?_;refine S PA (S Mv (G0 Fv ?_))
 refine G1 42 rfl Ld ?_;obtain⟨z,o,b⟩:=gO b;refine gC rfl rfl (fun hC=>aK (k:=43) rfl (ee (f:=aj.c) (n:=0) (TK rfl) rfl (TK rfl) rfl rfl rfl (o hC))) rfl ?_;refine G1 44 rfl Fv ?_;refine G1 45 rfl Ld ?_;obtain⟨B,p,b⟩:=gO b;refine gC rfl rfl (fun hC=>aK (k:=46) rfl (ee (f:=Z7.c) (n:=0) (TK rfl) rfl (TK rfl) rfl rfl rfl (p hC))) rfl ?_;refine G1 47 rfl Fv ?_;refine G1 48 rfl Ld ?_
 refine G1 49 rfl BS ?_;refine S PA (S Mv (G0 Ld ?_));obtain⟨q,t,b⟩:=gO b;refine dz 53 rfl rfl rfl rfl rfl (fun hC=>Rv (t hC)) ?_;refine gC rfl rfl (fun hC=>aK (k:=54) rfl (field (TK rfl) rfl rfl (TK rfl) rfl rfl rfl)) rfl ?_;refine gC rfl rfl (fun hC=>aK (k:=55) rfl (cK (f:=aj.c) (s:=q.aq) (TK rfl) rfl rfl rfl)) rfl ?_;refine G1 56 rfl BI ?_;refine S PA (S As (nil ?_))
 exact rt b
def qb (f:(Sl Bs)):List Bs->Nat->Option (Unit ⊕ Bool)
 | [],b=>some (Sum.inl ())
 | g::i,b=>on (g) fun j=>(f.l[b]?).bind fun k=>bif (!(j==k)) then(some (Sum.inr false)) else(qb f (i) (b+1) )
def uv (f:(Sl Bs)) (b:(Sl Bs)):Option Bool:=bif (!decide (((f.l.length:Nat):Int)=((b.l.length:Nat):Int))) then(some false) else(Option.bind (qb b f.l 0 ) fun g=>match g with|Sum.inl _=>(on (()) fun _=>some true)|Sum.inr i=>(some i))
def Dc (f:(Sl Bs)) (b:(Sl Bs)):Option Bool:=uv f b
theorem Ry (a0:(Sl Bs)) (b:(Sl Bs)):Dc a0 b=uv a0 b:=rfl
theorem Rz {g i:Sl Bs}{w0 w:Option Nat}{r:Bool}(b:Dc g i=some r) (H:ai) :AC Tryz.prog 44 [.d (Sl.d 1 aO w0 g),.d (Sl.d 1 aO w i)] H fun v h'=>v=.a (.d (.bool r))/\h'=H:=by
 unfold Dc uv at b;refine AC.oW 26 [.tmp 4] Tryz.call44 Tryz.func44 ?_;refine ag (S As (nil ?_));refine ay fun x m=>?_;refine ag (S Mv ?_);refine sLen (f:=aO) (s:=g) (TK rfl) rfl rfl rfl rfl fun L=>?_;refine S Mv ?_;refine sLen (f:=aO) (s:=i) (TK rfl) rfl rfl rfl rfl fun M=>?_;refine S BI (nil ?_);refine cE b (fun y b=>?_) (fun y b=>?_)
 ·refine ag (S As (nil ?_));exact rt b
 refine sk m ?_;clear m x;refine aQ kN (fun(z:Unit)=>[]) (fun z=>H) (fun z=>(some true)=some r) ?_ ?_
 ·intro N B;refine ag (S As (nil ?_));refine block ?_;obtain⟨o,p,b⟩:=b_ b;refine bA (TA 0 (TA 1 kN)) (fun(z:Nat)=>[(5,.a (.d (.int .i64 ((z:Nat):Int))))]) (fun z=>H) (fun z=>g.l.length-z) (fun z=>Option.bind (qb i (g.l.drop z) z ) o=some r) 0 b wA ?_;rintro j b O C;try dsimp only at b
  refine ay fun E q=>?_;refine ag (S Mv (S Mv ?_));refine sLen (f:=aO) (s:=g) (TK rfl) rfl rfl rfl rfl fun P=>?_;refine S BI (nil ?_);refine ah.bN (fun l=>Option.bind (qb i l j ) o=some r) b rfl (fun Q t k b=>?_) (fun k b=>?_)
  ·rw [qb] at b;try dsimp only at k
   have R:=oD k;refine sk q ?_;clear q E;refine ay fun F u=>?_;refine block ?_;refine ah.cr (Sd Mv (Sd Mv ?_));obtain⟨U,G,b⟩:=vO t b;refine Sd (ix aO j G) (Sd Ld (Sd Mv (Sd Mv ?_)));obtain⟨W,I,b⟩:=qO rfl b;refine Sd (ix aO j I) (Sd Ld (Sd BS ?_));refine au.nil (by decide +kernel) ?_;refine cO b (fun J b=>?_) (fun J b=>?_)
   ·refine ag (S As (nil ?_));refine ah.ret ?_;repeat (first|refine bF ?_|refine bG ?_)
    have b:=ku p b;obtain rfl:=oJ b;refine bn.bH H rfl ⟨rfl,rfl⟩ ?_;exact(fun _ _ h=>h)
   refine sk u ?_;clear u F;refine region ?_;refine S Mv ?_;refine SI ?_;refine S As (nil ?_);exact C _ (j+1) wA b (dl t)
  rw [qb] at b;have b:=ku p b;try dsimp only at b
  refine ah.exit ?_;obtain⟨X,K,b⟩:=bW b;have b:=ku K b;exact B _ () wA b
 rintro _ b;try dsimp only at b
 refine ag (S As (nil ?_));exact rt b
end Go.Proofs
