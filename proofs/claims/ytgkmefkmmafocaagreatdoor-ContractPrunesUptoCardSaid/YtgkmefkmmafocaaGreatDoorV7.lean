import Derived.Test.YtgkmefkmmafocaaGreatDoorV6
set_option maxRecDepth 100000
set_option maxHeartbeats 2000000
set_option linter.unusedVariables false
set_option linter.unusedSimpArgs false
namespace Go.Proofs
open Go Go.Ab
open aO aq ah aY eG
variable {az:bC}
def qp  (b:(Sl Bs)):Option (Sl Bs):=some b
def qq (b:Nat) (f:(Sl Bs)->Nat->Option (Sl Bs)) (g:(Sl Bs)):Option (Sl Bs):=f g (b+1)
def lD (b:(Sl Bs)) :Nat->(Sl Bs)->Nat->Option (Sl Bs)
 | 0,_,_=>none
 | i+1,g,f=>bif (decide (((f:Nat):Int)<((b.l.length:Nat):Int))) then((b.l[f]?).bind fun j=>(qo g j).bind fun k=>bif (!k) then((b.l[f]?).bind fun m=>(aQ 16 g (⟨false,[m]⟩:Sl Bs)).bind fun o=>qq f ((lD b i)) o) else(qq f ((lD b i)) g)) else(qp   g)
def qs (f:(Sl Bs))  (b:(Sl Bs)):Option (Sl Bs):=lD b (b.l.length+1) f 0
def qt (b:Nat) (f:(Sl Bs)->Nat->Option (Sl Bs)) (g:(Sl Bs)):Option (Sl Bs):=f g (b+1)
def lE (f:aj) (g:ai) (j:(Sl Bs)) :Nat->(Sl Bs)->Nat->Option (Sl Bs)
 | 0,_,_=>none
 | k+1,i,b=>bif ((decide (((b:Nat):Int)<((f.an.l.length:Nat):Int)))&&(decide (g.ar=(2:Int)))) then((f.an.l[b]?).bind fun m=>(qo m.aW g.aa).bind fun o=>bif o then((f.an.l[b]?).bind fun p=>(aQ 16 i (⟨false,[p.aa]⟩:Sl Bs)).bind fun q=>qt b ((lE f g j k)) q) else(qt b ((lE f g j k)) i)) else(qs j  i)
def qu (f:aj) (b:ai) (j:(Sl Bs))  (g:(Sl Bs)):Option (Sl Bs):=(aQ 16 g b.aW).bind fun i=>lE f b j (f.an.l.length+1) i 0
def qv (i:aj) (b:ai) (j:(Sl Bs)) :Nat->(Sl Bs)->Nat->Option (Sl Bs)
 | 0,_,_=>none
 | k+1,g,f=>bif ((decide (((f:Nat):Int)<((b.aJ.l.length:Nat):Int)))&&(decide (b.ar=(3:Int)))) then((b.aJ.l[f]?).bind fun m=>(aQ 16 g (⟨false,[m.aa]⟩:Sl Bs)).bind fun o=>(qv i b j k) o (f+1)) else(qu i b j  g)
def qw (g:aj) (b:ai) (i:(Sl Bs))  (f:(Sl Bs)):Option (Sl Bs):=qv g b i (b.aJ.l.length+1) f 0
def qx (i:aj) (b:ai) (j:(Sl Bs)) :Nat->(Sl Bs)->Nat->Option (Sl Bs)
 | 0,_,_=>none
 | k+1,g,f=>bif (decide (((f:Nat):Int)<((b.aM.l.length:Nat):Int))) then((b.aM.l[f]?).bind fun m=>(aQ 16 g (⟨false,[m.aA.aa]⟩:Sl Bs)).bind fun o=>(qx i b j k) o (f+1)) else(qw i b j  g)
def qy (g:aj) (b:ai) (i:(Sl Bs))  (f:(Sl Bs)):Option (Sl Bs):=qx g b i (b.aM.l.length+1) f 0
def qz (b:Nat) (f:(Sl Bs)->Nat->Option (Sl Bs)) (g:(Sl Bs)):Option (Sl Bs):=f g (b+1)
def qA (f:ai) (b:Nat) (i:(Sl Bs)->Nat->Option (Sl Bs)):Nat->(Sl Bs)->Nat->Option (Sl Bs)
 | 0,_,_=>none
 | k+1,j,g=>(f.ay.l[b]?).bind fun m=>bif (decide (((g:Nat):Int)<((m.aF.l.length:Nat):Int))) then((f.ay.l[b]?).bind fun o=>(o.aF.l[g]?).bind fun p=>(aQ 16 j (⟨false,[p.aA.aa]⟩:Sl Bs)).bind fun q=>(qA f b i k) q (g+1)) else(qz b i j)
def lF (i:aj) (b:ai) (j:(Sl Bs)) :Nat->(Sl Bs)->Nat->Option (Sl Bs)
 | 0,_,_=>none
 | k+1,g,f=>bif (decide (((f:Nat):Int)<((b.ay.l.length:Nat):Int))) then((b.ay.l[f]?).bind fun m=>(aQ 16 g (⟨false,[m.aA.aa]⟩:Sl Bs)).bind fun o=>qA b f ((lF i b j k)) (Option.elim (b.ay.l[f]?) 1 (fun p=>p.aF.l.length+1)) o 0) else(qy i b j  g)
def qB (f:aj) (b:ai) (g:(Sl Bs)):Option (Sl Bs):=lF f b g (b.ay.l.length+1) (Sl.nil:Sl Bs) 0
theorem Lg {k:aj}{j:ai}{i:Sl Bs}{g2:Nat}{r:Sl Bs}(b:qB k j i=some r) (H:ak) (bB:H g2=some (.tok 1 i.l.length)):AC Tryz.prog 25 [.agg (aj.c k),.agg (ai.c j),.d (Sl.d 1 aI (some g2) i)] H fun v h'=>v=.a (.d (Sl.d 1 aI (some g2) r))/\h'=(H.set g2 (some (.tok 1 r.l.length))):=by
 unfold qB at b;refine AC.oW 149 [.tmp 6] Tryz.call25 Tryz.func25 ?_;refine ah.dQ (h':=(H.set g2 (some (.tok 1 i.l.length)))) (by funext n_; simp only [ak.set]; (repeat' split)<;>simp_all) ?_;refine ah.tok 1 fun g L=>?_;obtain⟨bC,L⟩:=ak.dJ L;refine af (S BX (S BX (S As (nil ?_))));refine af (S As (nil ?_));refine ah.eH 7 1 g rfl aB ?_;refine aP (TA 2 (TA 3 (TA 4 kN))) (fun(z:(Sl Bs))=>[(7,.a (.d (Sl.d 1 aI (some g) z)))]) (fun z=>((H.set g2 (some (.tok 1 i.l.length))).set g (some (.tok 1 z.l.length)))) (fun z=>qy k j i z=some r) ?_ ?_
 ·intro bD aC;refine af (S As (nil ?_));refine block ?_;refine bp (TA 2 (TA 3 (TA 4 kN))) (fun(z:Nat×(Sl Bs)×Nat)=>[(7,.a (.d (Sl.d 1 aI (some g) z.2.1))),(8,.a (.d (.int .i64 ((z.2.2:Nat):Int))))]) (fun z=>((H.set g2 (some (.tok 1 i.l.length))).set g (some (.tok 1 z.2.1.l.length)))) (fun z=>z.1) (fun z=>lF k j i z.1 z.2.1 z.2.2=some r) ((j.ay.l.length+1),(Sl.nil:Sl Bs),0) b wA ?_
  rintro ⟨p,aD,o⟩ b bH aE;try dsimp only at b
  cases p with
  | zero=>cases b
  | succ p =>
    rw [lF] at b;refine ax fun aG M=>?_;refine af (S Mv (S Fv (S Ld ?_)));refine sLen (f:=Z7.c) (s:=j.ay) (TK rfl) rfl rfl rfl rfl fun bI=>?_;refine S BI (nil ?_);refine cE b (fun x b=>?_) (fun x b=>?_)
    ·try dsimp only at x
     have bJ:=oD x;refine sk M ?_;clear M aG;refine aP (TA 2 (TA 3 (TA 4 (TA 8 kN)))) (fun(z:(Sl Bs))=>[(7,.a (.d (Sl.d 1 aI (some g) z)))]) (fun z=>((H.set g2 (some (.tok 1 i.l.length))).set g (some (.tok 1 z.l.length)))) (fun z=>qz o ((lF k j i p)) z=some r) ?_ ?_
     ·intro bK aH;refine block ?_;refine af (S Mv (S Fv (S Ld (S Mv ?_))));obtain⟨bM,aK,b⟩:=bO b;refine S (ix Z7.c o aK) (S Fv (S Fv (S Ld (S BV ?_))));obtain⟨N,aL,b⟩:=bO b;refine SH (am aI (TK rfl) rfl (TK rfl) (TK rfl) aL) ?_;refine hq ((H.set g2 (some (.tok 1 i.l.length))).set g (some (.tok 1 N.l.length))) ?_;refine S As (nil ?_);refine af (S As (nil ?_));refine block ?_
      refine bp (TA 2 (TA 3 (TA 4 (TA 8 kN)))) (fun(z:Nat×(Sl Bs)×Nat)=>[(7,.a (.d (Sl.d 1 aI (some g) z.2.1))),(9,.a (.d (.int .i64 ((z.2.2:Nat):Int))))]) (fun z=>((H.set g2 (some (.tok 1 i.l.length))).set g (some (.tok 1 z.2.1.l.length)))) (fun z=>z.1) (fun z=>qA j o ((lF k j i p)) z.1 z.2.1 z.2.2=some r) ((Option.elim (j.ay.l[o]?) 1 (fun y=>y.aF.l.length+1)),N,0) b wA ?_
      rintro ⟨B,aN,O⟩ b bP aO;try dsimp only at b
      cases B with
      | zero=>cases b
      | succ B =>
        rw [qA] at b;refine ax fun aQ P=>?_;refine af (S Mv (S Fv (S Ld (S Mv ?_))));obtain⟨y,aR,b⟩:=bO b;refine S (ix Z7.c o aR) (S Fv (S Ld ?_));refine sLen (f:=Z8.c) (s:=y.aF) (TK rfl) rfl rfl rfl rfl fun bQ=>?_;refine S BI (nil ?_);refine cE b (fun C b=>?_) (fun C b=>?_)
        ·try dsimp only at C
         have bR:=oD C;refine sk P ?_;clear P aQ;refine ax fun aS Q=>?_;refine block ?_;refine region ?_;refine S Mv (S Fv (S Ld (S Mv ?_)));obtain⟨bS,aT,b⟩:=bO b;refine S (ix Z7.c o aT) (S Fv (S Ld (S Mv ?_)));obtain⟨bT,aU,b⟩:=bO b;refine S (ix Z8.c O aU) (S Fv (S Fv (S Ld (S BV ?_))));obtain⟨R,aV,b⟩:=bO b;refine SH (am aI (TK rfl) rfl (TK rfl) (TK rfl) aV) ?_
         refine hq ((H.set g2 (some (.tok 1 i.l.length))).set g (some (.tok 1 R.l.length))) ?_;refine S As (nil ?_);refine Q _ ?_;clear Q aS;refine region ?_;refine S Mv ?_;refine SI ?_;refine S As (nil ?_);exact aO _ (B,R,(O+1)) wA b (nS _)
        refine ah.exit ?_;exact aH _ aN wA b
     rintro aW b;try dsimp only at b
     unfold qz at b;refine region ?_;refine S Mv ?_;refine SI ?_;refine S As (nil ?_);exact aE _ (p,aW,(o+1)) wA b (nS _)
    refine ah.exit ?_;exact aC _ aD wA b
 rintro aX b;try dsimp only at b
 unfold qy at b;refine aP (TA 2 (TA 3 (TA 4 kN))) (fun(z:(Sl Bs))=>[(7,.a (.d (Sl.d 1 aI (some g) z)))]) (fun z=>((H.set g2 (some (.tok 1 i.l.length))).set g (some (.tok 1 z.l.length)))) (fun z=>qw k j i z=some r) ?_ ?_
 ·intro bU aZ;refine af (S As (nil ?_));refine block ?_;refine bp (TA 2 (TA 3 (TA 4 kN))) (fun(z:Nat×(Sl Bs)×Nat)=>[(7,.a (.d (Sl.d 1 aI (some g) z.2.1))),(10,.a (.d (.int .i64 ((z.2.2:Nat):Int))))]) (fun z=>((H.set g2 (some (.tok 1 i.l.length))).set g (some (.tok 1 z.2.1.l.length)))) (fun z=>z.1) (fun z=>qx k j i z.1 z.2.1 z.2.2=some r) ((j.aM.l.length+1),aX,0) b wA ?_
  rintro ⟨E,a0,U⟩ b bV a1;try dsimp only at b
  cases E with
  | zero=>cases b
  | succ E =>
    rw [qx] at b;refine ax fun a2 W=>?_;refine af (S Mv (S Fv (S Ld ?_)));refine sLen (f:=Z8.c) (s:=j.aM) (TK rfl) rfl rfl rfl rfl fun bW=>?_;refine S BI (nil ?_);refine cE b (fun F b=>?_) (fun F b=>?_)
    ·try dsimp only at F
     have bX:=oD F;refine sk W ?_;clear W a2;refine ax fun a3 X=>?_;refine block ?_;refine region ?_;refine S Mv (S Fv (S Ld (S Mv ?_)));obtain⟨bY,a4,b⟩:=bO b;refine S (ix Z8.c U a4) (S Fv (S Fv (S Ld (S BV ?_))));obtain⟨Y,a5,b⟩:=bO b;refine SH (am aI (TK rfl) rfl (TK rfl) (TK rfl) a5) ?_;refine hq ((H.set g2 (some (.tok 1 i.l.length))).set g (some (.tok 1 Y.l.length))) ?_
     refine S As (nil ?_);refine X _ ?_;clear X a3;refine region ?_;refine S Mv ?_;refine SI ?_;refine S As (nil ?_);exact a1 _ (E,Y,(U+1)) wA b (nS _)
    refine ah.exit ?_;exact aZ _ a0 wA b
 rintro a6 b;try dsimp only at b
 unfold qw at b;refine aP (TA 2 (TA 3 (TA 4 kN))) (fun(z:(Sl Bs))=>[(7,.a (.d (Sl.d 1 aI (some g) z)))]) (fun z=>((H.set g2 (some (.tok 1 i.l.length))).set g (some (.tok 1 z.l.length)))) (fun z=>qu k j i z=some r) ?_ ?_
 ·intro b0 a7;refine af (S As (nil ?_));refine block ?_;refine bp (TA 2 (TA 3 (TA 4 kN))) (fun(z:Nat×(Sl Bs)×Nat)=>[(7,.a (.d (Sl.d 1 aI (some g) z.2.1))),(11,.a (.d (.int .i64 ((z.2.2:Nat):Int))))]) (fun z=>((H.set g2 (some (.tok 1 i.l.length))).set g (some (.tok 1 z.2.1.l.length)))) (fun z=>z.1) (fun z=>qv k j i z.1 z.2.1 z.2.2=some r) ((j.aJ.l.length+1),a6,0) b wA ?_
  rintro ⟨G,a8,Z⟩ b b1 a9;try dsimp only at b
  cases G with
  | zero=>cases b
  | succ G =>
    rw [qv] at b;refine ax fun a_ aa=>?_;refine af (S Mv (S Fv (S Ld ?_)));refine sLen (f:=Z9.c) (s:=j.aJ) (TK rfl) rfl rfl rfl rfl fun b2=>?_;refine S BI (S Mv (G0 Fv ?_));refine G1 79 rfl Ld ?_;refine G1 80 rfl BI ?_;refine S PA (nil ?_);refine cE b (fun I b=>?_) (fun I b=>?_)
    ·try dsimp only at I
     have b3:=oD (and_left I);refine sk aa ?_;clear aa a_;refine ax fun a' ab=>?_;refine block ?_;refine region ?_;refine S Mv (S Fv (S Ld (S Mv ?_)));obtain⟨b4,ba,b⟩:=bO b;refine S (ix Z9.c Z ba) (S Fv (S Ld (S BV ?_)));obtain⟨ad,bb,b⟩:=bO b;refine SH (am aI (TK rfl) rfl (TK rfl) (TK rfl) bb) ?_;refine hq ((H.set g2 (some (.tok 1 i.l.length))).set g (some (.tok 1 ad.l.length))) ?_
     refine S As (nil ?_);refine ab _ ?_;clear ab a';refine region ?_;refine S Mv ?_;refine SI ?_;refine S As (nil ?_);exact a9 _ (G,ad,(Z+1)) wA b (nS _)
    refine ah.exit ?_;exact a7 _ a8 wA b
 rintro b6 b;try dsimp only at b
 unfold qu at b;refine af (S Mv (S Fv (S Ld ?_)));obtain⟨ae,bc,b⟩:=bO b;refine SH (am aI (TK rfl) rfl (TK rfl) (TK rfl) bc) ?_;refine hq ((H.set g2 (some (.tok 1 i.l.length))).set g (some (.tok 1 ae.l.length))) ?_;refine S As (nil ?_);refine aP (TA 2 kN) (fun(z:(Sl Bs))=>[(7,.a (.d (Sl.d 1 aI (some g) z)))]) (fun z=>((H.set g2 (some (.tok 1 i.l.length))).set g (some (.tok 1 z.l.length)))) (fun z=>qs i z=some r) ?_ ?_
 ·intro b7 bd;refine af (S As (nil ?_));refine block ?_;refine bp (TA 2 (TA 3 (TA 4 kN))) (fun(z:Nat×(Sl Bs)×Nat)=>[(7,.a (.d (Sl.d 1 aI (some g) z.2.1))),(12,.a (.d (.int .i64 ((z.2.2:Nat):Int))))]) (fun z=>((H.set g2 (some (.tok 1 i.l.length))).set g (some (.tok 1 z.2.1.l.length)))) (fun z=>z.1) (fun z=>lE k j i z.1 z.2.1 z.2.2=some r) ((k.an.l.length+1),ae,0) b wA ?_
  rintro ⟨q,ag,t⟩ b b8 be;try dsimp only at b
  cases q with
  | zero=>cases b
  | succ q =>
    rw [lE] at b;refine ax fun bf al=>?_;refine af (S Mv (S Fv (S Ld ?_)));refine sLen (f:=ai.c) (s:=k.an) (TK rfl) rfl rfl rfl rfl fun b9=>?_;refine S BI (S Mv (G0 Fv ?_));refine G1 104 rfl Ld ?_;refine G1 105 rfl BI ?_;refine S PA (nil ?_);refine cE b (fun J b=>?_) (fun J b=>?_)
    ·try dsimp only at J
     have b_:=oD (and_left J);refine sk al ?_;clear al bf;refine aP (TA 2 (TA 3 (TA 4 (TA 12 kN)))) (fun(z:(Sl Bs))=>[(7,.a (.d (Sl.d 1 aI (some g) z)))]) (fun z=>((H.set g2 (some (.tok 1 i.l.length))).set g (some (.tok 1 z.l.length)))) (fun z=>qt t ((lE k j i q)) z=some r) ?_ ?_
     ·intro b' ao;refine block ?_;refine ah.b5 (Sd Fv (Sd Ld (Sd Mv ?_)));obtain⟨ca,bg,b⟩:=bO b;refine Sd (ix ai.c t bg) (Sd Fv (Sd Ld (Sd Fv (Sd Ld ?_))));obtain⟨cb,bh,b⟩:=bO b;refine ct rfl rfl (zk bh) ?_;refine au.nil (by decide +kernel) ?_;refine cE b (fun bi b=>?_) (fun bi b=>?_)
      ·refine region ?_;refine S Mv (S Fv (S Ld (S Mv ?_)));obtain⟨cc,bj,b⟩:=bO b;refine S (ix ai.c t bj) (S Fv (S Ld (S BV ?_)));obtain⟨ap,bk,b⟩:=bO b;refine SH (am aI (TK rfl) rfl (TK rfl) (TK rfl) bk) ?_;refine hq ((H.set g2 (some (.tok 1 i.l.length))).set g (some (.tok 1 ap.l.length))) ?_;refine S As (nil ?_);exact ao _ ap wA b
      refine ah.skip ?_;exact ao _ ag wA b
     rintro bl b;try dsimp only at b
     unfold qt at b;refine region ?_;refine S Mv ?_;refine SI ?_;refine S As (nil ?_);exact be _ (q,bl,(t+1)) wA b (nS _)
    refine ah.exit ?_;exact bd _ ag wA b
 rintro m b;try dsimp only at b
 unfold qs at b;refine aP kN (fun(z:(Sl Bs))=>[(2,.a (.d (Sl.d 1 aI (some g2) z)))]) (fun z=>((H.set g2 (some (.tok 1 z.l.length))).set g (some (.tok 1 m.l.length)))) (fun z=>qp z=some r) ?_ ?_
 ·intro cd bm;refine af (S As (nil ?_));refine block ?_;refine bp (TA 7 kN) (fun(z:Nat×(Sl Bs)×Nat)=>[(2,.a (.d (Sl.d 1 aI (some g2) z.2.1))),(13,.a (.d (.int .i64 ((z.2.2:Nat):Int))))]) (fun z=>((H.set g2 (some (.tok 1 z.2.1.l.length))).set g (some (.tok 1 m.l.length)))) (fun z=>z.1) (fun z=>lD m z.1 z.2.1 z.2.2=some r) ((m.l.length+1),i,0) b wA ?_;rintro ⟨u,ar,w⟩ b ce bo
  try dsimp only at b
  cases u with
  | zero=>cases b
  | succ u =>
    rw [lD] at b;refine ax fun bq av=>?_;refine af (S Mv (S Mv ?_));refine sLen (f:=aI) (s:=m) (TK rfl) rfl rfl rfl rfl fun cf=>?_;refine S BI (nil ?_);refine cE b (fun K b=>?_) (fun K b=>?_)
    ·try dsimp only at K
     have cg:=oD K;refine sk av ?_;clear av bq;refine aP (TA 7 (TA 13 kN)) (fun(z:(Sl Bs))=>[(2,.a (.d (Sl.d 1 aI (some g2) z)))]) (fun z=>((H.set g2 (some (.tok 1 z.l.length))).set g (some (.tok 1 m.l.length)))) (fun z=>qq w ((lD m u)) z=some r) ?_ ?_
     ·intro ch aw;refine block ?_;refine af (S Mv (S Mv (S Mv ?_)));obtain⟨ci,br,b⟩:=bO b;refine S (ix aI w br) (S Ld ?_);obtain⟨cj,bs,b⟩:=bO b;refine Sc rfl rfl (zk bs) ?_;refine S NB (nil ?_);refine cE b (fun bt b=>?_) (fun bt b=>?_)
      ·refine region ?_;refine S Mv (S Mv (S Mv ?_));obtain⟨ck,bu,b⟩:=bO b;refine S (ix aI w bu) (S Ld (S BV ?_));obtain⟨az,bv,b⟩:=bO b;refine SH (am aI (TK rfl) rfl (TK rfl) (TK rfl) bv) ?_;refine hq ((H.set g2 (some (.tok 1 az.l.length))).set g (some (.tok 1 m.l.length))) ?_;refine S As (nil ?_);exact aw _ az wA b
      refine ah.skip ?_;exact aw _ ar wA b
     rintro bw b;try dsimp only at b
     unfold qq at b;refine region ?_;refine S Mv ?_;refine SI ?_;refine S As (nil ?_);exact bo _ (u,bw,(w+1)) wA b (nS _)
    refine ah.exit ?_;exact bm _ ar wA b
 rintro bx b;try dsimp only at b
 unfold qp at b;refine af (S Mv (S As (nil ?_)));refine ah.ret ?_;repeat (first|refine bE ?_|refine bF ?_)
 obtain rfl:=oJ b;refine bn.bG (H.set g2 (some (.tok 1 bx.l.length))) rfl ⟨rfl,rfl⟩ ?_;intro bz cl aA;have cn:bz≠g:=fun bA=>by subst bA; simp_all [ak.set]
 rw [<- aA];simp only [ak.set] at aA ⊢
 (repeat' split)<;>simp_all
def mM (f:Z7):List Z8->(Sl Bs)->Option ((Sl Bs))
 | [],b=>some b
 | g::i,b=>on (f) fun l=>on (g) fun j=>(aQ 16 b (⟨false,[j.aA.aa]⟩:Sl Bs)).bind fun k=>mM f (i) k
theorem Lh {m:ai}{k:Nat}{o:(Sl Bs)->Nat->Option (Sl Bs)}{j:Z7}(p:m.ay.l[k]?=some j) (q:((Sl Bs))->Option (Sl Bs)) (s:∀(b:Nat) (f:(Sl Bs)) (g:Nat),qz k o f=q f):∀(b:Nat) (f:(Sl Bs)) (g:Nat),(0<b/\j.aF.l.length<g+b)->qA m k o b f g=Option.bind (mM j (j.aF.l.drop g) f) q:=by
 intro b;induction b with
 | zero=>intro f g hn; exact absurd hn.1 (by omega)
 | succ b t =>
  intro f g hn;rw [qA];refine Q.preB p fun u v=>?_;subst v;by_cases aT:g<u.aF.l.length
  ·obtain⟨w,i⟩:=Qa aT;rw [Q.gq i,mM];refine QT aT ?_;refine Q.e9 p fun x r=>?_;refine Q.e9 (by first|exact i|(simp only [r]; exact i)|(simp only [r] at i ⊢; exact i)) fun y z=>?_;refine Q.jh rfl fun B=>?_;all_goals exact t _ _ ⟨by omega,by omega⟩
  rw [dL (by omega),mM];refine QF aT ?_;exact s b f g
def mN :List Z7->(Sl Bs)->Option ((Sl Bs))
 | [],b=>some b
 | f::g,b=>on (f) fun i=>(aQ 16 b (⟨false,[i.aA.aa]⟩:Sl Bs)).bind fun j=>Option.bind (mM f f.aF.l j) fun k=>on (k) fun m=>mN  (g) m
theorem Li {m:aj}{i:ai}{o:Sl Bs}(p:((Sl Bs))->Option (Sl Bs)) (q:∀(b:Nat) (g:(Sl Bs)) (f:Nat),qy m i o  g=p g):∀(b:Nat) (g:(Sl Bs)) (f:Nat),(0<b/\i.ay.l.length<f+b)->lF m i o b g f=Option.bind (mN  (i.ay.l.drop f) g) p:=by
 intro b;induction b with
 | zero=>intro g f hn; exact absurd hn.1 (by omega)
 | succ b r =>
  intro g f hn;rw [lF];by_cases aT:f<i.ay.l.length
  ·obtain⟨x,j⟩:=Qa aT;rw [Q.gq j,mN];refine QT aT ?_;refine Q.e9 j fun y z=>?_;refine Q.jh rfl fun B=>?_;refine Q.iu fun s t=>?_;refine Lh j s ?_ _ _ _ ⟨by rw [j]; exact Nat.succ_pos _,by rw [j]; simp only [Option.elim]; omega⟩;intro C E F;refine Qe (t _) ?_;refine Q.jQ fun u v=>?_;have w:∀(k:(Sl Bs)),qz f (lF m i o b) k=u k:=by
    intro k;refine Qe (v _) ?_;unfold qz;all_goals exact r _ _ ⟨by omega,by omega⟩
   all_goals exact w _
  rw [dL (by omega),mN];refine QF aT ?_;exact q b g f
def mQ :List Z8->(Sl Bs)->Option ((Sl Bs))
 | [],b=>some b
 | f::g,b=>on (f) fun i=>(aQ 16 b (⟨false,[i.aA.aa]⟩:Sl Bs)).bind fun j=>mQ  (g) j
theorem Lj {m:aj}{i:ai}{o:Sl Bs}(j:((Sl Bs))->Option (Sl Bs)) (p:∀(b:Nat) (f:(Sl Bs)) (g:Nat),qw m i o  f=j f):∀(b:Nat) (f:(Sl Bs)) (g:Nat),(0<b/\i.aM.l.length<g+b)->qx m i o b f g=Option.bind (mQ  (i.aM.l.drop g) f) j:=by
 intro b;induction b with
 | zero=>intro f g hn; exact absurd hn.1 (by omega)
 | succ b q =>
  intro f g hn;rw [qx];by_cases aT:g<i.aM.l.length
  ·obtain⟨r,k⟩:=Qa aT;rw [Q.gq k,mQ];refine QT aT ?_;refine Q.e9 k fun s t=>?_;refine Q.jh rfl fun u=>?_;all_goals exact q _ _ ⟨by omega,by omega⟩
  rw [dL (by omega),mQ];refine QF aT ?_;exact p b f g
def mR (f:ai):List Z9->(Sl Bs)->Option ((Sl Bs))
 | [],b=>some b
 | g::i,b=>bif (decide (f.ar=(3:Int))) then(on (g) fun j=>(aQ 16 b (⟨false,[j.aa]⟩:Sl Bs)).bind fun k=>mR f (i) k) else(some b)
theorem Ll {o:aj}{i:ai}{p:Sl Bs}(j:((Sl Bs))->Option (Sl Bs)) (k:∀(b:Nat) (f:(Sl Bs)) (g:Nat),qu o i p  f=j f):∀(b:Nat) (f:(Sl Bs)) (g:Nat),(0<b/\i.aJ.l.length<g+b)->qv o i p b f g=Option.bind (mR i (i.aJ.l.drop g) f) j:=by
 intro b;induction b with
 | zero=>intro f g hn; exact absurd hn.1 (by omega)
 | succ b q =>
  intro f g hn;rw [qv];by_cases aT:g<i.aJ.l.length
  ·obtain⟨r,m⟩:=Qa aT;rw [Q.gq m,mR];refine Q.By (Q.tg aT) ?_;refine Q.ir ?_ ?_
   ·refine Q.e9 m fun s t=>?_;refine Q.jh rfl fun u=>?_;all_goals exact q _ _ ⟨by omega,by omega⟩
   all_goals exact k b f g
  rw [dL (by omega),mR];refine Q.Bz (Q.vX aT) ?_;exact k b f g
def mS (f:ai):List ai->(Sl Bs)->Option ((Sl Bs))
 | [],b=>some b
 | g::i,b=>bif (decide (f.ar=(2:Int))) then(on (g) fun j=>on (oz j.aW f.aa) fun k=>Option.bind (bif k then(on (g) fun l=>(aQ 16 b (⟨false,[l.aa]⟩:Sl Bs)).bind fun m=>some m) else(some b)) fun o=>mS f (i) o) else(some b)
theorem Lm {i:aj}{j:ai}{o:Sl Bs}(p:((Sl Bs))->Option (Sl Bs)) (q:∀(b:Nat) (g:(Sl Bs)) (f:Nat),qs o  g=p g):∀(b:Nat) (g:(Sl Bs)) (f:Nat),(0<b/\i.an.l.length<f+b)->lE i j o b g f=Option.bind (mS j (i.an.l.drop f) g) p:=by
 intro b;induction b with
 | zero=>intro g f hn; exact absurd hn.1 (by omega)
 | succ b s =>
  intro g f hn;rw [lE];by_cases aT:f<i.an.l.length
  ·obtain⟨v,k⟩:=Qa aT;rw [Q.gq k,mS];refine Q.By (Q.tg aT) ?_;refine Q.ir ?_ ?_
   ·refine Q.e9 k fun w x=>?_;refine Q.e9 (zj _ _) fun y z=>?_;refine Q.iu fun t u=>?_;have r:∀(m:(Sl Bs)),qt f (lE i j o b) m=t m:=by
     intro m;refine Qe (u _) ?_;unfold qt;all_goals exact s _ _ ⟨by omega,by omega⟩
    refine Q.ir ?_ ?_
    ·refine Q.e9 k fun B C=>?_;refine Q.jh rfl fun E=>?_;all_goals exact r _
    all_goals exact r _
   all_goals exact q b g f
  rw [dL (by omega),mS];refine Q.Bz (Q.vX aT) ?_;exact q b g f
def mU :List Bs->(Sl Bs)->Option ((Sl Bs))
 | [],b=>some b
 | f::g,b=>on (f) fun i=>on (oz b i) fun j=>Option.bind (bif (!j) then(on (f) fun k=>(aQ 16 b (⟨false,[k]⟩:Sl Bs)).bind fun l=>some l) else(some b)) fun m=>mU  (g) m
theorem Ln {i:Sl Bs}(m:((Sl Bs))->Option (Sl Bs)) (p:∀(b:Nat) (g:(Sl Bs)) (f:Nat),qp   g=m g):∀(b:Nat) (g:(Sl Bs)) (f:Nat),(0<b/\i.l.length<f+b)->lD i b g f=Option.bind (mU  (i.l.drop f) g) m:=by
 intro b;induction b with
 | zero=>intro g f hn; exact absurd hn.1 (by omega)
 | succ b q =>
  intro g f hn;rw [lD];by_cases aT:f<i.l.length
  ·obtain⟨t,j⟩:=Qa aT;rw [Q.gq j,mU];refine QT aT ?_;refine Q.e9 j fun u v=>?_;refine Q.e9 (zj _ _) fun w x=>?_;refine Q.iu fun r s=>?_;have o:∀(k:(Sl Bs)),qq f (lD i b) k=r k:=by
    intro k;refine Qe (s _) ?_;unfold qq;all_goals exact q _ _ ⟨by omega,by omega⟩
   refine Q.ir ?_ ?_
   ·refine Q.e9 j fun y z=>?_;refine Q.jh rfl fun B=>?_;all_goals exact o _
   all_goals exact o _
  rw [dL (by omega),mU];refine QF aT ?_;exact p b g f
def zl (t:aj) (b:ai) (u:(Sl Bs)):Option (Sl Bs):=Option.bind (mN  b.ay.l (Sl.nil:Sl Bs)) fun f=>on (f) fun g=>Option.bind (mQ  b.aM.l g) fun i=>on (i) fun j=>Option.bind (mR b b.aJ.l j) fun k=>on (k) fun m=>(aQ 16 m b.aW).bind fun o=>Option.bind (mS b t.an.l o) fun p=>on (p) fun q=>Option.bind (mU  q.l u) fun r=>on (r) fun s=>some s
theorem Lo (a0:aj) (b:ai) (a2:(Sl Bs)):qB a0 b a2=zl a0 b a2:=by
 unfold qB zl;refine Qs ?_;refine Q.iu fun l m=>?_;refine Li  l ?_ _ _ _ ⟨Nat.succ_pos _,by omega⟩;intro N O P;refine Qe (m _) ?_;refine Q.jQ fun o p=>?_;have q:∀(f:(Sl Bs)),qy a0 b a2 f=o f:=by
  intro f;refine Qe (p _) ?_;unfold qy;refine Q.iu fun r s=>?_;refine Lj  r ?_ _ _ _ ⟨Nat.succ_pos _,by omega⟩;intro R S U;refine Qe (s _) ?_;refine Q.jQ fun t u=>?_;have v:∀(g:(Sl Bs)),qw a0 b a2 g=t g:=by
   intro g;refine Qe (u _) ?_;unfold qw;refine Q.iu fun w x=>?_;refine Ll  w ?_ _ _ _ ⟨Nat.succ_pos _,by omega⟩;intro W X Y;refine Qe (x _) ?_;refine Q.jQ fun y z=>?_;have B:∀(i:(Sl Bs)),qu a0 b a2 i=y i:=by
    intro i;refine Qe (z _) ?_;unfold qu;refine Q.jh rfl fun Z=>?_;refine Q.iu fun C E=>?_;refine Lm  C ?_ _ _ _ ⟨Nat.succ_pos _,by omega⟩;intro aa ab ad;refine Qe (E _) ?_;refine Q.jQ fun F G=>?_;have H:∀(j:(Sl Bs)),qs a2 j=F j:=by
     intro j;refine Qe (G _) ?_;unfold qs;refine Q.iu fun I J=>?_;refine Ln  I ?_ _ _ _ ⟨Nat.succ_pos _,by omega⟩;intro ae af ag;refine Qe (J _) ?_;refine Q.jQ fun K L=>?_;have M:∀(k:(Sl Bs)),qp  k=K k:=by
      intro k;refine Qe (L _) ?_;unfold qp;all_goals rfl
     all_goals exact M _
    all_goals exact H _
   all_goals exact B _
  all_goals exact v _
 all_goals exact q _
def uR  (b:aj):Option aj:=some b
def rX (b:Nat) (f:Nat->aj->Option aj) (g:aj):Option aj:=f (b+1) g
def mV (f:aj) (g:(Sl Bs)) :Nat->Nat->aj->Option aj
 | 0,_,_=>none
 | j+1,b,i=>bif (decide (((b:Nat):Int)<((f.an.l.length:Nat):Int))) then((f.an.l[b]?).bind fun k=>(qo g k.aa).bind fun m=>bif m then((f.an.l[b]?).bind fun o=>(aQ 144 i.an (⟨false,[o]⟩:Sl ai)).bind fun p=>rX b ((mV f g j)) (aj.mk p)) else(rX b ((mV f g j)) i)) else(uR   i)
def qC (b:aj)  (f:(Sl Bs)):Option aj:=mV b f (b.an.l.length+1) 0 aj.zero
def rY (b:Nat) (f:(Sl Bs)->Nat->Option aj) (g:(Sl Bs)):Option aj:=f g (b+1)
def lG (f:aj) :Nat->(Sl Bs)->Nat->Option aj
 | 0,_,_=>none
 | i+1,b,g=>bif (decide (((g:Nat):Int)<((b.l.length:Nat):Int))) then((b.l[g]?).bind fun k=>(ph f k).bind fun j=>bif j.2 then((qB f j.1 b).bind fun m=>rY g ((lG f i)) m) else(rY g ((lG f i)) b)) else(qC f  b)
def rZ (b:aj):Option aj:=lG b F0 (⟨false,[([81,117,101,114,121]:Bs),([77,117,116,97,116,105,111,110]:Bs),([83,117,98,115,99,114,105,112,116,105,111,110]:Bs)]⟩:Sl Bs) 0
theorem Lp {k r:aj}(b:rZ k=some r) (H:ak) :AC Tryz.prog 10 [.agg (aj.c k)] H fun v h'=>v=.a (.agg (aj.c r))/\h'=H:=by
 unfold rZ at b;refine AC.oW 56 [.cell 2 24] Tryz.call10 Tryz.func10 ?_;refine af (S BX ?_);refine Sl ?_;refine nil ?_;refine af ?_;refine s0 (nF (TK rfl) rfl (TK rfl) rfl rfl rfl rfl rfl rfl) rfl ?_;refine aO.tokFull (f:=aI) (y:=(⟨false,[([81,117,101,114,121]:Bs),([77,117,116,97,116,105,111,110]:Bs),([83,117,98,115,99,114,105,112,116,105,111,110]:Bs)]⟩:Sl Bs)) 9 rfl rfl fun g ay=>?_
 refine S As (nil ?_);refine aP (TA 1 (TA 2 kN)) (fun(z:(Sl Bs))=>[(3,.a (.d (Sl.d 1 aI (some g) z)))]) (fun z=>(H.set g (some (.tok 1 z.l.length)))) (fun z=>qC k z=some r) ?_ ?_
 ·intro az R;refine af (S As (nil ?_));refine block ?_;refine bp (TA 1 (TA 2 kN)) (fun(z:Nat×(Sl Bs)×Nat)=>[(3,.a (.d (Sl.d 1 aI (some g) z.2.1))),(4,.a (.d (.int .i64 ((z.2.2:Nat):Int))))]) (fun z=>(H.set g (some (.tok 1 z.2.1.l.length)))) (fun z=>z.1) (fun z=>lG k z.1 z.2.1 z.2.2=some r) (F0,(⟨false,[([81,117,101,114,121]:Bs),([77,117,116,97,116,105,111,110]:Bs),([83,117,98,115,99,114,105,112,116,105,111,110]:Bs)]⟩:Sl Bs),0) b wA ?_
  rintro ⟨o,u,x⟩ b aA U;try dsimp only at b
  cases o with
  | zero=>cases b
  | succ o =>
    rw [lG] at b;refine ax fun W F=>?_;refine af (S Mv (S Mv ?_));refine sLen (f:=aI) (s:=u) (TK rfl) rfl rfl rfl rfl fun aC=>?_;refine S BI (nil ?_);refine cE b (fun B b=>?_) (fun B b=>?_)
    ·try dsimp only at B
     have aD:=oD B;refine sk F ?_;clear F W;refine aP (TA 1 (TA 2 (TA 4 kN))) (fun(z:(Sl Bs))=>[(3,.a (.d (Sl.d 1 aI (some g) z)))]) (fun z=>(H.set g (some (.tok 1 z.l.length)))) (fun z=>rY x ((lG k o)) z=some r) ?_ ?_
     ·intro aE G;refine block ?_;refine ah.b5 (Sd Ld (Sd Mv (Sd Mv ?_)));obtain⟨aF,X,b⟩:=bO b;refine Sd (ix aI x X) (Sd Ld ?_);obtain⟨aG,Y,b⟩:=bO b;refine ct rfl rfl (iz Y) ?_;refine Sd Mv (Sd EX (Sd EX ?_));refine au.sB (TK rfl) rfl rfl ?_ (by repeat (first|exact bN.nil|apply bN.cons));refine au.dA (eA (TK rfl) rfl rfl rfl rfl rfl) ?_;refine Sd As ?_
      refine au.nil (by decide +kernel) ?_;refine bA 5 _ rfl (KA 1 (KA 2 (KA 3 (KA 4 (KA 6 aY.nil))))) ?_;refine af (S Mv (nil ?_));refine cE b (fun Z b=>?_) (fun Z b=>?_)
      ·refine region ?_;refine S Ld (S Ld (S Mv ?_));obtain⟨I,aa,b⟩:=bO b;refine sH (bU rfl rfl (Lg aa _ aB)) rfl ?_;refine hq (H.set g (some (.tok 1 I.l.length))) ?_;refine S As (nil ?_);exact G _ I wA b
      refine ah.skip ?_;exact G _ u wA b
     rintro ab b;try dsimp only at b
     unfold rY at b;refine region ?_;refine S Mv ?_;refine SI ?_;refine S As (nil ?_);exact U _ (o,ab,(x+1)) wA b (nS _)
    refine ah.exit ?_;exact R _ u wA b
 rintro m b;try dsimp only at b
 unfold qC at b;refine af ?_;refine Sl ?_;refine aO.tok 7 fun i J=>?_;obtain⟨aH,J⟩:=ak.dJ J;refine aO.cV 1 _ rfl (fun j w cs hh hx=>tok_cell 0 7 7 hh (t:=i) aB hx rfl) ?_;refine nil ?_;refine ez (TA 2 (TA 7 kN)) (fun(z:aj)=>[]) (fun z=>[aj.c aj.zero,([Sl.d 7 ai.c (some i) z.an])]) (fun z=>((H.set g (some (.tok 1 m.l.length))).set i (some (.tok 7 z.an.l.length)))) (fun z=>uR z=some r) ?_ ?_
 ·intro aJ ad;refine af (S As (nil ?_));refine block ?_;refine fK (TA 1 (TA 2 (TA 3 (TA 7 kN)))) (fun(z:Nat×Nat×aj)=>[(8,.a (.d (.int .i64 ((z.2.1:Nat):Int))))]) (fun z=>[aj.c aj.zero,([Sl.d 7 ai.c (some i) z.2.2.an])]) (fun z=>((H.set g (some (.tok 1 m.l.length))).set i (some (.tok 7 z.2.2.an.l.length)))) (fun z=>z.1) (fun z=>mV k m z.1 z.2.1 z.2.2=some r) ((k.an.l.length+1),0,aj.zero) b wA ?_
  rintro ⟨p,q,K⟩ b aK ae;try dsimp only at b
  cases p with
  | zero=>cases b
  | succ p =>
    rw [mV] at b;refine ax fun ag L=>?_;refine af (S Mv (S Fv (S Ld ?_)));refine sLen (f:=ai.c) (s:=k.an) (TK rfl) rfl rfl rfl rfl fun aL=>?_;refine S BI (nil ?_);refine cE b (fun C b=>?_) (fun C b=>?_)
    ·try dsimp only at C
     have aM:=oD C;refine sk L ?_;clear L ag;refine ez (TA 1 (TA 2 (TA 3 (TA 7 (TA 8 kN))))) (fun(z:aj)=>[]) (fun z=>[aj.c aj.zero,([Sl.d 7 ai.c (some i) z.an])]) (fun z=>((H.set g (some (.tok 1 m.l.length))).set i (some (.tok 7 z.an.l.length)))) (fun z=>rX q ((mV k m p)) z=some r) ?_ ?_
     ·intro aN M;refine block ?_;refine af (S Mv (S Fv (S Ld (S Mv ?_))));obtain⟨aQ,al,b⟩:=bO b;refine S (ix ai.c q al) (S Fv (S Ld ?_));obtain⟨aR,am,b⟩:=bO b;refine Sc rfl rfl (zk am) ?_;refine nil ?_;refine cE b (fun ao b=>?_) (fun ao b=>?_)
      ·refine ah.draw rfl ?_;refine Sd FL (Sd LL (Sd Fv (Sd Ld (Sd Mv ?_))));obtain⟨aS,ap,b⟩:=bO b;refine Sd (ix ai.c q ap) (Sd Ld (Sd BV ?_));obtain⟨N,ar,b⟩:=bO b;refine au.sH (jf (f:=ai.c) (TK rfl) rfl (TK rfl) (TK rfl) ⟨_,rfl⟩ rfl rfl (by decide) rfl rfl rfl rfl aB rfl ar) rfl ?_;refine au.Dh ((H.set g (some (.tok 1 m.l.length))).set i (some (.tok 7 N.l.length))) ?_
       refine Sd FL ?_;refine au.dA (qU (TK rfl) rfl rfl rfl rfl (by repeat (first|exact bL.zero|apply bL.succ)) (by repeat (first|exact bL.zero|apply bL.succ))) ?_;refine au.nil (by decide +kernel) ?_;exact M _ (aj.mk N) wA b
      refine ah.skip ?_;exact M _ K wA b
     rintro av b;try dsimp only at b
     unfold rX at b;refine region ?_;refine S Mv ?_;refine SI ?_;refine S As (nil ?_);exact ae _ (p,(q+1),av) wA b (nS _)
    refine ah.exit ?_;exact ad _ K wA b
 rintro aT b;try dsimp only at b
 unfold uR at b;refine ax fun aw O=>?_;refine ah.cV 1 _ rfl (fun j w cs hh hx=>jg 0 hx rfl) ?_;refine region ?_;refine S LL ?_;refine Sf ?_;refine nil ?_;refine O _ ?_;clear O aw;refine ah.ret ?_;repeat (first|refine bE ?_|refine bF ?_)
 obtain rfl:=oJ b;refine bn.bG H rfl ⟨rfl,rfl⟩ ?_;intro P aU Q;have aV:P≠g:=fun E=>by subst E; simp_all [ak.set]
 have aW:P≠i:=fun E=>by subst E; simp_all [ak.set]
 rw [<- Q];simp only [ak.set] at Q ⊢
 (repeat' split)<;>simp_all
def r4 (b:aj):Option aj:=rZ b
theorem Lq (a0:aj):rZ a0=r4 a0:=rfl
def r_ (i:aj):Option Bool:=(p_ i).bind fun k=>bif (!k) then((rS).bind fun m=>some m) else((ou i).bind fun f=>(r4 i).bind fun o=>(lB f o).bind fun b=>aU (b) (iL f) (Sl.nil:Sl Z6) fun g=>aU ((b&&(decide (((g.l.length:Nat):Int)=(0:Int))))) (ou f) aj.zero fun p=>aU ((b&&(decide (((g.l.length:Nat):Int)=(0:Int))))) (lB p f) false fun j=>aU (((b&&(decide (((g.l.length:Nat):Int)=(0:Int))))&&j)) (rS) false fun q=>some (((b&&(decide (((g.l.length:Nat):Int)=(0:Int))))&&j)&&q))
def zm (b:aj):Option Bool:=r_ b
theorem Lr (a0:aj):zm a0=r_ a0:=rfl
theorem Ls {i:aj}{r:Bool}(b:zm i=some r) (H:ak) :AC Tryz.prog 4 [.agg (aj.c i)] H fun v h'=>v=.a (.d (.bool r))/\h'=H:=by
 unfold zm r_ at b;refine AC.oW 29 [.tmp 2] Tryz.call4 Tryz.func4 ?_;refine af (S BX (S As (nil ?_)));refine ax fun j g=>?_;refine af (S Ld ?_);obtain⟨B,l,b⟩:=qT (J2 _) b;refine Sc rfl rfl (J3 l) ?_;refine S NB (nil ?_);refine cE b (fun m b=>?_) (fun m b=>?_)
 ·refine af ?_;obtain⟨C,o,b⟩:=qT rfl b;refine Sc rfl rfl (Dr o) ?_;refine S As (nil ?_);exact rt b
 refine sk g ?_;clear g j;refine af (S Ld ?_);obtain⟨E,p,b⟩:=qT (Dp _) b;refine Sc rfl rfl (y9 p) ?_;refine Sl ?_;refine Sf ?_;refine nil ?_;refine bA 3 _ rfl (KA 1 aY.nil) ?_;refine ah.b5 (Sd Ld (Sd Ld ?_));obtain⟨F,q,b⟩:=qT (Lq _) b;refine ct rfl rfl (Lp q) ?_;obtain⟨G,t,b⟩:=qT (Dz _ _) b;refine ct rfl rfl (DA t) ?_;refine Sd Mv (cD Ld ?_)
 obtain⟨u,w,b⟩:=dR (Cx _) b;refine l7 15 rfl rfl rfl rfl rfl (fun hC=>Cy (w hC)) ?_;refine au.gC rfl rfl (fun hC=>aL (k:=16) rfl (b8 (f:=Z6.c) (s:=u) (TK rfl) rfl rfl rfl)) rfl ?_;refine cM 17 rfl BI ?_;refine Sd PA (Sd Mv (cD Ld ?_));obtain⟨I,x,b⟩:=dR (Dp _) b;refine l7 21 rfl rfl rfl rfl rfl (fun hC=>y9 (x hC)) ?_;refine cD Ld ?_;obtain⟨J,y,b⟩:=dR (Dz _ _) b
 refine pe 22 23 rfl rfl rfl rfl rfl rfl (fun hC=>DA (y hC)) ?_;refine Sd PA (Sd Mv ?_);obtain⟨K,z,b⟩:=dR rfl b;refine Ib rfl rfl rfl rfl (fun hC=>Dr (z hC)) ?_;refine Sd PA (Sd As ?_);refine au.nil (by decide +kernel) ?_;exact rt b
end Go.Proofs
namespace Go.Proofs
open Go Go.Ab
theorem Lt (a:aG) (g:a.aK.l.length<=1048576) (l:List Int) (i:Nat) (h:i+l.length=a.aK.l.length):Ok (mo a l i):=by
 induction l generalizing i with
 | nil=>exact aS.some _
 | cons x r f =>
  simp only [List.length_cons] at h;have hr:=f (i+1) (by omega);rw [mo];simp only [on];refine aS.cond (fun _=>aS.some _) fun _=>?_;by_cases hi:0<i
  ·have h1:decide ((0:Int)<((i:Nat):Int))=true:=by simpa using hi
   obtain⟨v,hv⟩:=HV (l:=a.aK.l) (n:=(i:Int)-1) (by omega);simp only [h1,cond_true,Bool.true_and,BB (a:=(i:Int)) (b:=1) (by omega)];cases decide (x=1)<;>simp only [aU,hv,if_true,oB,Bool.false_eq_true,if_false,Bool.false_and,cond_false]
   ·exact hr
   ·(repeat' (first|exact aS.some _|assumption|(with_reducible refine aS.bind ?_ fun _ _=>?_)|(with_reducible refine aS.guard (fun _=>?_) fun _ _ _=>?_)|(with_reducible refine aS.cond (fun _=>?_) fun _=>?_)|(with_reducible refine aS.on fun _ _=>?_)|split))
  ·have h1:decide ((0:Int)<((i:Nat):Int))=false:=by simpa using hi
   simp only [h1,Bool.false_and,aU,Bool.false_eq_true,if_false,cond_false];exact hr
theorem DB (a:aG) (b:a.aK.l.length<=1048576):Ok (oa a):=by
 unfold oa
 (repeat' (first|exact aS.some _|assumption|(with_reducible refine aS.bind ?_ fun _ _=>?_)|(with_reducible refine aS.guard (fun _=>?_) fun _ _ _=>?_)|(with_reducible refine aS.cond (fun _=>?_) fun _=>?_)|(with_reducible refine aS.on fun _ _=>?_)|split))
 exact Lt a b _ _ (by simp)
theorem Lu (k:ag->Option Int) (l:List ag) (s:Int) (hk:∀x∈l,∃r,k x=some r/\1<=r/\r<=x.sz) (i:0<=s) (hb:s+((l.map ag.sz).sum:Nat)<=1152921504606846976):∃r,mg k l s=some r/\s<=r/\r<=s+((l.map ag.sz).sum:Nat):=by
 induction l generalizing s with
 | nil=>exact⟨s,rfl,by simp,by simp⟩
 | cons x r b =>
  obtain⟨v,h1,j,m⟩:=hk x List.mem_cons_self;simp only [List.map_cons,List.sum_cons] at hb ⊢;rw [mg];simp only [on,h1,oB];rw [eV (by omega)];simp only [oB];obtain⟨w,f,o,p⟩:=b (s+v) (fun y g=>hk y (List.mem_cons_of_mem _ g)) (by omega) (by omega);exact⟨w,f,by omega,by omega⟩
theorem ag.j8 {v x:ag}(h:x∈v.aN.l):x.sz<v.sz:=by
 have h1:=v.bl; have b:=Sl.cC (f:=ag.sz) h; omega
theorem ag.DC (v:ag):2+(v.aN.l.map ag.sz).sum<=v.sz:=by
 have h1:=v.bl; have b:Sl.sz ag.sz v.aN=1+(v.aN.l.map ag.sz).sum:=rfl; omega
theorem Lv (n:Nat):∀v:ag,v.sz<n->v.sz<=1073741824->∃r,jy n v=some r/\1<=r/\r<=v.sz:=by
 induction n with
 | zero=>intro v h; omega
 | succ n b =>
  intro v h hb;have h0:=v.DC;obtain⟨w,f,g,i⟩:=Lu (jy n) v.aN.l 1 (fun x hx=>by have:=ag.j8 hx; exact b x (by omega) (by omega)) (by omega) (by omega);rw [jy,f];exact⟨w,rfl,by omega,by omega⟩
theorem Lw (v:ag) (h:v.sz<=1048576):∃r,xC v=some r/\1<=r/\r<=v.sz:=Lv F0 v (by rw [fe]; omega) (by omega)
theorem Lx (k:ag->Option Int) (l:List ag) (s b:Int) (hk:∀x∈l,∃r,k x=some r/\1<=r/\r<=b) (i:0<=s/\s<=b):∃r,mh k l s=some r/\0<=r/\r<=b:=by
 induction l generalizing s with
 | nil=>exact⟨s,rfl,by omega,by omega⟩
 | cons x r f =>
  obtain⟨v,h1,j,m⟩:=hk x List.mem_cons_self;rw [mh];simp only [on,h1,oB];exact f _ (fun y g=>hk y (List.mem_cons_of_mem _ g)) (by split<;>omega)
theorem Ly (n:Nat):∀v:ag,v.sz<n->v.sz<=1073741824->∃r,jA n v=some r/\1<=r/\r<=v.sz:=by
 induction n with
 | zero=>intro v h; omega
 | succ n b =>
  intro v h hb;have h0:=v.DC;obtain⟨w,f,j,k⟩:=Lx (jA n) v.aN.l 0 (v.sz-1:Nat) (fun x hx=>by have:=ag.j8 hx; obtain⟨r,g,i,m⟩:=b x (by omega) (by omega); exact⟨r,g,i,by omega⟩) (by omega);rw [jA,f];simp only [on,oB];rw [eV (by omega)];exact⟨w+1,rfl,by omega,by omega⟩
theorem Lz (v:ag) (h:v.sz<=1048576):Ok (xE v):=by
 obtain⟨r,hr,_⟩:=Ly F0 v (by rw [fe]; omega) (by omega); exact⟨r,hr⟩
theorem LA (a:Sl Bs) (x:Bs) (m i:Nat) (h:i+m<=a.l.length):Ok (mi a x m i):=by
 induction m generalizing i with
 | zero=>exact aS.some _
 | succ m b =>
  rw [mi]
  (repeat' (first|exact aS.some _|assumption|(with_reducible refine aS.bind ?_ fun _ _=>?_)|(with_reducible refine aS.guard (fun _=>?_) fun _ _ _=>?_)|(with_reducible refine aS.cond (fun _=>?_) fun _=>?_)|(with_reducible refine aS.on fun _ _=>?_)|split))
  ·exact HW (by omega)
  ·exact b _ (by omega)
theorem LB (a:Sl Bs) (l:List Bs) (i:Nat) (h:i+l.length=a.l.length):Ok (kU a l i):=by
 induction l generalizing i with
 | nil=>exact aS.some _
 | cons x r b =>
  simp only [List.length_cons] at h;rw [kU]
  (repeat' (first|exact aS.some _|assumption|(with_reducible refine aS.bind ?_ fun _ _=>?_)|(with_reducible refine aS.guard (fun _=>?_) fun _ _ _=>?_)|(with_reducible refine aS.cond (fun _=>?_) fun _=>?_)|(with_reducible refine aS.on fun _ _=>?_)|split))
  ·exact LA a x _ _ (by omega)
  ·exact b _ (by omega)
theorem LC (a:Sl Bs):Ok (pX a):=by
 unfold pX
 (repeat' (first|exact aS.some _|assumption|(with_reducible refine aS.bind ?_ fun _ _=>?_)|(with_reducible refine aS.guard (fun _=>?_) fun _ _ _=>?_)|(with_reducible refine aS.cond (fun _=>?_) fun _=>?_)|(with_reducible refine aS.on fun _ _=>?_)|split))
 exact LB a _ _ (by simp)
theorem LD (v:ag) (b:Bool):Ok (pY v b):=by
 unfold pY
 (repeat' (first|exact aS.some _|assumption|(with_reducible refine aS.bind ?_ fun _ _=>?_)|(with_reducible refine aS.guard (fun _=>?_) fun _ _ _=>?_)|(with_reducible refine aS.cond (fun _=>?_) fun _=>?_)|(with_reducible refine aS.on fun _ _=>?_)|split))
 exact LC _
theorem LF (b:Bool) (k:ag->Bool->Option Bool) (l:List ag) (hk:∀x∈l,Ok (k x b)):Ok (kV b k l):=by
 induction l with
 | nil=>exact aS.some _
 | cons x r f =>
  rw [kV]
  (repeat' (first|exact aS.some _|assumption|(with_reducible refine aS.bind ?_ fun _ _=>?_)|(with_reducible refine aS.guard (fun _=>?_) fun _ _ _=>?_)|(with_reducible refine aS.cond (fun _=>?_) fun _=>?_)|(with_reducible refine aS.on fun _ _=>?_)|split))
  ·rename_i h; rw [h]; exact hk x List.mem_cons_self
  ·exact f fun y g=>hk y (List.mem_cons_of_mem _ g)
theorem LG (n:Nat):∀(v:ag) (b:Bool),v.sz<n->Ok (jB n v b):=by
 induction n with
 | zero=>intro v b h; omega
 | succ n f =>
  intro v b h;rw [jB]
  (repeat' (first|exact aS.some _|assumption|(with_reducible refine aS.bind ?_ fun _ _=>?_)|(with_reducible refine aS.guard (fun _=>?_) fun _ _ _=>?_)|(with_reducible refine aS.cond (fun _=>?_) fun _=>?_)|(with_reducible refine aS.on fun _ _=>?_)|split))
  ·exact LD _ _
  ·exact LF b _ _ fun x hx=>f x b (by have:=ag.j8 hx; omega)
theorem DD (v:ag) (h:v.sz<=1048576):Ok (nY v):=by
 unfold nY;obtain⟨r,hr,_⟩:=Lw v h
 (repeat' (first|exact aS.some _|assumption|(with_reducible refine aS.bind ?_ fun _ _=>?_)|(with_reducible refine aS.guard (fun _=>?_) fun _ _ _=>?_)|(with_reducible refine aS.cond (fun _=>?_) fun _=>?_)|(with_reducible refine aS.on fun _ _=>?_)|split))
 ·exact⟨r,hr⟩
 ·exact Lz v h
 ·exact LG F0 v true (by rw [fe]; omega)
theorem LH (k:ag->Option Bool) (l:List ag) (hk:∀x∈l,Ok (k x)):Ok (mj k l):=by
 induction l with
 | nil=>exact aS.some _
 | cons x r b =>
  rw [mj]
  (repeat' (first|exact aS.some _|assumption|(with_reducible refine aS.bind ?_ fun _ _=>?_)|(with_reducible refine aS.guard (fun _=>?_) fun _ _ _=>?_)|(with_reducible refine aS.cond (fun _=>?_) fun _=>?_)|(with_reducible refine aS.on fun _ _=>?_)|split))
  ·rename_i h; rw [h]; exact hk x List.mem_cons_self
  ·exact b fun y f=>hk y (List.mem_cons_of_mem _ f)
theorem LI (n:Nat):∀(v:ag),v.sz<n->Ok (jZ n v):=by
 induction n with
 | zero=>intro v h; omega
 | succ n b =>
  intro v h;rw [jZ]
  (repeat' (first|exact aS.some _|assumption|(with_reducible refine aS.bind ?_ fun _ _=>?_)|(with_reducible refine aS.guard (fun _=>?_) fun _ _ _=>?_)|(with_reducible refine aS.cond (fun _=>?_) fun _=>?_)|(with_reducible refine aS.on fun _ _=>?_)|split))
  exact LH _ _ fun x hx=>b x (by have:=ag.j8 hx; omega)
theorem DE (v:ag) (h:v.sz<=1048576):Ok (tY v):=LI F0 v (by rw [fe]; omega)
theorem bz.LJ (a:bz):a.eW.sz<=a.sz:=by have:=a.bl; omega
theorem av.LK {x:av}{a:bz}(h:a∈x.aF.l):a.sz<=x.sz:=by have:=x.bl; have:=Sl.cC (f:=bz.sz) h; omega
theorem LM (b:av) (l:List bz) (h:∀a∈l,a.sz<=1048576):Ok (nZ b l):=by
 induction l with
 | nil=>exact aS.some _
 | cons x r f =>
  have h1:=h x List.mem_cons_self; have i:=x.LJ;rw [nZ]
  (repeat' (first|exact aS.some _|assumption|(with_reducible refine aS.bind ?_ fun _ _=>?_)|(with_reducible refine aS.guard (fun _=>?_) fun _ _ _=>?_)|(with_reducible refine aS.cond (fun _=>?_) fun _=>?_)|(with_reducible refine aS.on fun _ _=>?_)|split))
  all_goals first|exact f fun y g=>h y (List.mem_cons_of_mem _ g)|(subst_vars; first|exact DD _ (by omega)|exact DE _ (by omega))
theorem LN (l:List av) (h:∀a∈l,a.sz<=1048576):Ok (n9 l):=by
 induction l with
 | nil=>exact aS.some _
 | cons x r b =>
  have h1:=h x List.mem_cons_self;rw [n9]
  (repeat' (first|exact aS.some _|assumption|(with_reducible refine aS.bind ?_ fun _ _=>?_)|(with_reducible refine aS.guard (fun _=>?_) fun _ _ _=>?_)|(with_reducible refine aS.cond (fun _=>?_) fun _=>?_)|(with_reducible refine aS.on fun _ _=>?_)|split))
  ·exact LM x _ fun a f=>by have:=av.LK f; omega
  ·exact b fun y g=>h y (List.mem_cons_of_mem _ g)
theorem uS (s:Sl av) (h:Sl.sz av.sz s<=1048576):Ok (mm s):=by
 unfold mm
 (repeat' (first|exact aS.some _|assumption|(with_reducible refine aS.bind ?_ fun _ _=>?_)|(with_reducible refine aS.guard (fun _=>?_) fun _ _ _=>?_)|(with_reducible refine aS.cond (fun _=>?_) fun _=>?_)|(with_reducible refine aS.on fun _ _=>?_)|split))
 exact LN _ fun a b=>by have:=Sl.cC (f:=av.sz) b; omega
theorem aG.lH (r:aG):r.aK.l.length<=r.sz:=by have:=r.bl; have:=Sl.ck (f:=fun _:Int=>1) r.aK (fun _=>Nat.le_refl _); omega
theorem LO (l:List Z8) (h:∀a∈l,a.sz<=1048576):Ok (mq l):=by
 induction l with
 | nil=>exact aS.some _
 | cons x r b =>
  have h1:=h x List.mem_cons_self; have g:=x.bl; have i:=x.aA.lH;rw [mq]
  (repeat' (first|exact aS.some _|assumption|(with_reducible refine aS.bind ?_ fun _ _=>?_)|(with_reducible refine aS.guard (fun _=>?_) fun _ _ _=>?_)|(with_reducible refine aS.cond (fun _=>?_) fun _=>?_)|(with_reducible refine aS.on fun _ _=>?_)|split))
  all_goals first|exact b fun y f=>h y (List.mem_cons_of_mem _ f)|(subst_vars; first|exact DB _ (by omega)|exact uS _ (by omega)|exact DD _ (by omega)|exact DE _ (by omega))
theorem DF (s:Sl Z8) (h:Sl.sz Z8.sz s<=1048576):Ok (mr s):=by
 unfold mr
 (repeat' (first|exact aS.some _|assumption|(with_reducible refine aS.bind ?_ fun _ _=>?_)|(with_reducible refine aS.guard (fun _=>?_) fun _ _ _=>?_)|(with_reducible refine aS.cond (fun _=>?_) fun _=>?_)|(with_reducible refine aS.on fun _ _=>?_)|split))
 exact LO _ fun a b=>by have:=Sl.cC (f:=Z8.sz) b; omega
theorem LP (l:List Z7) (h:∀a∈l,a.sz<=1048576):Ok (mu l):=by
 induction l with
 | nil=>exact aS.some _
 | cons x r b =>
  have h1:=h x List.mem_cons_self; have p:=x.bl; have q:=x.aA.lH;have s:Z7.zero.aA.aK.l.length<=1048576:=by decide
  rw [mu];simp only [on];cases ff x.aa<;>simp only [Bool.not_true,Bool.not_false,cond_true,cond_false,Bool.or_false,Bool.or_true,Bool.true_or,Bool.false_or]
  ·simp [aU]; exact aS.some _
  ·obtain⟨f,g⟩:=DF x.aF (by omega);obtain⟨i,j⟩:=DB x.aA (by omega);obtain⟨k,m⟩:=uS x.bh (by omega);have hr:=b fun y o=>h y (List.mem_cons_of_mem _ o);cases f<;>cases i<;>cases k<;>simp [aU,g,j,m]<;>first|exact aS.some _|exact hr
theorem LQ (s:Sl Z7) (h:Sl.sz Z7.sz s<=1048576):Ok (kX s):=by
 unfold kX
 (repeat' (first|exact aS.some _|assumption|(with_reducible refine aS.bind ?_ fun _ _=>?_)|(with_reducible refine aS.guard (fun _=>?_) fun _ _ _=>?_)|(with_reducible refine aS.cond (fun _=>?_) fun _=>?_)|(with_reducible refine aS.on fun _ _=>?_)|split))
 exact LP _ fun a b=>by have:=Sl.cC (f:=Z7.sz) b; omega
theorem LR (b:Bool) (l:List Z9) (h:∀a∈l,a.sz<=1048576):Ok (mv b l):=by
 induction l with
 | nil=>exact aS.some _
 | cons x r f =>
  have h1:=h x List.mem_cons_self; have j:=x.bl;rw [mv];simp only [on];cases ff x.aa<;>simp only [Bool.not_true,Bool.not_false,cond_true,cond_false,Bool.or_false,Bool.or_true,Bool.true_or,Bool.false_or]
  ·simp [aU]; exact aS.some _
  ·obtain⟨k,g⟩:=uS x.bh (by omega);have hr:=f fun y i=>h y (List.mem_cons_of_mem _ i);simp only [aU,g,if_true,oB]
   (repeat' (first|exact aS.some _|assumption|(with_reducible refine aS.bind ?_ fun _ _=>?_)|(with_reducible refine aS.guard (fun _=>?_) fun _ _ _=>?_)|(with_reducible refine aS.cond (fun _=>?_) fun _=>?_)|(with_reducible refine aS.on fun _ _=>?_)|split))
theorem LS (s:Sl Z9) (b:Bool) (h:Sl.sz Z9.sz s<=1048576):Ok (kY s b):=by
 unfold kY
 (repeat' (first|exact aS.some _|assumption|(with_reducible refine aS.bind ?_ fun _ _=>?_)|(with_reducible refine aS.guard (fun _=>?_) fun _ _ _=>?_)|(with_reducible refine aS.cond (fun _=>?_) fun _=>?_)|(with_reducible refine aS.on fun _ _=>?_)|split))
 exact LR _ _ fun a g=>by have:=Sl.cC (f:=Z9.sz) g; omega
theorem LU (x:ai) (h:x.sz<=1048576):Ok (p8 x):=by
 have b:=x.bl;unfold p8
 (repeat' (first|exact aS.some _|assumption|(with_reducible refine aS.bind ?_ fun _ _=>?_)|(with_reducible refine aS.guard (fun _=>?_) fun _ _ _=>?_)|(with_reducible refine aS.cond (fun _=>?_) fun _=>?_)|(with_reducible refine aS.on fun _ _=>?_)|split))
 all_goals first|exact uS _ (by omega)|exact LQ _ (by omega)|exact LS _ _ (by omega)|exact DF _ (by omega)
theorem LV (l:List ai) (h:∀a∈l,a.sz<=1048576):Ok (mw l):=by
 induction l with
 | nil=>exact aS.some _
 | cons x r b =>
  rw [mw]
  (repeat' (first|exact aS.some _|assumption|(with_reducible refine aS.bind ?_ fun _ _=>?_)|(with_reducible refine aS.guard (fun _=>?_) fun _ _ _=>?_)|(with_reducible refine aS.cond (fun _=>?_) fun _=>?_)|(with_reducible refine aS.on fun _ _=>?_)|split))
  ·subst_vars; exact LU _ (h _ List.mem_cons_self)
  ·exact b fun y f=>h y (List.mem_cons_of_mem _ f)
theorem aj.zn {d:aj}{x:ai}(h:x∈d.an.l):x.sz<=d.sz:=by have:=d.bl; have:=Sl.cC (f:=ai.sz) h; omega
theorem LW (d:aj) (h:d.sz<=1048576):Ok (p9 d):=by
 unfold p9
 (repeat' (first|exact aS.some _|assumption|(with_reducible refine aS.bind ?_ fun _ _=>?_)|(with_reducible refine aS.guard (fun _=>?_) fun _ _ _=>?_)|(with_reducible refine aS.cond (fun _=>?_) fun _=>?_)|(with_reducible refine aS.on fun _ _=>?_)|split))
 exact LV _ fun a b=>by have:=aj.zn b; omega
theorem LX {α:Type}{l r:List α}{i:Nat}{x:α}(h:l.drop i=x::r):l[i]?=some x/\l.drop (i+1)=r:=by
 have hi:i<l.length:=by
  rcases Nat.lt_or_ge i l.length with c|c
  ·exact c
  ·rw [List.drop_of_length_le c] at h; cases h
 rw [List.drop_eq_getElem_cons hi] at h;simp only [List.cons.injEq] at h;exact⟨by rw [List.getElem?_eq_getElem hi,h.1],h.2⟩
def Tl {α:Type}(o:Option (Sl α)) (b:Nat):Prop:=∃r,o=some r/\r.l.length<=b
theorem Tl.mono {α:Type}{o:Option (Sl α)}{a b:Nat}(h:Tl o a) (hb:a<=b):Tl o b:=by obtain⟨r,h1,f⟩:=h; exact⟨r,h1,by omega⟩
theorem DG {s r:Sl Z6}(h:s.l.length+r.l.length<=1073741824):∃v,aQ 24 s r=some v/\v.l.length=s.l.length+r.l.length:=⟨_,fq (by decide) (by omega),by simp⟩
theorem Tl.LY {s:Sl Z6}{x:Z6}{b:Nat}(h:s.l.length<=b) (hb:b<=1000000000):Tl ((aQ 24 s (⟨false,[x]⟩:Sl Z6)).bind fun y=>some y) (b+1):=by
 obtain⟨v,h1,f⟩:=DG (s:=s) (r:=⟨false,[x]⟩) (by simp; omega);exact⟨v,by rw [h1]; rfl,by rw [f]; simp; omega⟩
theorem Tl.bind {α β:Type}{o:Option (Sl α)}{k:Sl α->Option (Sl β)}{a b:Nat}(h:Tl o a) (hk:∀r:Sl α,r.l.length<=a->Tl (k r) b):Tl (o.bind k) b:=by
 obtain⟨r,h1,f⟩:=h;rw [h1]; exact hk r f
theorem Bs.ck (s:Bs):s.length<=Bs.sz s:=Nat.le_succ _
theorem Tl.DH {s:Sl Z6}{o:Option (Sl Z6)}{a b c:Nat}{k:Sl Z6->Option (Sl Z6)}(g:s.l.length<=a) (h:Tl o b) (hb:a+b<=1000000000) (hk:∀r:Sl Z6,r.l.length<=a+b->Tl (k r) c):Tl (o.bind fun x=>(aQ 24 s x).bind k) c:=by
 obtain⟨r,h1,i⟩:=h;obtain⟨v,f,j⟩:=DG (s:=s) (r:=r) (by omega);rw [h1,oB,f,oB];exact hk v (by omega)
theorem LZ (d:aj) (n:Bs):(cU d n).1∈d.an.l\/(cU d n).1.aM.l=[]:=by
 unfold cU;simp only [Ab.on];have:∀l:List ai,(match iw n l with|Sum.inl _=>True|Sum.inr e=>e.1∈l):=by
  intro l;induction l with
  | nil=>exact trivial
  | cons a r b =>
   rw [iw];simp only [Ab.on];cases hq:a.aa==n
   ·simp only [cond_false]
    revert b
    cases iw n r with
    | inl u=>intro _; exact trivial
    | inr e=>intro b; exact .tail _ b
   ·exact .head _
 have h:=this d.an.l
 revert h
 cases iw n d.an.l with
 | inl u=>intro _; exact .inr rfl
 | inr e=>intro h; exact .inl h
def Sm (x:ai):Prop:=x.ay.l.length<=1000/\x.aJ.l.length<=1000/\x.aW.l.length<=1000/\x.aM.l.length<=1000/\∀f∈x.ay.l,f.aF.l.length<=1000
theorem DI {t:aG}(h:t.aK.l.length<=1048576) (h1:1<=t.aK.l.length):kM t=some ⟨t.aa,⟨false,t.aK.l.drop 1⟩⟩:=by
 unfold kM;rw [BC h1,oB,fq (by decide) (by simp; omega)];simp
theorem L0 {t:aG}(h:t.aK.l.length<=1048576):∃u,iD t=some u/\u.aK.l.length<=t.aK.l.length/\(ee t=true->u.aK.l.length<t.aK.l.length):=by
 unfold iD;simp only [Ab.on];cases hn:ee t
 ·rw [cond_false,fq (by decide) (by simp; omega)];exact⟨_,rfl,by simp,fun h=>by cases h⟩
 ·have h1:1<=t.aK.l.length:=by
   unfold ee at hn;cases hw:t.aK.l with
   | nil=>rw [hw] at hn; cases hn
   | cons a r=>simp
  rw [cond_true,DI h h1];exact⟨_,rfl,by simp,fun _=>by simp; omega⟩
theorem L3 {t:aG}(h:t.aK.l.length<=1048576):∃u b,gW t=some (u,b)/\(b=true->u.aK.l.length<t.aK.l.length):=by
 obtain⟨u,h1,f,-⟩:=L0 h;unfold gW nU;rw [h1,oB];simp only [Ab.on,oB];cases hl:(decide ((0:Int)<((u.aK.l.length:Nat):Int))&&decide ((bif decide ((0:Int)<((u.aK.l.length:Nat):Int)) then(u.aK.l[0]?).getD 0 else 0)=2))
 ·exact⟨_,false,rfl,fun h=>by cases h⟩
 ·simp only [Bool.and_eq_true,decide_eq_true_eq] at hl;rw [Bool.not_true,cond_false,DI (by omega) (by omega),oB];exact⟨_,true,rfl,fun _=>by simp; omega⟩
def fA (w:List Int):Bool:=w.head?==some 1
def jG (w:List Int):Bool:=w.head?==some 2
def cF (s:Sl Int):Sl Int:=bif fA s.l then⟨s.nl,s.l.drop 1⟩ else s
def DJ (t:aG):aG:=⟨t.aa,cF t.aK⟩
def DK (t:aG):aG:=⟨t.aa,⟨(cF t.aK).nl,(cF t.aK).l.drop 1⟩⟩
theorem DL {w:List Int}(h:fA w=true):1<=w.length:=by cases w<;>simp [fA] at h ⊢
theorem DM {w:List Int}(h:jG w=true):1<=w.length:=by cases w<;>simp [jG] at h ⊢
theorem DN {t:aG}(h:jG (cF t.aK).l=true):(DK t).aK.l.length<t.aK.l.length:=by
 have h1:=DM h;have b:(cF t.aK).l.length<=t.aK.l.length:=by
  unfold cF; cases fA t.aK.l<;>simp
 simp [DK]; omega
theorem findAux (l:List ai) (s:Bs):mA s l=(match l.find? (fun t=>t.aa==s) with|some t=>Sum.inr (t,true)|none=>Sum.inl ()):=by
 induction l with
 | nil=>rfl
 | cons a r b =>
  rw [mA,List.find?_cons];simp only [on,b];cases a.aa==s<;>rfl
def aX (l:List ai) (s:Bs):ai×Bool:=match l.find? (fun t=>t.aa==s) with|some t=>(t,true)|none=>(ai.zero,false)
theorem L4 (d:aj) (s:Bs):mB d s=aX d.an.l s:=by
 unfold mB aX on;rw [findAux];cases d.an.l.find? (fun t=>t.aa==s)<;>rfl
theorem zo (l:List ai) (s:Bs):(aX l s).1=ai.zero\/(aX l s).1∈l:=by
 unfold aX;cases h:l.find? (fun t=>t.aa==s) with
 | none=>exact .inl rfl
 | some t=>exact .inr (List.mem_of_find?_eq_some h)
def dM (l:List Z7) (s:Bs):Z7×Bool:=match l.find? (fun t=>t.aa==s) with|some t=>(t,true)|none=>(Z7.zero,false)
def dX (l:List Z8) (s:Bs):Z8×Bool:=match l.find? (fun t=>t.aa==s) with|some t=>(t,true)|none=>(Z8.zero,false)
theorem filter_le {α:Type}{p q:α->Bool}{l:List α}(h:∀x∈l,p x=true->q x=true):(l.filter p).length<=(l.filter q).length:=by
 induction l with
 | nil=>simp
 | cons a r b =>
  have:=b fun x hx=>h x (List.mem_cons_of_mem _ hx);have h1:=h a List.mem_cons_self;simp only [List.filter_cons];cases f:p a<;>cases hq:q a<;>simp_all<;>omega
theorem filter_lt {α:Type}{p q:α->Bool}{l:List α}{y:α}(h:∀x∈l,p x=true->q x=true) (b:y∈l) (h1:p y=false) (f:q y=true):(l.filter p).length<(l.filter q).length:=by
 induction l with
 | nil=>cases b
 | cons a r g =>
  have i:=filter_le (l:=r) (p:=p) (q:=q) fun x hx=>h x (List.mem_cons_of_mem _ hx);simp only [List.filter_cons];rcases List.mem_cons.1 b with rfl|b
  ·simp [h1,f]; omega
  ·have:=g (fun x hx=>h x (List.mem_cons_of_mem _ hx)) b;have j:=h a List.mem_cons_self;cases k:p a<;>cases hq:q a<;>simp_all<;>omega
def uT (t:aG):Bool:=decide (((t.aK.l.length:Nat):Int)=1)&&decide (t.aK.l.headD 0=1)
def gd (d:aj) (own:Bs) (x:Z8):Bool:=uT x.aA&&(x.aA.aa==own||((aX d.an.l x.aA.aa).2&&decide ((aX d.an.l x.aA.aa).1.ar=5)))
def gx (d:aj) (n:Bs):List Z8:=(aX d.an.l n).1.aM.l
inductive iP (d:aj) (own:Bs) (t:List Z8):Bs->Prop where
 | here {x:Z8}(hx:x∈t) (hg:gd d own x=true):iP d own t x.aA.aa
 | step {n:Bs}{x:Z8}(h:iP d own t n) (hx:x∈gx d n) (hg:gd d own x=true):iP d own t x.aA.aa
theorem uU {l:List ai}{s:Bs}(h:(aX l s).2=true):(aX l s).1.aa=s:=by
 unfold aX at h ⊢;cases e:l.find? (fun t=>t.aa==s) with
 | none=>rw [e] at h; cases h
 | some t=>have:=List.find?_some e; simpa using this
open Classical in
noncomputable def gZ (d:aj) (t:ai):Bool:=decide (iP d t.aa t.aM.l t.aa)
end Go.Proofs
namespace Go.Proofs
open Go Go.Ab
def bI (b:Bool) (e:Int) (at_:Bs):List Z6:=bif b then [Z6.mk e at_] else []
def eD (s:Bs):Bool:=ff s&&!((nO s).getD true)
def g_ (d:aj) (n at_:Bs) (k:Int):List Z6 :=
 bif !(aX d.an.l n).2&&!dh n then bI true 8 at_ else bif decide (k=(0:Int)) then bI (!dh n&&decide ((aX d.an.l n).1.ar=(5:Int))) 10 at_ else bI (!fF d n) 10 at_
def fH (d:aj) (a b:Bs):List Bs->List Z8->List Z6
 | _,[]=>[]
 | s,x::r=>(bI (!eD x.aa) 6 (a++x.aa++b)++bI (s.contains x.aa) 7 (a++x.aa++b))++(g_ d x.aA.aa (a++x.aa++b) 1++fH d a b (s++[x.aa]) r)
def iQ (d:aj) (b:Bs):List Bs->List Z7->List Z6
 | _,[]=>[]
 | s,x::r=>(bI (!eD x.aa) 6 (b++[46]++x.aa)++bI (s.contains x.aa) 7 (b++[46]++x.aa))++(g_ d x.aA.aa (b++[46]++x.aa) 0++(fH d (b++[46]++x.aa++[40]) [41] [] x.aF.l++iQ d b (s++[x.aa]) r))
def sg (s:Bs):Bool:=(((s==([116,114,117,101]:Bs)))||((s==([102,97,108,115,101]:Bs))))||((s==([110,117,108,108]:Bs)))
def hG (b:Bs):List Bs->List Z9->List Z6
 | _,[]=>[]
 | s,x::r=>(bI (sg x.aa||!eD x.aa) 6 (b++[46]++x.aa)++bI (s.contains x.aa) 7 (b++[46]++x.aa))++hG b (s++[x.aa]) r
def qD (t:ai):Bool:=bif (bif (decide (t.ar=(1:Int))) then((decide (t.ar=(1:Int)))) else((decide (t.ar=(2:Int))))) then((decide (((t.ay.l.length:Nat):Int)=(0:Int)))) else(bif (bif (decide (t.ar=(3:Int))) then((decide (t.ar=(3:Int)))) else((decide (t.ar=(4:Int))))) then((decide (((t.aJ.l.length:Nat):Int)=(0:Int)))) else(bif (decide (t.ar=(5:Int))) then((decide (((t.aM.l.length:Nat):Int)=(0:Int)))) else(false)))
def qE (t:ai):Bool:=((((((t.aa==([81,117,101,114,121]:Bs)))||((t.aa==([77,117,116,97,116,105,111,110]:Bs))))||((t.aa==([83,117,98,115,99,114,105,112,116,105,111,110]:Bs))))&&(!decide (t.ar=(1:Int))))||(decide (t.ar<(1:Int))))||(decide ((5:Int)<t.ar))
def j9 (d:aj) (t:ai):List Z6 :=
 bif (bif (decide (t.ar=(1:Int))) then((decide (t.ar=(1:Int)))) else((decide (t.ar=(2:Int))))) then iQ d t.aa [] t.ay.l else bif decide (t.ar=(4:Int)) then hG t.aa [] t.aJ.l else bif decide (t.ar=(5:Int)) then fH d (t.aa++[46]) [] [] t.aM.l else []
noncomputable def jH (d:aj) (s:List Bs) (t:ai):List Z6 :=
 (bI (!eD t.aa) 6 t.aa++bI (s.contains t.aa||dh t.aa) 7 t.aa)++(bI (qD t) 8 t.aa++(bI (qE t) 9 t.aa++bI (decide (t.ar=(5:Int))&&gZ d t) 5 t.aa))
noncomputable def fW (d:aj):List Bs->List ai->List Z6
 | _,[]=>[]
 | s,t::r=>jH d s t++(j9 d t++fW d (s++[t.aa]) r)
noncomputable def fZ (d:aj) (b:Bool):List Z6:=fW d [] d.an.l++bI (b&&!(aX d.an.l ([81,117,101,114,121]:Bs)).2) 30 ([81,117,101,114,121]:Bs)
theorem mW {α:Type}{l r:List α}{i:Nat}{x:α}(h:l.drop i=x::r):l.drop (i+1)=r/\l[i]?=some x:=by
 refine⟨by rw [<- List.drop_drop,h]; rfl, ?_⟩;have:=congrArg List.head? h;rw [List.head?_drop] at this;exact this
theorem uV {α:Type} [DecidableEq α]:∀(l m:List α),l.Nodup->(∀x∈l,x∈m)->l.length<=m.length
 | [],_,_,_=>by simp
 | a::r,m,hn,b=>by
  have h1:a∈m:=b a (by simp);have f:=uV r (m.erase a) (List.nodup_cons.1 hn).2 fun x hx=>by
   refine(List.mem_erase_of_ne ?_).2 (b x (by simp [hx]));rintro rfl; exact(List.nodup_cons.1 hn).1 hx
  have g:=List.length_erase_of_mem h1;have i:0<m.length:=List.length_pos_of_mem h1;simp only [List.length_cons]; omega
def lI (d:aj) (own:Bs) (l:List Bs) (x:Z8):List Bs:=if gd d own x&&!l.contains x.aA.aa then l++[x.aA.aa] else l
def gy (d:aj) (t:List Z8) (own:Bs) (l:List Bs):List Bs:=t.foldl (lI d own) l
theorem oA (d:aj) (own:Bs) (t:List Z8):∀(l:List Bs) (n:Bs),n∈gy d t own l↔n∈l\/∃x∈t,gd d own x=true/\x.aA.aa=n:=by
 unfold gy;induction t with
 | nil=>intro l n; simp
 | cons x r b =>
  intro l n;rw [List.foldl_cons,b];unfold lI;simp only [List.mem_cons,exists_eq_or_imp]
  split
  ·rename_i h
   rw [Bool.and_eq_true] at h;simp only [List.mem_append,List.mem_singleton];constructor
   ·rintro ((h1|rfl)|h1)
    ·exact .inl h1
    ·exact .inr (.inl ⟨h.1,rfl⟩)
    ·exact .inr (.inr h1)
   ·rintro (h1|⟨_,rfl⟩|h1)
    ·exact .inl (.inl h1)
    ·exact .inl (.inr rfl)
    ·exact .inr h1
  ·rename_i h
   constructor
   ·rintro (h1|h1)
    ·exact .inl h1
    ·exact .inr (.inr h1)
   ·rintro (h1|⟨f,rfl⟩|h1)
    ·exact .inl h1
    ·rw [f,Bool.true_and] at h;exact .inl (by simpa using h)
    ·exact .inr h1
theorem DO (d:aj) (own:Bs) (t:List Z8):∀(l:List Bs),l.Nodup->(gy d t own l).Nodup:=by
 unfold gy;induction t with
 | nil=>intro l h; exact h
 | cons x r f =>
  intro l hl;rw [List.foldl_cons];refine f _ ?_;unfold lI
  split
  ·rename_i h
   rw [Bool.and_eq_true] at h;have g:x.aA.aa∉l:=by simpa using h.2
   rw [List.nodup_append];refine⟨hl,by simp, ?_⟩;intro a i b hb;simp only [List.mem_singleton] at hb;subst hb; rintro rfl; exact g i
  ·exact hl
theorem L5 (d:aj) (own:Bs) (t:List Z8):∀(l:List Bs),l <+: gy d t own l:=by
 unfold gy;induction t with
 | nil=>intro l; exact List.prefix_refl _
 | cons x r b =>
  intro l;rw [List.foldl_cons];refine List.IsPrefix.trans ?_ (b _);unfold lI
  split
  ·exact List.prefix_append _ _
  ·exact List.prefix_refl _
theorem L6 {l:List ai}{s:Bs}(h:(aX l s).2=true):s∈l.map (·.aa):=by
 have hn:=uU h;rcases zo l s with e|e
 ·unfold aX at h e hn;cases b:l.find? (fun t=>t.aa==s) with
  | none=>rw [b] at h; cases h
  | some t=>exact List.mem_map.2 ⟨t,List.mem_of_find?_eq_some b,by have:=List.find?_some b; simpa using this⟩
 ·exact List.mem_map.2 ⟨_,e,hn⟩
theorem DP {d:aj}{own:Bs}{x:Z8}(h:gd d own x=true):x.aA.aa=own\/x.aA.aa∈d.an.l.map (·.aa):=by
 unfold gd at h;simp only [Bool.and_eq_true,Bool.or_eq_true] at h;rcases h.2 with h|h
 ·exact .inl (by simpa using h)
 ·exact .inr (L6 h.1)
structure jI (d:aj) (own:Bs) (t:List Z8) (i:Nat) (l:List Bs):Prop where
 reach:∀n∈l,iP d own t n
 first:∀x∈t,gd d own x=true->x.aA.aa∈l
 done:∀k (h:k<l.length),k<i->∀x∈gx d l[k],gd d own x=true->x.aA.aa∈l
 nodup:l.Nodup
 known:∀n∈l,n=own\/n∈d.an.l.map (·.aa)
 le:i<=l.length
theorem jI.start (d:aj) (own:Bs) (t:List Z8):jI d own t 0 (gy d t own []):=by
 refine⟨fun n hn=>?_,fun x hx hg=>(oA _ _ _ _ _).2 (.inr ⟨x,hx,hg,rfl⟩),fun k _ h=>absurd h (Nat.not_lt_zero _),DO _ _ _ _ List.nodup_nil,fun n hn=>?_,Nat.zero_le _⟩
 ·rcases (oA _ _ _ _ _).1 hn with h|⟨x,hx,hg,rfl⟩
  ·simp at h
  ·exact .here hx hg
 ·rcases (oA _ _ _ _ _).1 hn with h|⟨x,hx,hg,rfl⟩
  ·simp at h
  ·exact DP hg
theorem jI.step {d:aj}{own:Bs}{t:List Z8}{i:Nat}{l:List Bs}(h:jI d own t i l) (hi:i<l.length):jI d own t (i+1) (gy d (gx d l[i]) own l):=by
 have b:=L5 d own (gx d l[i]) l;have f:∀n,n∈l->n∈gy d (gx d l[i]) own l:=fun n hn=>(oA _ _ _ _ _).2 (.inl hn);refine⟨fun n hn=>?_,fun x hx hg=>f _ (h.first x hx hg),fun k hk m x hx hg=>?_,DO _ _ _ _ h.nodup,fun n hn=>?_,Nat.le_trans hi b.length_le⟩
 ·rcases (oA _ _ _ _ _).1 hn with h1|⟨x,hx,hg,rfl⟩
  ·exact h.reach n h1
  ·exact .step (h.reach _ (List.getElem_mem hi)) hx hg
 ·have g:k<l.length:=by omega
  have e:(gy d (gx d l[i]) own l)[k]=l[k]:=(b.getElem g).symm;rw [e] at hx;by_cases j:k<i
  ·exact f _ (h.done k g j x hx hg)
  ·have:k=i:=by omega
   subst this;exact(oA _ _ _ _ _).2 (.inr ⟨x,hx,hg,rfl⟩)
 ·rcases (oA _ _ _ _ _).1 hn with h1|⟨x,hx,hg,rfl⟩
  ·exact h.known n h1
  ·exact DP hg
theorem jI.len {d:aj}{own:Bs}{t:List Z8}{i:Nat}{l:List Bs}(h:jI d own t i l):l.length<=d.an.l.length+1:=by
 have:=uV l (own::d.an.l.map (·.aa)) h.nodup fun x hx=>by
  rcases h.known x hx with e|e
  ·simp [e]
  ·exact List.mem_cons_of_mem _ e
 simpa using this
open Classical in
theorem jI.end {d:aj}{own:Bs}{t:List Z8}{i:Nat}{l:List Bs}(h:jI d own t i l) (hi:l.length<=i):l.contains own=decide (iP d own t own):=by
 have b:∀n,iP d own t n->n∈l:=by
  intro n hn;induction hn with
  | here hx hg=>exact h.first _ hx hg
  | @step n x _ hx hg f =>
   obtain⟨k,hk,e⟩:=List.getElem_of_mem f;exact h.done k hk (by omega) x (by rw [e]; exact hx) hg
 rw [Bool.eq_iff_iff];simp only [List.contains_iff_mem,decide_eq_true_eq];exact⟨fun hm=>h.reach _ hm,fun hr=>b _ hr⟩
end Go.Proofs
namespace Go.Proofs
open Go Go.Ab
theorem L7 (s:Bs) (l:List ai):iw s l=(match l.find? (fun t=>t.aa==s) with|some t=>Sum.inr (t,true)|none=>Sum.inl ()):=by
 induction l with
 | nil=>rfl
 | cons a r b =>
  rw [iw,List.find?_cons];simp only [on,b];cases a.aa==s<;>rfl
theorem h_ (d:aj) (s:Bs):cU d s=aX d.an.l s:=by
 unfold cU aX on;rw [L7];cases d.an.l.find? (fun t=>t.aa==s)<;>rfl
theorem qF {l:List ai}{s:Bs}(h:(aX l s).2=false):(aX l s).1=ai.zero:=by
 unfold aX at h ⊢;cases e:l.find? (fun t=>t.aa==s) with
 | none=>rfl
 | some t=>rw [e] at h; cases h
theorem L8 (s:Bs):∃b,nO s=some b:=by
 unfold nO
 match s with
 | []=>exact⟨_,rfl⟩
 | [x]=>exact⟨_,rfl⟩
 | x::y::r =>
  have e:decide ((2:Int)<=(((x::y::r).length:Nat):Int))=true:=by simp; omega
  simp only [aU,e,if_true,oB,List.getElem?_cons_zero,List.getElem?_cons_succ];cases decide (((x.toNat:Nat):Int)=95)<;>exact⟨_,rfl⟩
theorem L9 (s:Bs):pw s=some (eD s):=by
 unfold pw eD;obtain⟨b,e⟩:=L8 s;simp only [on,e];cases ff s<;>rfl
theorem uW (n:Bs) (bad before:Bool) (at_:Bs):∃nl,ji n bad before at_=some ⟨nl,bI (bad||!eD n) 6 at_++bI before 7 at_⟩:=by
 unfold ji;rw [L9];generalize eD n=b;cases bad<;>cases b<;>cases before<;>exact⟨_,rfl⟩
theorem qG {α:Type}(f:α->Bs) (n:Bs):∀l:List α,(l.map f).contains n=l.any fun y=>f y==n
 | []=>rfl
 | a::r=>by
  rw [List.map_cons,List.contains_cons,qG f n r,List.any_cons,BEq.comm]
theorem DQ (n:Bs):∀l:List Z8,(match jk n l with|.inl _=>false|.inr e=>e.2)=l.any fun y=>y.aa==n
 | []=>rfl
 | a::r=>by
  rw [jk,List.any_cons,<- DQ n r];simp only [on];cases a.aa==n<;>rfl
theorem L_ (s:Sl Z8) (n:Bs):(fQ s n).2=(s.l.map Z8.aa).contains n:=by
 rw [qG,<- DQ];unfold fQ;simp only [on];cases jk n s.l<;>rfl
theorem DR (n:Bs):∀l:List Z7,(match jm n l with|.inl _=>false|.inr e=>e.2)=l.any fun y=>y.aa==n
 | []=>rfl
 | a::r=>by
  rw [jm,List.any_cons,<- DR n r];simp only [on];cases a.aa==n<;>rfl
theorem Ma (t:ai) (n:Bs):(kJ t n).2=(t.ay.l.map Z7.aa).contains n:=by
 rw [qG,<- DR];unfold kJ;simp only [on];cases jm n t.ay.l<;>rfl
theorem qH {α:Type}{l r:List α}{i:Nat}{x:α}(h:l.drop i=x::r):l.take (i+1)=l.take i++[x]:=by
 rw [List.take_add_one,(mW h).2]; rfl
theorem iR {s r:Sl Z6}(h:s.l.length+r.l.length<=1000000000000):aQ 24 s r=some ⟨s.nl&&r.l.isEmpty,s.l++r.l⟩:=fq (by decide) (by omega)
theorem sj (u:Sl Z6) (b:Bool) (e:Int) (at_:Bs) (h:u.l.length<=100000000000):∃nl,(bif b then((aQ 24 u (⟨false,[(Z6.mk e at_)]⟩:Sl Z6)).bind fun x=>some x) else some u)=some ⟨nl,u.l++bI b e at_⟩:=by
 cases b
 ·exact⟨u.nl,by simp [bI]⟩
 ·rw [cond_true,iR (by simp; omega)]; exact⟨_,rfl⟩
theorem Mb (d:aj) (n at_:Bs) (u:Sl Z6) (h:u.l.length<=100000000000):∃nl,(bif (!jj d n) then((aQ 24 u (⟨false,[(Z6.mk (8:Int) at_)]⟩:Sl Z6)).bind fun b=>some b) else(bif (!fF d n) then((aQ 24 u (⟨false,[(Z6.mk (10:Int) at_)]⟩:Sl Z6)).bind fun f=>some f) else(some u)))=some ⟨nl,u.l++g_ d n at_ 1⟩:=by
 have e:(!jj d n)=(!(aX d.an.l n).2&&!dh n):=by
  unfold jj;simp only [on,h_];cases dh n<;>cases (aX d.an.l n).2<;>rfl
 rw [e];unfold g_;cases (!(aX d.an.l n).2&&!dh n)
 ·exact sj u _ 10 at_ h
 ·exact sj u true 8 at_ h
theorem Mc (d:aj) (n at_:Bs) (u:Sl Z6) (h:u.l.length<=100000000000):∃nl,(bif (!jj d n) then((aQ 24 u (⟨false,[(Z6.mk (8:Int) at_)]⟩:Sl Z6)).bind fun b=>some b) else(bif (((!dh n)&&(aX d.an.l n).2)&&(decide ((aX d.an.l n).1.ar=(5:Int)))) then((aQ 24 u (⟨false,[(Z6.mk (10:Int) at_)]⟩:Sl Z6)).bind fun f=>some f) else(some u)))=some ⟨nl,u.l++g_ d n at_ 0⟩:=by
 have e:(!jj d n)=(!(aX d.an.l n).2&&!dh n):=by
  unfold jj;simp only [on,h_];cases dh n<;>cases (aX d.an.l n).2<;>rfl
 have g:(((!dh n)&&(aX d.an.l n).2)&&(decide ((aX d.an.l n).1.ar=(5:Int))))=(!dh n&&decide ((aX d.an.l n).1.ar=(5:Int))):=by
  cases i:(aX d.an.l n).2
  ·rw [qF i]; cases dh n<;>rfl
  ·cases dh n<;>rfl
 rw [e,g];unfold g_;cases (!(aX d.an.l n).2&&!dh n)
 ·exact sj u _ 10 at_ h
 ·exact sj u true 8 at_ h
theorem DS {d:aj}{f:Sl Z8}{a b:Bs}(k:a.length<=4000000) (hb:b.length<=4000000):∀(l:List Z8) (i:Nat) (s:Sl Z6),f.l.drop i=l->(∀x∈l,x.aa.length<=1048576) ->
  s.l.length+(fH d a b ((f.l.take i).map Z8.aa) l).length<=10000000000->∃nl,jS d f a b l i s=some ⟨nl,s.l++fH d a b ((f.l.take i).map Z8.aa) l⟩
 | [],i,s,_,_,_=>⟨s.nl,by rw [jS]; simp [fH]⟩
 | x::r,i,s,g,hx,hl=>by
  have hn:=hx x (.head _);rw [fH] at hl ⊢;simp only [List.length_append] at hl;rw [jS];simp only [on];rw [eS (by omega),oB,eS (by simp; omega),oB,L_];obtain⟨u,j⟩:=uW x.aa false (((f.l.take i).map Z8.aa).contains x.aa) (a++x.aa++b);simp only [Bool.false_or] at j;rw [j,oB,iR (by simp only [List.length_append]; omega),oB]
  obtain⟨m,o⟩:=Mb d x.aA.aa (a++x.aa++b) ⟨s.nl&&(bI (!eD x.aa) 6 (a++x.aa++b)++bI (((f.l.take i).map Z8.aa).contains x.aa) 7 (a++x.aa++b)).isEmpty,s.l++(bI (!eD x.aa) 6 (a++x.aa++b)++bI (((f.l.take i).map Z8.aa).contains x.aa) 7 (a++x.aa++b))⟩ (by simp only [List.length_append]; omega);rw [o,oB];have ht:(f.l.take (i+1)).map Z8.aa=(f.l.take i).map Z8.aa++[x.aa]:=by rw [qH g,List.map_append]; rfl
  obtain⟨p,q⟩:=DS (d:=d) k hb r (i+1) ⟨m,(s.l++(bI (!eD x.aa) 6 (a++x.aa++b)++bI (((f.l.take i).map Z8.aa).contains x.aa) 7 (a++x.aa++b)))++g_ d x.aA.aa (a++x.aa++b) 1⟩ (mW g).1 (fun y t=>hx y (.tail _ t)) (by rw [ht]; simp only [List.length_append]; omega);rw [q,ht];exact⟨p,by simp only [List.append_assoc]⟩
theorem DT {d:aj}(f:Sl Z8){a b:Bs}(g:a.length<=4000000) (hb:b.length<=4000000) (hx:∀x∈f.l,x.aa.length<=1048576) (hl:(fH d a b [] f.l).length<=10000000000):∃nl,kI d f a b=some ⟨nl,fH d a b [] f.l⟩:=by
 obtain⟨nl,e⟩:=DS (d:=d) g hb f.l 0 (Sl.nil:Sl Z6) rfl hx (by show 0+_<=_; simpa using hl);unfold kI;rw [e];exact⟨nl,rfl⟩
theorem DU {d:aj}{t:ai}(k:t.aa.length<=1048576):∀(l:List Z7) (i:Nat) (s:Sl Z6),t.ay.l.drop i=l->(∀x∈l,x.aa.length<=1048576/\∀y∈x.aF.l,y.aa.length<=1048576) ->
  s.l.length+(iQ d t.aa ((t.ay.l.take i).map Z7.aa) l).length<=10000000000->∃nl,jo d t l i s=some ⟨nl,s.l++iQ d t.aa ((t.ay.l.take i).map Z7.aa) l⟩
 | [],i,s,_,_,_=>⟨s.nl,by rw [jo]; simp [iQ]⟩
 | x::r,i,s,g,hx,hl=>by
  obtain⟨hn,f⟩:=hx x (.head _);rw [iQ] at hl ⊢;simp only [List.length_append] at hl;rw [jo];simp only [on,h_];rw [eS (by simp; omega),oB,eS (by simp; omega),oB,Ma];obtain⟨u,j⟩:=uW x.aa false (((t.ay.l.take i).map Z7.aa).contains x.aa) (t.aa++[46]++x.aa);simp only [Bool.false_or] at j;rw [j,oB,iR (by simp only [List.length_append]; omega),oB]
  obtain⟨m,o⟩:=Mc d x.aA.aa (t.aa++[46]++x.aa) ⟨s.nl&&(bI (!eD x.aa) 6 (t.aa++[46]++x.aa)++bI (((t.ay.l.take i).map Z7.aa).contains x.aa) 7 (t.aa++[46]++x.aa)).isEmpty,s.l++(bI (!eD x.aa) 6 (t.aa++[46]++x.aa)++bI (((t.ay.l.take i).map Z7.aa).contains x.aa) 7 (t.aa++[46]++x.aa))⟩ (by simp only [List.length_append]; omega);rw [o,oB,eS (by simp; omega),oB]
  obtain⟨v,p⟩:=DT (d:=d) x.aF (a:=t.aa++[46]++x.aa++[40]) (b:=[41]) (by simp; omega) (by simp) f (by omega);rw [p,oB,iR (by simp only [List.length_append]; omega),oB];have ht:(t.ay.l.take (i+1)).map Z7.aa=(t.ay.l.take i).map Z7.aa++[x.aa]:=by rw [qH g,List.map_append]; rfl
  obtain⟨n4,q⟩:=DU (d:=d) k r (i+1) ⟨m&&(fH d (t.aa++[46]++x.aa++[40]) [41] [] x.aF.l).isEmpty,((s.l++(bI (!eD x.aa) 6 (t.aa++[46]++x.aa)++bI (((t.ay.l.take i).map Z7.aa).contains x.aa) 7 (t.aa++[46]++x.aa)))++g_ d x.aA.aa (t.aa++[46]++x.aa) 0)++fH d (t.aa++[46]++x.aa++[40]) [41] [] x.aF.l⟩ (mW g).1 (fun y f=>hx y (.tail _ f)) (by rw [ht]; simp only [List.length_append]; omega)
  rw [q,ht];exact⟨n4,by simp only [List.append_assoc]⟩
theorem zp (t:ai) (x:Z9):∀(m k:Nat) (b:Bool),k+m<=t.aJ.l.length->kK t x m k b=some (b||((t.aJ.l.drop k).take m).any fun y=>y.aa==x.aa)
 | 0,k,b,_=>by rw [kK]; simp
 | m+1,k,b,h=>by
  rw [kK];have hk:k<t.aJ.l.length:=by omega
  rw [List.drop_eq_getElem_cons hk,List.take_succ_cons,List.any_cons];cases b
  ·simp only [aU,Bool.not_false,if_true,List.getElem?_eq_getElem hk,oB,Bool.false_or];rw [zp t x m (k+1) _ (by omega)]
  ·simp only [aU,Bool.not_true,Bool.false_eq_true,if_false,Bool.true_or];rw [zp t x m (k+1) _ (by omega),Bool.true_or]
theorem DV {t:ai}(f:t.aa.length<=1048576):∀(l:List Z9) (i:Nat) (s:Sl Z6),t.aJ.l.drop i=l->(∀x∈l,x.aa.length<=1048576) ->
  s.l.length+(hG t.aa ((t.aJ.l.take i).map Z9.aa) l).length<=10000000000->∃nl,iC t l i s=some ⟨nl,s.l++hG t.aa ((t.aJ.l.take i).map Z9.aa) l⟩
 | [],i,s,_,_,_=>⟨s.nl,by rw [iC]; simp [hG]⟩
 | x::r,i,s,b,hx,hl=>by
  have hn:=hx x (.head _);have hi:i<t.aJ.l.length:=by
   have:=congrArg List.length b; simp at this; omega
  rw [hG] at hl ⊢;simp only [List.length_append] at hl;rw [iC];simp only [on];rw [zp t x i 0 false (by omega),oB,eS (by simp; omega),oB,eS (by simp; omega),oB,List.drop_zero,Bool.false_or,<- qG];obtain⟨o,g⟩:=uW x.aa (sg x.aa) (((t.aJ.l.take i).map Z9.aa).contains x.aa) (t.aa++[46]++x.aa);have j:ji x.aa ((((x.aa==([116,114,117,101]:Bs)))||((x.aa==([102,97,108,115,101]:Bs))))||((x.aa==([110,117,108,108]:Bs)))) (((t.aJ.l.take i).map Z9.aa).contains x.aa) (t.aa++[46]++x.aa)=_:=g
  rw [j,oB,iR (by simp only [List.length_append]; omega),oB];have ht:(t.aJ.l.take (i+1)).map Z9.aa=(t.aJ.l.take i).map Z9.aa++[x.aa]:=by rw [qH b,List.map_append]; rfl
  have H:∀u:Sl Z6,u.l=s.l++(bI (sg x.aa||!eD x.aa) 6 (t.aa++[46]++x.aa)++bI (((t.aJ.l.take i).map Z9.aa).contains x.aa) 7 (t.aa++[46]++x.aa)) ->
    ∃nl,iC t r (i+1) u=some ⟨nl,s.l++((bI (sg x.aa||!eD x.aa) 6 (t.aa++[46]++x.aa)++bI (((t.aJ.l.take i).map Z9.aa).contains x.aa) 7 (t.aa++[46]++x.aa))++hG t.aa ((t.aJ.l.take i).map Z9.aa++[x.aa]) r)⟩:=by
   intro u hu;obtain⟨n4,k⟩:=DV f r (i+1) u (mW b).1 (fun y m=>hx y (.tail _ m)) (by rw [ht,hu]; simp only [List.length_append]; omega);rw [k,ht,hu];exact⟨n4,by simp only [List.append_assoc]⟩
  exact H _ rfl
theorem DW (n:Bs):∀l:List Bs,(match kH n l with|.inl _=>false|.inr e=>e)=l.contains n
 | []=>rfl
 | a::r=>by
  rw [kH,List.contains_cons,<- DW n r,BEq.comm];simp only [on];cases a==n<;>rfl
theorem DX (s:Sl Bs) (n:Bs):py s n=s.l.contains n:=by
 rw [<- DW];unfold py;simp only [on];cases kH n s.l<;>rfl
theorem Md (t:aG):pz t=some (uT t):=by
 unfold pz uT;cases h:t.aK.l with
 | nil=>rfl
 | cons a r =>
  cases b:decide (((((a::r:List Int)).length:Nat):Int)=(1:Int))
  ·rfl
  ·rfl
theorem zq (d:aj) (own:Bs):∀(l:List Z8) (s:Sl Bs),s.l.length+l.length<=1000000000->∃nl,jR d own l s=some ⟨nl,gy d l own s.l⟩
 | [],s,_=>⟨s.nl,by rw [jR]; rfl⟩
 | x::r,s,h=>by
  simp only [List.length_cons] at h;rw [jR];simp only [on,h_];rw [Md,oB];have e:(uT x.aA&&(x.aA.aa==own||(aX d.an.l x.aA.aa).2&&decide ((aX d.an.l x.aA.aa).1.ar=5)))=gd d own x:=rfl;rw [e,DX];have b:(gd d own x&&!(bif gd d own x then s.l.contains x.aA.aa else false))=(gd d own x&&!s.l.contains x.aA.aa):=by cases gd d own x<;>rfl
  rw [b];have f:gy d (x::r) own s.l=gy d r own (lI d own s.l x):=rfl;rw [f];cases hb:gd d own x&&!s.l.contains x.aA.aa
  ·have hn:lI d own s.l x=s.l:=by unfold lI; rw [hb]; rfl
   rw [hn];exact zq d own r s (by omega)
  ·have hn:lI d own s.l x=s.l++[x.aA.aa]:=by unfold lI; rw [hb]; rfl
   rw [hn,cond_true,fq (by decide) (by simp; omega),oB,oB];exact zq d own r ⟨_,s.l++[x.aA.aa]⟩ (by simp; omega)
theorem DY (d:aj) (t:ai) (own:Bs) (s:Sl Bs) (h:s.l.length+t.aM.l.length<=1000000000):∃nl,pE d t own s=some ⟨nl,gy d t.aM.l own s.l⟩:=by
 obtain⟨nl,e⟩:=zq d own t.aM.l s h;rw [IC];unfold tM;rw [e];exact⟨nl,rfl⟩
theorem Me {d:aj}(b:∀t∈d.an.l,t.sz<=1048576) (n:Bs):(gx d n).length<=1048576:=by
 unfold gx;rcases zo d.an.l n with e|e
 ·rw [e]; exact Nat.zero_le _
 ·have h1:=b _ e;have g:=(aX d.an.l n).1.bl;have i:=Sl.nL (f:=Z8.sz) (aX d.an.l n).1.aM Z8.pos;omega
open Classical in
theorem DZ {d:aj}(b:∀t∈d.an.l,t.sz<=1048576) (hl:d.an.l.length<=1048576) (t:ai):∀(n i:Nat) (s:Sl Bs),jI d t.aa t.aM.l i s.l->d.an.l.length+2<i+n->pF d t n s i=some (decide (iP d t.aa t.aM.l t.aa))
 | 0,i,s,hw,h=>by have:=hw.len; have:=hw.le; omega
 | n+1,i,s,hw,h=>by
  have hlen:=hw.len;rw [pF];by_cases hi:i<s.l.length
  ·rw [dT (by omega:((i:Nat):Int)<((s.l.length:Nat):Int)),cond_true,List.getElem?_eq_getElem hi,oB,iy,oB,h_];have f:=Me b s.l[i];obtain⟨nl,e⟩:=DY d (aX d.an.l s.l[i]).1 t.aa s (by unfold gx at f; omega);rw [e,oB];exact DZ b hl t n (i+1) ⟨nl,_⟩ (hw.step hi) (by omega)
  ·rw [dF (by omega:¬((i:Nat):Int)<((s.l.length:Nat):Int)),cond_false];unfold tN;rw [B2,oB,DX,hw.end (by omega)]
open Classical in
theorem Mf {d:aj}(b:∀t∈d.an.l,t.sz<=1048576) (hl:d.an.l.length<=1048576){t:ai}(ht:t.sz<=1048576):q7 d t=some (decide (t.ar=5)&&gZ d t):=by
 unfold q7 gZ;cases decide (t.ar=5)
 ·rfl
 ·have g:=t.bl;have i:=Sl.nL (f:=Z8.sz) t.aM Z8.pos;obtain⟨nl,e⟩:=DY d t t.aa (Sl.nil:Sl Bs) (by show 0+_<=_; omega);rw [Bool.not_true,cond_false,e,oB,Bool.true_and];exact DZ b hl t F0 0 ⟨nl,_⟩ (jI.start d t.aa t.aM.l) (by rw [fe]; omega)
theorem Mg (t:ai):tJ t=qD t:=rfl
theorem Mh {d:aj}(j:∀t∈d.an.l,t.sz<=1048576) (hl:d.an.l.length<=1048576){t:ai}(ht:t.sz<=1048576) (b:Bool):∃nl,pH d t b=some ⟨nl,(bI (!eD t.aa) 6 t.aa++bI b 7 t.aa)++(bI (qD t) 8 t.aa++(bI (qE t) 9 t.aa++bI (decide (t.ar=(5:Int))&&gZ d t) 5 t.aa))⟩:=by
 unfold pH;obtain⟨k,m⟩:=uW t.aa false b t.aa;rw [tI,m,oB,Iy,oB,Mg,Bool.false_or];have len:∀b e,(bI b e t.aa).length<=1:=fun b e=>by cases b<;>simp [bI]
 have p:=len (!eD t.aa) 6; have q:=len b 7;have f:∀u:Sl Z6,q8 u=some u:=fun _=>rfl;have g:∀u:Sl Z6,u.l.length<=10->∃nl,l9 d t u=some ⟨nl,u.l++bI (decide (t.ar=(5:Int))&&gZ d t) 5 t.aa⟩:=fun u hu=>by
  unfold l9;rw [Mf j hl ht,oB];cases decide (t.ar=(5:Int))&&gZ d t
  ·exact⟨u.nl,by simp [bI,f]⟩
  ·rw [cond_true,iR (by simp; omega),oB,f]; exact⟨_,rfl⟩
 have i:∀u:Sl Z6,u.l.length<=8->∃nl,pG d t u=some ⟨nl,u.l++(bI (qE t) 9 t.aa++bI (decide (t.ar=(5:Int))&&gZ d t) 5 t.aa)⟩:=fun u hu=>by
  unfold pG;have hk:∀c,c=qE t->∃nl,(bif c then((aQ 24 u (⟨false,[(Z6.mk (9:Int) t.aa)]⟩:Sl Z6)).bind fun o=>l9 d t o) else(l9 d t u))=some ⟨nl,u.l++(bI (qE t) 9 t.aa++bI (decide (t.ar=(5:Int))&&gZ d t) 5 t.aa)⟩:=by
   intro c hc;rw [<- hc];cases c
   ·obtain⟨nl,e⟩:=g u (by omega);exact⟨nl,by rw [cond_false,e]; simp [bI]⟩
   ·obtain⟨nl,e⟩:=g ⟨_,u.l++[Z6.mk 9 t.aa]⟩ (by simp; omega);rw [cond_true,iR (by simp; omega),oB,e];exact⟨nl,by simp [bI]⟩
  exact hk _ rfl
 cases qD t
 ·obtain⟨nl,e⟩:=i ⟨k,bI (!eD t.aa) 6 t.aa++bI b 7 t.aa⟩ (by simp; omega);exact⟨nl,by rw [cond_false,e]; simp [bI]⟩
 ·obtain⟨nl,e⟩:=i ⟨_,(bI (!eD t.aa) 6 t.aa++bI b 7 t.aa)++[Z6.mk 8 t.aa]⟩ (by simp; omega);rw [cond_true,iR (by simp; omega),oB,e];exact⟨nl,by simp [bI]⟩
theorem zu {d:aj}(x:ai){i:Nat}(hi:i<=d.an.l.length) (hl:d.an.l.length<=1048576):∀(n k:Nat) (b:Bool),k<=i->i<k+n->pI d (i:Int) x n b (k:Int)=pH d x (b||((d.an.l.drop k).take (i-k)).any fun y=>y.aa==x.aa)
 | 0,k,b,h1,j=>by omega
 | n+1,k,b,h1,j=>by
  rw [pI];by_cases hk:k<i
  ·rw [dT (by omega:((k:Nat):Int)<((i:Nat):Int)),cond_true];have f:k<d.an.l.length:=by omega
   have hx:cI d.an.l (k:Int)=some d.an.l[k]:=by unfold cI; rw [if_pos (by simp),Int.toNat_natCast,List.getElem?_eq_getElem f]
   have g:cA (k:Int) 1=some ((k+1:Nat):Int):=by rw [eV (by omega)]; rfl
   obtain⟨m,hm⟩:∃m,i-k=m+1:=⟨i-k-1,by omega⟩;rw [hx,hm,List.drop_eq_getElem_cons f,List.take_succ_cons,List.any_cons];cases b
   ·simp only [aU,Bool.not_false,if_true,oB,Bool.false_or,g];rw [zu x hi hl n (k+1) _ (by omega) (by omega),show i-(k+1)=m by omega]
   ·simp only [aU,Bool.not_true,Bool.false_eq_true,if_false,oB,Bool.true_or,g];rw [zu x hi hl n (k+1) _ (by omega) (by omega),Bool.true_or]
  ·have:i-k=0:=by omega
   rw [dF (by omega:¬((k:Nat):Int)<((i:Nat):Int)),cond_false,this,List.take_zero,List.any_nil,Bool.or_false]
theorem Mi {d:aj}(b:∀t∈d.an.l,t.sz<=1048576) (hl:d.an.l.length<=1048576){t:ai}{i:Nat}(ht:d.an.l[i]?=some t):∃nl,tO d (i:Int)=some ⟨nl,jH d ((d.an.l.take i).map ai.aa) t⟩:=by
 have hi:=(List.getElem?_eq_some_iff.1 ht).1;have hx:cI d.an.l (i:Int)=some t:=by unfold cI; rw [if_pos (by simp),Int.toNat_natCast,ht]
 unfold tO q9;rw [hx,oB,pn,oB,show (0:Int)=((0:Nat):Int) from rfl,zu t (by omega) hl F0 0 _ (Nat.zero_le _) (by rw [fe]; omega),List.drop_zero,Nat.sub_zero,<- qG,Bool.or_comm];exact Mh b hl (b t (List.mem_of_getElem? ht)) _
theorem Mj {d:aj}{t:ai}(ht:t.sz<=1048576) (u:Sl Z6) (h:u.l.length+(j9 d t).length<=10000000000) :
  ∃nl,(bif (bif (decide (t.ar=(1:Int))) then((decide (t.ar=(1:Int)))) else((decide (t.ar=(2:Int))))) then((pJ d t).bind fun k=>(aQ 24 u k).bind fun m=>some m) else(bif (decide (t.ar=(4:Int))) then((pK t).bind fun o=>(aQ 24 u o).bind fun p=>some p) else(bif (decide (t.ar=(5:Int))) then((cr t.aa ([46]:Bs)).bind fun q=>(kI d t.aM q ([]:Bs)).bind fun r=>(aQ 24 u r).bind fun s=>some s) else(some u))))=some ⟨nl,u.l++j9 d t⟩:=by
 have w:=t.bl;have hn:Bs.sz t.aa=t.aa.length+1:=rfl;have i:∀{x:Z8},x.sz<=1048576->x.aa.length<=1048576:=fun {x} h=>by have:=x.bl; have:Bs.sz x.aa=x.aa.length+1:=rfl; omega
 unfold j9 at h ⊢
 revert h
 cases (bif (decide (t.ar=(1:Int))) then((decide (t.ar=(1:Int)))) else((decide (t.ar=(2:Int)))))
 ·simp only [cond_false];cases decide (t.ar=(4:Int))
  ·simp only [cond_false];cases decide (t.ar=(5:Int))
   ·intro h; exact⟨u.nl,by simp⟩
   ·simp only [cond_true];intro h;rw [eS (by simp; omega),oB];obtain⟨j,g⟩:=DT (d:=d) t.aM (a:=t.aa++[46]) (b:=[]) (by simp; omega) (by simp) (fun x hx=>i (by have:=Sl.cC (f:=Z8.sz) hx; omega)) (by omega);rw [g,oB,iR (by simp only; omega)]; exact⟨_,rfl⟩
  ·simp only [cond_true];intro h;obtain⟨j,g⟩:=DV (t:=t) (by omega) t.aJ.l 0 (Sl.nil:Sl Z6) rfl (fun x hx=>by have:=Sl.cC (f:=Z9.sz) hx; have:=x.bl; have:Bs.sz x.aa=x.aa.length+1:=rfl; omega) (by show 0+_<=_; simp only [List.take_zero,List.map_nil]; omega);unfold pK;rw [g];simp only [oB,on,Sl.nil,List.nil_append,List.take_zero,List.map_nil];rw [iR (by simp only; omega)]; exact⟨_,rfl⟩
 ·simp only [cond_true];intro h;obtain⟨j,g⟩:=DU (d:=d) (t:=t) (by omega) t.ay.l 0 (Sl.nil:Sl Z6) rfl (fun x hx=>by
   have h1:=Sl.cC (f:=Z7.sz) hx; have z:=x.bl; have:Bs.sz x.aa=x.aa.length+1:=rfl;exact⟨by omega,fun y v=>i (by have:=Sl.cC (f:=Z8.sz) v; omega)⟩) (by show 0+_<=_; simp only [List.take_zero,List.map_nil]; omega)
  unfold pJ;rw [g];simp only [oB,on,Sl.nil,List.nil_append,List.take_zero,List.map_nil];rw [iR (by simp only; omega)]; exact⟨_,rfl⟩
theorem D0 {d:aj}(b:∀t∈d.an.l,t.sz<=1048576) (hl:d.an.l.length<=1048576):∀(l:List ai) (i:Nat) (s:Sl Z6),d.an.l.drop i=l->s.l.length+(fW d ((d.an.l.take i).map ai.aa) l).length<=10000000000->∃nl,jT d l i s=some ⟨nl,s.l++fW d ((d.an.l.take i).map ai.aa) l⟩
 | [],i,s,_,_=>⟨s.nl,by rw [jT]; simp [fW]⟩
 | t::r,i,s,f,h=>by
  obtain⟨t1,t2⟩:=mW f;rw [fW] at h ⊢;simp only [List.length_append] at h;rw [jT];simp only [on];obtain⟨p,g⟩:=Mi b hl t2;rw [g,oB,iR (by simp only; omega),oB];obtain⟨j,k⟩:=Mj (d:=d) (b t (List.mem_of_getElem? t2)) ⟨s.nl&&(jH d ((d.an.l.take i).map ai.aa) t).isEmpty,s.l++jH d ((d.an.l.take i).map ai.aa) t⟩ (by simp only [List.length_append]; omega)
  rw [k,oB];have ht:(d.an.l.take (i+1)).map ai.aa=(d.an.l.take i).map ai.aa++[t.aa]:=by rw [qH f,List.map_append]; rfl
  obtain⟨m,o⟩:=D0 b hl r (i+1) ⟨j,(s.l++jH d ((d.an.l.take i).map ai.aa) t)++j9 d t⟩ t1 (by rw [ht]; simp only [List.length_append]; omega);rw [o,ht];exact⟨m,by simp only [List.append_assoc]⟩
theorem zw {d:aj}(f:∀t∈d.an.l,t.sz<=1048576) (hl:d.an.l.length<=1048576) (b:Bool) (h:(fZ d b).length<=9000000):∃nl,pL d b=some ⟨nl,fZ d b⟩:=by
 unfold fZ at h ⊢;simp only [List.length_append] at h;obtain⟨g,i⟩:=D0 f hl d.an.l 0 (Sl.nil:Sl Z6) rfl (by show 0+_<=_; simp only [List.take_zero,List.map_nil]; omega);unfold pL;rw [i];simp only [oB,on,h_,Sl.nil,List.nil_append,List.take_zero,List.map_nil];obtain⟨j,k⟩:=sj ⟨g,fW d [] d.an.l⟩ (b&&!(aX d.an.l ([81,117,101,114,121]:Bs)).2) 30 ([81,117,101,114,121]:Bs) (by simp only; omega)
 rw [k];exact⟨j,rfl⟩
end Go.Proofs
namespace Go.Proofs
open Go Go.Ab
theorem Mk (s:Bs) (l:List Bs):∀n:Nat,(l.contains s=false->kZ s l n=Sum.inl ())/\(l.contains s=true->∃m:Nat,kZ s l n=Sum.inr (m:Int)):=by
 induction l with
 | nil=>intro n; exact⟨fun _=>rfl,fun h=>by simp at h⟩
 | cons a r b =>
  intro n;rw [kZ];simp only [Ab.on,List.contains_cons];cases s==a
  ·simp only [Bool.false_or,cond_false]; exact b (n+1)
  ·simp only [Bool.true_or,cond_true]; exact⟨fun h=>by simp at h,fun _=>⟨n,rfl⟩⟩
theorem Ml (a:Sl Bs) (s:Bs):k4 a s=a.l.contains s:=by
 unfold k4 ry;simp only [Ab.on];have h:=Mk s a.l 0;cases hc:a.l.contains s
 ·rw [h.1 hc]; rfl
 ·obtain⟨m,e⟩:=h.2 hc;rw [e]; exact dT (by simp)
theorem zx (t:aG):ee t=fA t.aK.l:=by
 unfold ee fA on;cases t.aK.l with
 | nil=>rfl
 | cons a r=>simp; by_cases h:a=1<;>simp [h]
theorem D1 {t:aG}(h:t.aK.l.length<=1048576) (h1:1<=t.aK.l.length):kM t=some ⟨t.aa,⟨false,t.aK.l.drop 1⟩⟩:=by
 unfold kM;rw [BC h1,oB,fq (by decide) (by simp; omega)];simp
theorem uX {t:aG}(h:t.aK.l.length<=1048576):iD t=some ⟨t.aa,⟨false,(cF t.aK).l⟩⟩:=by
 unfold iD cF;simp only [Ab.on,zx];cases hn:fA t.aK.l
 ·simp only [cond_false];rw [fq (by decide) (by simp; omega)];simp
 ·simp only [cond_true];rw [D1 h (DL hn)]; rfl
theorem uY (s:Sl Int):(cF s).l.length<=s.l.length:=by unfold cF; cases fA s.l<;>simp
theorem Mm {t:aG}(h:t.aK.l.length<=1048576):nU t=some (jG (cF t.aK).l):=by
 unfold nU;rw [uX h];simp only [oB,Ab.on,jG];cases (cF t.aK).l with
 | nil=>rfl
 | cons a r=>simp; by_cases h:a=2<;>simp [h]
theorem zy {t:aG}(h:t.aK.l.length<=1048576):gW t=some (bif jG (cF t.aK).l then(⟨t.aa,⟨false,(cF t.aK).l.drop 1⟩⟩,true) else(⟨[],Sl.nil⟩,false)):=by
 unfold gW;rw [Mm h];simp only [oB];cases hl:jG (cF t.aK).l with
 | false=>rfl
 | true =>
  simp only [Bool.not_true,cond_false,cond_true];rw [uX h,oB,D1 (by have:=uY t.aK; simp only; omega) (DM hl)];rfl
theorem zz {t:aG}(h:fA t.aK.l=true):(DJ t).aK.l.length<t.aK.l.length:=by
 have:=DL h;simp only [DJ,cF,h,cond_true,List.length_drop]; omega
def iS (d:aj) (a n:Bs):Bool :=
 (aX d.an.l n).2&&(decide ((aX d.an.l n).1.ar=1)&&((decide ((aX d.an.l a).1.ar=1)&&n==a)||((decide ((aX d.an.l a).1.ar=2)&&(aX d.an.l n).1.aW.l.contains a)||(decide ((aX d.an.l a).1.ar=3)&&(aX d.an.l a).1.aJ.l.any fun y=>y.aa==n))))
theorem D2 (n:Bs):∀l:List Bs,(match kL n l with|.inl _=>false|.inr e=>e)=l.contains n
 | []=>rfl
 | a::r=>by
  rw [kL,List.contains_cons,<- D2 n r,BEq.comm];simp only [on];cases a==n<;>rfl
theorem zA (s:Sl Bs) (n:Bs):jU s n=s.l.contains n:=by
 rw [<- D2];unfold jU;simp only [on];cases kL n s.l<;>rfl
theorem D3 (n:Bs):∀l:List Z9,(match kO n l with|.inl _=>false|.inr e=>e)=l.any fun y=>y.aa==n
 | []=>rfl
 | a::r=>by
  rw [kO,List.any_cons,<- D3 n r];simp only [on];cases a.aa==n<;>rfl
theorem D4 (t:ai) (n:Bs):l_ t n=t.aJ.l.any fun y=>y.aa==n:=by
 rw [<- D3];unfold l_;simp only [on];cases kO n t.aJ.l<;>rfl
theorem D5 (d:aj){i:Nat}(hi:i<d.an.l.length) (hl:d.an.l.length<=1048576):∀(n k:Nat),k<=i->i<k+n->pM d (i:Int) n (k:Int)=some (!((d.an.l.drop k).take (i-k)).any fun y=>y.aa==d.an.l[i].aa)
 | 0,k,h1,f=>by omega
 | n+1,k,h1,f=>by
  rw [pM];by_cases hk:k<i
  ·have b:k<d.an.l.length:=by omega
   have hx:cI d.an.l (k:Int)=some d.an.l[k]:=by unfold cI; rw [if_pos (by simp),Int.toNat_natCast,List.getElem?_eq_getElem b]
   have g:cI d.an.l (i:Int)=some d.an.l[i]:=by unfold cI; rw [if_pos (by simp),Int.toNat_natCast,List.getElem?_eq_getElem hi]
   have j:cA (k:Int) 1=some ((k+1:Nat):Int):=by rw [eV (by omega)]; rfl
   obtain⟨m,hm⟩:∃m,i-k=m+1:=⟨i-k-1,by omega⟩;rw [dT (by omega:((k:Nat):Int)<((i:Nat):Int)),cond_true,hx,oB,g,oB,hm,List.drop_eq_getElem_cons b,List.take_succ_cons,List.any_cons];cases d.an.l[k].aa==d.an.l[i].aa
   ·rw [cond_false,j,oB,D5 d hi hl n (k+1) (by omega) (by omega),show i-(k+1)=m by omega,Bool.false_or]
   ·rfl
  ·have:i-k=0:=by omega
   rw [dF (by omega:¬((k:Nat):Int)<((i:Nat):Int)),cond_false,this,List.take_zero,List.any_nil];rfl
theorem Mn (d:aj){i:Nat}(hi:i<d.an.l.length) (hl:d.an.l.length<=1048576):tR d (i:Int)=some (!(d.an.l.take i).any fun y=>y.aa==d.an.l[i].aa):=by
 unfold tR rj;rw [show (0:Int)=((0:Nat):Int) from rfl,D5 d hi hl F0 0 (Nat.zero_le _) (by rw [fe]; omega),List.drop_zero,Nat.sub_zero]
def j_ (a:Bs) (x o:ai):Bool:=(decide (x.ar=1)&&o.aa==a)||((decide (x.ar=2)&&o.aW.l.contains a)||(decide (x.ar=3)&&x.aJ.l.any fun y=>y.aa==o.aa))
theorem zB {d:aj}(hl:d.an.l.length<=1048576) (a:Bs) (x:ai×Bool) (hx:x.2=true):∀(l:List ai) (i:Nat) (s:Sl Bs),d.an.l.drop i=l->s.l.length+l.length<=2097152 ->
  ∃r,fL d a x l i s=some r/\∀z,z∈r.l↔z∈s.l\/∃(j:Nat) (h:j<d.an.l.length),i<=j/\d.an.l[j].ar=1/\((d.an.l.take j).any fun y=>y.aa==d.an.l[j].aa)=false/\j_ a x.1 d.an.l[j]=true/\d.an.l[j].aa=z
 | [],i,s,p,_=>by
  refine⟨s,by rw [fL],fun z=>⟨.inl, ?_⟩⟩;rintro (h|⟨j,h,h1,_⟩)
  ·exact h
  ·have:=List.drop_eq_nil_iff.1 p; omega
 | o::r,i,s,p,hb=>by
  simp only [List.length_cons] at hb;obtain⟨u,b⟩:=mW p;obtain⟨hi,b⟩:=List.getElem?_eq_some_iff.1 b
  -- what is left when this one does not count
  have skip:(¬(o.ar=1/\((d.an.l.take i).any fun y=>y.aa==o.aa)=false/\j_ a x.1 o=true))->∃q,fL d a x r (i+1) s=some q/\∀z,z∈q.l↔z∈s.l\/∃(j:Nat) (h:j<d.an.l.length),i<=j/\d.an.l[j].ar=1/\((d.an.l.take j).any fun y=>y.aa==d.an.l[j].aa)=false/\j_ a x.1 d.an.l[j]=true/\d.an.l[j].aa=z:=fun B=>by
   obtain⟨q,e,hq⟩:=zB hl a x hx r (i+1) s u (by omega);refine⟨q,e,fun z=>?_⟩;rw [hq z];constructor
   ·rintro (h|⟨j,h,h1,f⟩)
    ·exact .inl h
    ·exact .inr ⟨j,h,by omega,f⟩
   ·rintro (h|⟨j,h,h1,f,g,k,m⟩)
    ·exact .inl h
    ·by_cases t:i=j
     ·subst t;rw [b] at f g k;exact absurd ⟨f,g,k⟩ B
     ·exact .inr ⟨j,h,by omega,f,g,k,m⟩
  have more:o.ar=1->((d.an.l.take i).any fun y=>y.aa==o.aa)=false->j_ a x.1 o=true->∃q,fL d a x r (i+1) ⟨s.nl&&List.isEmpty [o.aa],s.l++[o.aa]⟩=some q/\∀z,z∈q.l↔z∈s.l\/∃(j:Nat) (h:j<d.an.l.length),i<=j/\d.an.l[j].ar=1/\((d.an.l.take j).any fun y=>y.aa==d.an.l[j].aa)=false/\j_ a x.1 d.an.l[j]=true/\d.an.l[j].aa=z:=fun C k2 E=>by
   obtain⟨q,e,hq⟩:=zB hl a x hx r (i+1) ⟨s.nl&&List.isEmpty [o.aa],s.l++[o.aa]⟩ u (by simp; omega);refine⟨q,e,fun z=>?_⟩;rw [hq z];simp only [List.mem_append,List.mem_singleton];constructor
   ·rintro ((h|h)|⟨j,h,h1,f⟩)
    ·exact .inl h
    ·exact .inr ⟨i,hi,Nat.le_refl _,by rw [b]; exact C,by rw [b]; exact k2,by rw [b]; exact E,by rw [b]; exact h.symm⟩
    ·exact .inr ⟨j,h,by omega,f⟩
   ·rintro (h|⟨j,h,h1,f,g,k,m⟩)
    ·exact .inl (.inl h)
    ·by_cases t:i=j
     ·subst t;rw [b] at m;exact .inl (.inr m.symm)
     ·exact .inr ⟨j,h,by omega,f,g,k,m⟩
  rw [fL,hx,cond_true];simp only [on];have v:=Mn d hi hl;rw [b] at v;by_cases hk:o.ar=1
  ·rw [dT hk,v];simp only [Bool.not_true,Bool.not_false,aU,if_true,oB,Bool.false_or];cases w:(d.an.l.take i).any fun y=>y.aa==o.aa
   ·simp only [Bool.not_false,Bool.not_true,cond_false];have F:(((decide (x.1.ar=(1:Int)))&&((o.aa==a)))||((decide (x.1.ar=(2:Int)))&&(bif (!((decide (x.1.ar=(1:Int)))&&((o.aa==a)))&&(decide (x.1.ar=(2:Int)))) then jU o.aW a else false))||((decide (x.1.ar=(3:Int)))&&(bif (!(((decide (x.1.ar=(1:Int)))&&((o.aa==a)))||((decide (x.1.ar=(2:Int)))&&(bif (!((decide (x.1.ar=(1:Int)))&&((o.aa==a)))&&(decide (x.1.ar=(2:Int)))) then jU o.aW a else false)))&&(decide (x.1.ar=(3:Int)))) then l_ x.1 o.aa else false)))=j_ a x.1 o:=by
     unfold j_;rw [zA,D4];cases decide (x.1.ar=(1:Int))<;>cases (o.aa==a)<;>cases decide (x.1.ar=(2:Int))<;>cases decide (x.1.ar=(3:Int))<;>cases o.aW.l.contains a<;>rfl
    rw [F];cases hc:j_ a x.1 o
    ·rw [cond_false,oB];exact skip fun h=>by rw [hc] at h; exact absurd h.2.2 (by simp)
    ·rw [cond_true,fq (by decide) (by simp; omega),oB,oB];exact more hk w hc
   ·simp only [Bool.not_true,cond_true,Bool.not_false,oB];exact skip fun h=>by rw [w] at h; exact absurd h.2.1 (by simp)
  ·rw [dF hk];simp only [Bool.not_false,Bool.not_true,aU,Bool.false_eq_true,if_false,Bool.true_or,cond_true,oB];exact skip fun h=>hk h.1
theorem Mo {l:List ai}{j:Nat}(h:j<l.length) (b:((l.take j).any fun y=>y.aa==l[j].aa)=false):aX l l[j].aa=(l[j],true):=by
 have:l.find? (fun t=>t.aa==l[j].aa)=some l[j]:=by
  rw [List.find?_eq_some_iff_getElem];refine⟨by simp,j,h,rfl,fun k hk=>?_⟩;rw [List.any_eq_false] at b;have f:k<(l.take j).length:=by simp; omega
  have:=b (l.take j)[k] (List.getElem_mem f);rw [List.getElem_take] at this
  simpa using this
 unfold aX;rw [this]
theorem Mp {l:List ai}{z:Bs}(h:(aX l z).2=true):∃(j:Nat) (b:j<l.length),l[j]=(aX l z).1/\((l.take j).any fun y=>y.aa==l[j].aa)=false:=by
 have hn:=uU h;unfold aX at h hn ⊢;cases e:l.find? (fun t=>t.aa==z) with
 | none=>rw [e] at h; cases h
 | some t =>
  rw [e] at hn;obtain⟨_,j,b,h1,f⟩:=List.find?_eq_some_iff_getElem.1 e;refine⟨j,b,h1, ?_⟩;rw [List.any_eq_false];intro y g;obtain⟨k,hk,rfl⟩:=List.getElem_of_mem g;have i:k<j:=by simp at hk; omega
  rw [List.getElem_take,h1];have hn:t.aa=z:=hn;rw [hn]
  simpa using f k i
theorem Mq {d:aj}(hl:d.an.l.length<=1048576) (a:Bs):∃r,pN d a=some r/\∀z,z∈r.l↔iS d a z=true:=by
 unfold pN;simp only [on,h_];cases f:(aX d.an.l a).2
 ·have h0:∀(l:List ai) (i:Nat) (s:Sl Bs),fL d a (aX d.an.l a) l i s=some s:=fun l i s=>by
   cases l with
   | nil=>rw [fL]
   | cons o r=>rw [fL,f]; rfl
  rw [h0];refine⟨_,rfl,fun z=>?_⟩;unfold iS;rw [qF f];simp [Sl.nil,ai.zero]
 ·obtain⟨r,e,hr⟩:=zB hl a (aX d.an.l a) f d.an.l 0 (Sl.nil:Sl Bs) rfl (by show 0+_<=_; omega);rw [e];refine⟨r,rfl,fun z=>?_⟩;rw [hr z];constructor
  ·rintro (h|⟨j,h,_,g,k,m,q⟩)
   ·cases h
   ·have b:=Mo h k;rw [q] at b;unfold iS;rw [b];unfold j_ at m;rw [q] at m;simp only [g,decide_true,Bool.true_and];exact m
  ·intro h;unfold iS at h;simp only [Bool.and_eq_true,decide_eq_true_eq] at h;obtain⟨h1,g,k⟩:=h;obtain⟨j,b,p,t⟩:=Mp h1;refine .inr ⟨j,b,Nat.zero_le _,by rw [p]; exact g,t, ?_,by rw [p]; exact uU h1⟩;unfold j_;rw [p,uU h1];exact k
theorem D6 {d:aj}(hl:d.an.l.length<=1048576) (a b:Bs):mb d a b=some (iS d b a):=by
 obtain⟨r,e,h⟩:=Mq hl b;unfold mb;rw [e,oB];simp only [on,zA]
 congr 1
 rw [Bool.eq_iff_iff,List.contains_iff_mem];exact h a
def bB:Nat:=549755813888
theorem zC {α:Type}{s r:Sl α}(h:s.l.length+r.l.length<=1099511627776):aQ 80 s r=some ⟨s.nl&&r.l.isEmpty,s.l++r.l⟩:=by
 unfold aQ; rw [if_pos];have:(s.l.length+r.l.length)*80<=1099511627776*80:=Nat.mul_le_mul_right _ h;unfold cq; omega
theorem Mr {n:Nat}(h:n<256):IntKind.wrap .u8 (n:Int)=(n:Int):=by
 have:(n:Int) % 256=n:=by omega
 simp [IntKind.wrap,IntKind.bits,IntKind.signed]; omega
theorem D7 (k:Nat):kF (⟨false,[((48+k:Nat):Int)]⟩:Sl Int)=[UInt8.ofNat (48+k)]:=by
 show [UInt8.ofNat ((48+k:Nat):Int).toNat]=_;rw [Int.toNat_natCast]
theorem Ms:∀(f u:Nat),u<10 ^ f->(Lib.decDigits u).length<=f+1:=by
 intro f;induction f with
 | zero =>
  intro u hu;have:u=0:=by simpa using hu
  subst this; rw [Lib.decDigits]; simp
 | succ f b =>
  intro u hu;rw [Lib.decDigits]
  split
  ·simp
  ·have:=b (u / 10) (by rw [Nat.pow_succ] at hu; omega);simp; omega
theorem D8 {u:Nat}(h:u<=9223372036854775808):(Lib.decDigits u).length<=21:=Ms 20 u (by omega)
theorem Mt:∀(f u:Nat),u<10 ^ f->u<=9223372036854775808->f<=30->∀m,f+1<=m->kS m (-(u:Int))=some (Lib.decDigits u):=by
 intro f;induction f with
 | zero =>
  intro u hu hb g m hm;have:u=0:=by simpa using hu
  subst this;obtain⟨m,rfl⟩:∃k,m=k+1:=⟨m-1,by omega⟩;rw [Lib.decDigits]; rfl
 | succ f i =>
  intro u hu hb g m hm;obtain⟨m,rfl⟩:∃k,m=k+1:=⟨m-1,by omega⟩;have h1:Int.tmod (-(u:Int)) 10 = -((u % 10:Nat):Int):=by rw [Int.neg_tmod]; rfl
  have j:Int.tdiv (-(u:Int)) 10 = -((u / 10:Nat):Int):=by rw [Int.neg_tdiv]; rfl
  rw [kS,h1,j,BB (by omega),oB];have l:(48:Int) - -((u % 10:Nat):Int)=((48+u % 10:Nat):Int):=by omega
  rw [l,Mr (by omega),Lib.decDigits];by_cases b:u<10
  ·rw [dif_pos b,show decide ((-10:Int) < -(u:Int))=true from dT (by omega),cond_true,Nat.mod_eq_of_lt b,D7]
  ·rw [dif_neg b,show decide ((-10:Int) < -(u:Int))=false from dF (by omega),cond_false,IntWalk.i64_in _ (by omega),i (u / 10) (by rw [Nat.pow_succ] at hu; omega) (by omega) (by omega) m (by omega),oB];have hl:=D8 (u:=u / 10) (by omega);rw [D7,eS (by simp; omega),oB]
theorem Mu {n:Int}(h0 : -9223372036854775808<=n) (h1:n<=9223372036854775807):pQ n=some (Lib.itoa n):=by
 unfold pQ tU;have b:∀u:Nat,u<=9223372036854775808->kS F0 (-(u:Int))=some (Lib.decDigits u):=fun u hu=>Mt 20 u (by omega) hu (by omega) F0 (by rw [fe]; omega);by_cases hn:n<0
 ·obtain⟨u,rfl⟩:∃u:Nat,n = -(u:Int):=⟨n.natAbs,by omega⟩;rw [show decide (-(u:Int)<0)=true from dT hn,cond_true,b u (by omega),oB];have hl:=D8 (u:=u) (by omega);rw [eS (by simp; omega),oB];unfold Lib.itoa; rw [if_pos hn,show (-(u:Int)).natAbs=u by omega]; rfl
 ·obtain⟨u,rfl⟩:∃u:Nat,n=(u:Int):=⟨n.natAbs,by omega⟩;rw [show decide ((u:Int)<0)=false from dF hn,cond_false,IntWalk.i64_in _ (by omega),show (0:Int)-(u:Int) = -(u:Int) by omega,b u (by omega),oB];unfold Lib.itoa; rw [if_neg hn,Int.toNat_natCast]
def Wv:Nat->ag->Prop
 | 0,_=>False
 | n+1,v=>(-9223372036854775808<=v.bx/\v.bx<=9223372036854775807)/\(v.a_.nl=true->v.a_.l=[])/\v.a_.l.length<=bB/\v.aN.l.length<=bB/\∀x∈v.aN.l,Wv n x
theorem Wv.of:∀(n:Nat) (v:ag),v.sz<=n->v.sz<=1048576->v.wf->Wv n v
 | 0,v,h,_,_=>by have:=ag.pos v; omega
 | n+1,v,h,b,hw=>by
  have h1:=v.bl;have g:=Sl.ck (f:=ag.sz) v.aN (fun x=>ag.pos x);have i:=Sl.ck (f:=Bs.sz) v.a_ (fun x=>Bs.fO x);refine⟨?_, ?_, ?_, ?_,fun x hx=>?_⟩
  ·have:=ag.BW hw; unfold i64 at this; omega
  ·exact(ag.v8 hw).1
  ·unfold bB; omega
  ·unfold bB; omega
  ·have j:=Sl.cC (f:=ag.sz) hx;exact Wv.of n x (by omega) (by omega) ((ag.tB hw).2.2 x hx)
def VW (v:ag):Prop:=∃m,m<=1048576/\Wv m v
theorem VW.of {v:ag}(h:v.sz<=1048576) (hw:v.wf):VW v:=⟨v.sz,h,Wv.of _ v (Nat.le_refl _) h hw⟩
theorem VW.item {v x:ag}(h:VW v) (hx:x∈v.aN.l):VW x:=by
 obtain⟨m,hm,h⟩:=h;cases m with
 | zero=>exact h.elim
 | succ m=>exact⟨m,by omega,h.2.2.2.2 x hx⟩
theorem VW.int {v:ag}(h:VW v) : -9223372036854775808<=v.bx/\v.bx<=9223372036854775807:=by
 obtain⟨m,hm,h⟩:=h;cases m with
 | zero=>exact h.elim
 | succ m=>exact h.1
theorem VW.len {v:ag}(h:VW v):v.aN.l.length<=bB:=by
 obtain⟨m,hm,h⟩:=h;cases m with
 | zero=>exact h.elim
 | succ m=>exact h.2.2.2.1
def f_:ag:=ag.mk (0:Int) (0:Int) ([]:Bs) true ([]) (Sl.nil:Sl Bs)
theorem VW.nil:VW f_:=⟨1,by decide,⟨by decide,by decide⟩,fun _=>rfl,Nat.zero_le _,Nat.zero_le _,fun _ h=>(by cases h)⟩
theorem D9:∀(n:Nat){v:ag},Wv n v->∀m,2*n<=m->∃r,fR m v=some r/\Wv n r
 | 0,_,h,_,_=>h.elim
 | n+1,v,⟨k,y,i,j,o⟩,m,hm=>by
  obtain⟨m1,rfl⟩:∃m1,m=m1+1+1:=⟨m-2,by omega⟩;have hl:∀(l:List ag) (s:Sl ag),(∀x∈l,Wv n x)->(∀x∈s.l,Wv n x)->s.l.length+l.length<=bB->∃s':Sl ag,jt (fR m1) l s=some s'/\(∀x∈s'.l,Wv n x)/\s'.l.length=s.l.length+l.length:=by
   intro l;induction l with
   | nil=>intro s _ b _; exact⟨s,rfl,b,rfl⟩
   | cons a t p =>
    intro s hl b hb;obtain⟨r,hr,q⟩:=D9 n (hl a (.head _)) m1 (by omega);rw [jt];simp only [Ab.on,hr,oB];simp only [List.length_cons] at hb;rw [zC (by unfold bB at hb; simp; omega),oB];obtain⟨s',f,g,u⟩:=p ⟨s.nl&&[r].isEmpty,s.l++[r]⟩ (fun x hx=>hl x (.tail _ hx)) (fun x hx=>by
     rcases List.mem_append.1 hx with hx|hx
     ·exact b x hx
     ·rw [List.mem_singleton.1 hx]; exact q) (by simp; omega)
    exact⟨s',f,g,by rw [u]; simp; omega⟩
  obtain⟨s',f,g,w⟩:=hl v.aN.l Sl.nil o (fun _ h=>by cases h) (by simpa [Sl.nil] using j);rw [fR,nV,f,oB];simp only [Ab.on,oB];rw [fq (by decide) (by unfold bB at i; simp; omega),oB];refine⟨_,rfl,⟨k,fun e=>Bool.noConfusion (show false=true from e), ?_, ?_,g⟩⟩
  ·show ([]++v.a_.l).length<=_; rw [List.nil_append]; exact i
  ·show s'.l.length<=_; rw [w]; simpa [Sl.nil] using j
theorem Mw {v:ag}(h:VW v):∃r,xa v=some r/\VW r:=by
 obtain⟨m,hm,h⟩:=h;obtain⟨r,e,w⟩:=D9 m h F0 (by rw [fe]; omega);exact⟨r,e,m,hm,w⟩
theorem Mx {v:ag}(h:VW v) (s:Bs):∃x b,iJ v s=some (x,b)/\VW x:=by
 have loop:∀(l:List Bs) (i:Nat),∃o,iI v s l i=some o/\(match o with|Sum.inl _=>True|Sum.inr p=>VW p.1):=by
  intro l;induction l with
  | nil=>intro i; exact⟨_,rfl,trivial⟩
  | cons a r f =>
   intro i;rw [iI];simp only [Ab.on];cases a==s
   ·exact f (i+1)
   ·rw [cond_true];by_cases hi:v.aN.l.length<=i
    ·rw [dT (by omega:((v.aN.l.length:Nat):Int)<=((i:Nat):Int)),cond_true];exact⟨_,rfl,VW.nil⟩
    ·have hi:i<v.aN.l.length:=by omega
     obtain⟨r,e,w⟩:=Mw (h.item (List.getElem_mem hi));rw [dF (by omega:¬((v.aN.l.length:Nat):Int)<=((i:Nat):Int)),cond_false,List.getElem?_eq_getElem hi,oB,e,oB];exact⟨_,rfl,w⟩
 unfold iJ;cases (!decide (v.ar=(6:Int)))
 ·obtain⟨o,e,w⟩:=loop v.a_.l 0;rw [cond_false,e,oB];cases o with
  | inl u=>exact⟨_,_,rfl,VW.nil⟩
  | inr p=>exact⟨p.1,p.2,rfl,w⟩
 ·exact⟨_,_,rfl,VW.nil⟩
theorem zD (s:Bs):iJ f_ s=some (f_,false):=rfl
theorem D_ (l:Sl Z8){i:Nat}(hi:i<l.l.length):∀(n k:Nat),k<=i->i-k<n->i<=1048576->∃b,jX l (i:Int) n (k:Int)=some b
 | 0,_,_,h,_=>by omega
 | n+1,k,h1,o,f=>by
  rw [jX];by_cases hk:k<i
  ·have g:cI l.l (k:Int)=some l.l[k]:=by unfold cI; rw [if_pos (by omega),Int.toNat_natCast,List.getElem?_eq_getElem (by omega)]
   have j:cI l.l (i:Int)=some l.l[i]:=by unfold cI; rw [if_pos (by omega),Int.toNat_natCast,List.getElem?_eq_getElem hi]
   have m:cA (k:Int) 1=some ((k+1:Nat):Int):=by rw [eV (by omega)]; rfl
   rw [dT (by omega:((k:Nat):Int)<((i:Nat):Int)),cond_true,g,oB,j,oB];cases l.l[k].aa==l.l[i].aa
   ·rw [cond_false,m,oB]; exact D_ l hi n (k+1) (by omega) (by omega) f
   ·exact⟨true,rfl⟩
  ·rw [dF (by omega:¬((k:Nat):Int)<((i:Nat):Int)),cond_false];unfold tV;exact⟨_,rfl⟩
theorem My (l:Sl Z8){i:Nat}(hi:i<l.l.length) (h:l.l.length<=1048576):∃b,pR l (i:Int)=some b:=by
 unfold pR ru;exact D_ l hi F0 0 (Nat.zero_le _) (by rw [fe]; omega) (by omega)
def Wk (d:aj) (c:Z4):Prop:=c.Fd=d/\c.dW=f_/\True/\0<=c.de/\c.de<=4097/\(c.b6=0->c.de<=4096)
theorem mX {d:aj}{c:Z4}(h:Wk d c){e:Int}(he:e≠0):Wk d (dK c e):=by
 obtain⟨a,b,l,f,c1,c2⟩:=h;unfold dK;cases decide (c.b6=0)
 ·exact⟨a,b,l,f,c1,c2⟩
 ·exact⟨a,b,l,f,c1,fun h=>absurd h he⟩
theorem Mz {d:aj}{c:Z4}(h:Wk d c) (h0:c.b6=0) (L:Int):∃c',gX c L=some c'/\Wk d c'/\(c'.b6=0->L<=24):=by
 have hb:∀c1:Z4,c1.Fd=d->c1.dW=f_->True->0<=c1.de->c1.de<=4096->(c1.b6=0->L<=24) ->
   ∃c',((cA c1.de (1:Int)).bind fun f=>bif (decide ((4096:Int)<f)) then(on (dK (Z4.mk c1.Fd c1.dW c1.c7 f c1.b6) (4:Int)) fun o=>some o) else(some (Z4.mk c1.Fd c1.dW c1.c7 f c1.b6)))=some c'/\Wk d c'/\(c'.b6=0->L<=24):=by
  intro c1 g a2 a3 a4 a5 j;rw [eV (by omega),oB];by_cases k:4096<c1.de+1
  ·rw [dT k,cond_true];simp only [Ab.on];unfold dK;simp only [];by_cases i:c1.b6=0
   ·rw [dT i];exact⟨_,rfl,⟨g,a2,a3,by show 0<=c1.de+1; omega,by show c1.de+1<=4097; omega,fun h=>(by cases h)⟩,fun h=>(by cases h)⟩
   ·rw [dF i];exact⟨_,rfl,⟨g,a2,a3,by show 0<=c1.de+1; omega,by show c1.de+1<=4097; omega,fun h=>absurd h i⟩,j⟩
  ·rw [dF k];exact⟨_,rfl,⟨g,a2,a3,by show 0<=c1.de+1; omega,by show c1.de+1<=4097; omega,fun _=>by show c1.de+1<=4096; omega⟩,j⟩
 obtain⟨a,b,l,m,c1,c2⟩:=h;unfold gX;by_cases hl:24<L
 ·rw [dT hl];simp only [cond_true,Ab.on];refine hb _ ?_ ?_ trivial ?_ ?_ ?_<;>unfold dK<;>rw [dT h0]
  ·exact a
  ·exact b
  ·exact m
  ·exact c2 h0
  ·exact fun h=>(by cases h)
 ·rw [dF hl];simp only [cond_false,Ab.on];exact hb c a b l m (c2 h0) fun _=>by omega
def oC (d:aj) (n:Nat) (L:Int):Prop:=∀(c:Z4) (t:aG) (v:ag),Wk d c->c.b6=0->VW v->t.aK.l.length<=1048576->∃x c',dw n c t v L=some (x,c')/\Wk d c'
theorem MA {d:aj}{n:Nat}{L:Int}(j:0<=L/\L<=100) (hc:oC d n (L+1)){c:Z4}{t:aG}{v:ag}(hk:Wk d c) (hv:VW v) (ht:t.aK.l.length<=1048576):∃x c',gu (n+1) c t v L=some (x,c')/\Wk d c':=by
 have loop:∀(l:List ag) (c:Z4) (o:ag),Wk d c->(∀x∈l,VW x)->o.aN.l.length+l.length<=2*bB->∃c' o',gr t L (dw n) l c o=some (c',o')/\Wk d c':=by
  intro l;induction l with
  | nil=>intro c o hk _ _; exact⟨c,o,rfl,hk⟩
  | cons a r f =>
   intro c o hk hx hb;simp only [List.length_cons] at hb;rw [gr];by_cases he:c.b6=0
   ·rw [dT he,cond_true];simp only [Ab.on];obtain⟨x,c',e,w⟩:=hc c t a hk he (hx a (.head _)) ht;rw [eV (by omega),oB,e,oB,zC (by unfold bB at hb; simp only [List.length_cons,List.length_nil]; omega),oB];refine f c' _ w (fun x g=>hx x (.tail _ g)) ?_;show (o.aN.l++[x]).length+r.length<=_;rw [List.length_append,List.length_singleton]; omega
   ·rw [dF he]; exact⟨c,o,rfl,hk⟩
 rw [gu];simp only [Ab.on];have fin:∀l:Sl ag,(∀x∈l.l,VW x)->l.l.length<=bB->∃x c',(Option.bind (gr t L (dw n) l.l c (ag.mk (5:Int) (0:Int) ([]:Bs) true ([]) (Sl.nil:Sl Bs))) fun b=>some (b.2,b.1))=some (x,c')/\Wk d c':=by
  intro l h1 i;obtain⟨c',o',e,w⟩:=loop l.l c (ag.mk (5:Int) (0:Int) ([]:Bs) true ([]) (Sl.nil:Sl Bs)) hk h1 (by show 0+l.l.length<=_; unfold bB at i ⊢; omega);rw [e]; exact⟨_,_,rfl,w⟩
 cases decide (v.ar=(5:Int))
 ·exact fin ⟨false,[v]⟩ (fun x hx=>by rw [List.mem_singleton.1 hx]; exact hv) (by unfold bB; simp)
 ·exact fin v.aN (fun x hx=>hv.item hx) hv.len
def mY (d:aj):Prop:=∀t∈d.an.l,t.aM.l.length<=1048576/\∀x∈t.aM.l,VW x.dD/\x.aA.aK.l.length<=1048576
theorem Ea {d:aj}(t:ai):∀(l:List Bs) (c:Z4),Wk d c->Wk d (fU t l c)
 | [],c,h=>by rw [fU]; exact h
 | a::r,c,h=>by
  rw [fU];simp only [Ab.on];refine Ea t r _ ?_;cases (fQ t.aM a).2
  ·exact mX h (by decide)
  ·exact h
theorem MB {d:aj}{n:Nat}{L:Int}(W:0<=L/\L<=100) (hc:oC d (n+1) (L+1)) (B:oC d n (L+1)){c:Z4}{t:ai}{v:ag}(hk:Wk d c) (hv:VW v) (hl:t.aM.l.length<=1048576) (hi:∀x∈t.aM.l,VW x.dD/\x.aA.aK.l.length<=1048576):∃x c',gv (n+2) c t v L=some (x,c')/\Wk d c':=by
 have C:∀(c:Z4) (t:aG) (v:ag),Wk d c->c.b6=0->VW v->t.aK.l.length<=1048576->∃x c',fh (n+1) c t v (L+1)=some (x,c')/\Wk d c':=by
  intro c t v hk he hv ht;obtain⟨x,c',e,w⟩:=B (Z4.mk c.Fd f_ true c.de c.b6) t v ⟨hk.1,rfl,trivial,hk.2.2.2.1,hk.2.2.2.2.1,hk.2.2.2.2.2⟩ he hv ht;rw [fh];have E:dw n (Z4.mk c.Fd (ag.mk (0:Int) (0:Int) ([]:Bs) true ([]) (Sl.nil:Sl Bs)) true c.de c.b6) t v (L+1)=some (x,c'):=e;rw [E];exact⟨_,_,rfl,⟨w.1,hk.2.1,hk.2.2.1,w.2.2.2.1,w.2.2.2.2.1,w.2.2.2.2.2⟩⟩
 have loop:∀(l:List Z8) (i:Nat) (c:Z4) (o:ag),t.aM.l.drop i=l->Wk d c->o.aN.l.length+l.length<=2097152->o.a_.l.length+l.length<=2097152 ->
   ∃c' o',fM t v L (dw (n+1)) (fh (n+1)) l i c o=some (c',o')/\Wk d c':=by
  intro l;induction l with
  | nil=>intro i c o _ hk _ _; exact⟨c,o,rfl,hk⟩
  | cons a r F =>
   intro i c o G hk hb H;obtain⟨h1,I⟩:=LX G;have J:i<t.aM.l.length:=(List.getElem?_eq_some_iff.1 h1).1;have k:=hi a (List.mem_of_getElem? h1);simp only [List.length_cons] at hb H;rw [fM];by_cases he:c.b6=0
   ·rw [dT he,cond_true];simp only [Ab.on];obtain⟨b,K⟩:=My t.aM J hl;rw [K,oB];have p:∀(o':Option (Z4×ag)),(∃c' z,o'=some (c',z)/\Wk d c'/\z.aN.l.length+r.length<=2097152/\z.a_.l.length+r.length<=2097152) ->
      ∃c' M,(Option.bind o' fun q=>fM t v L (dw (n+1)) (fh (n+1)) r (i+1) q.1 q.2)=some (c',M)/\Wk d c':=by
     rintro _ ⟨c',z,rfl,w,N,O⟩;rw [oB];exact F (i+1) c' z I w N O
    have same:∃c' z,(some (c,o):Option (Z4×ag))=some (c',z)/\Wk d c'/\z.aN.l.length+r.length<=2097152/\z.a_.l.length+r.length<=2097152:=⟨c,o,rfl,hk,by omega,by omega⟩;have add:∀(c':Z4) (x:ag),Wk d c'->∃c2 z,((aQ 16 o.a_ (⟨false,[a.aa]⟩:Sl Bs)).bind fun j=>(aQ 80 o.aN (⟨false,[x]⟩:Sl ag)).bind fun f=>some (c',(ag.mk o.ar o.bx o.bw f.nl f.l j)))=some (c2,z)/\Wk d c2/\z.aN.l.length+r.length<=2097152/\z.a_.l.length+r.length<=2097152:=by
     intro c' x w;rw [fq (by decide) (by simp only [List.length_cons,List.length_nil]; omega),oB,zC (by simp only [List.length_cons,List.length_nil]; omega),oB];refine⟨_,_,rfl,w, ?_, ?_⟩
     ·show (o.aN.l++[x]).length+r.length<=_; rw [List.length_append,List.length_singleton]; omega
     ·show (o.a_.l++[a.aa]).length+r.length<=_; rw [List.length_append,List.length_singleton]; omega
    cases b
    ·rw [cond_false];obtain⟨y,g,P,Q⟩:=Mx hv a.aa;rw [P,oB];refine p _ ?_;have go:∀m:Bool,∃c' z,(bif (g&&(!m)) then((cA L (1:Int)).bind fun R=>(dw (n+1) c a.aA y R).bind fun s=>(aQ 16 o.a_ (⟨false,[a.aa]⟩:Sl Bs)).bind fun j=>(aQ 80 o.aN (⟨false,[s.1]⟩:Sl ag)).bind fun f=>some (s.2,(ag.mk o.ar o.bx o.bw f.nl f.l j))) else(bif a.cT then((cA L (1:Int)).bind fun S=>(fh (n+1) c a.aA a.dD S).bind fun u=>(aQ 16 o.a_ (⟨false,[a.aa]⟩:Sl Bs)).bind fun j=>(aQ 80 o.aN (⟨false,[u.1]⟩:Sl ag)).bind fun f=>some (u.2,(ag.mk o.ar o.bx o.bw f.nl f.l j))) else(bif ee a.aA then((aQ 16 o.a_ (⟨false,[a.aa]⟩:Sl Bs)).bind fun j=>(aQ 80 o.aN (⟨false,[ag.zero]⟩:Sl ag)).bind fun f=>some (dK c (22:Int),(ag.mk o.ar o.bx o.bw f.nl f.l j))) else(some (c,o)))))=some (c',z)/\Wk d c'/\z.aN.l.length+r.length<=2097152/\z.a_.l.length+r.length<=2097152:=by
      intro m;cases (g&&!m)
      ·rw [cond_false];cases a.cT
       ·rw [cond_false];cases ee a.aA
        ·exact same
        ·exact add _ _ (mX hk (by decide))
       ·obtain⟨x,c',e,w⟩:=C c a.aA a.dD hk he k.1 k.2;rw [cond_true,eV (by omega),oB,e,oB];exact add c' x w
      ·obtain⟨x,c',e,w⟩:=hc c a.aA y hk he Q k.2;rw [cond_true,eV (by omega),oB,e,oB];exact add c' x w
     have U:∃m,jv c y=some m:=by
      unfold jv;cases ((!c.c7)||(!decide (y.ar=(7:Int))))
      ·rw [cond_false,hk.2.1,zD]; exact⟨_,rfl⟩
      ·exact⟨_,rfl⟩
     obtain⟨m,em⟩:=U;rw [em];cases g
     ·exact go false
     ·exact go m
    ·exact p _ same
   ·rw [dF he]; exact⟨c,o,rfl,hk⟩
 rw [gv];cases (!decide (v.ar=(6:Int)))
 ·rw [cond_false];simp only [Ab.on];obtain⟨c',o',e,w⟩:=loop t.aM.l 0 (fU t v.a_.l c) (ag.mk (6:Int) (0:Int) ([]:Bs) true ([]) (Sl.nil:Sl Bs)) rfl (Ea t _ c hk) (by show 0+t.aM.l.length<=_; omega) (by show 0+t.aM.l.length<=_; omega);rw [e]; exact⟨_,_,rfl,w⟩
 ·exact⟨_,_,rfl,mX hk (by decide)⟩
theorem MC {d:aj}{c:Z4}(hk:Wk d c) (s:Bs){v:ag}(hv:VW v):∃x c',iK c s v=some (x,c')/\Wk d c':=by
 unfold iK;generalize (((((s==([73,110,116]:Bs)))&&(decide (v.ar=(2:Int))))&&(decide ((-2147483648:Int)<=v.bx)))&&(decide (v.bx<(2147483648:Int))))=b;cases b
 ·rw [cond_false];simp only [Ab.on];generalize (bif (((s==([83,116,114,105,110,103]:Bs)))&&(decide (v.ar=(3:Int)))) then((((s==([83,116,114,105,110,103]:Bs)))&&(decide (v.ar=(3:Int))))) else(bif (((s==([66,111,111,108,101,97,110]:Bs)))&&(decide (v.ar=(1:Int)))) then((((s==([66,111,111,108,101,97,110]:Bs)))&&(decide (v.ar=(1:Int))))) else((((s==([73,68]:Bs)))&&(decide (v.ar=(3:Int)))))))=f
  cases f
  ·rw [cond_false];cases (((s==([73,68]:Bs)))&&(decide (v.ar=(2:Int))))
   ·exact⟨_,_,rfl,mX hk (by decide)⟩
   ·rw [cond_true,Mu hv.int.1 hv.int.2]; exact⟨_,_,rfl,hk⟩
  ·exact⟨_,_,rfl,hk⟩
 ·exact⟨_,_,rfl,hk⟩
theorem MD {d:aj}{c:Z4}(hk:Wk d c) (t:ai) (v:ag):Wk d (fT c t v).2:=by
 have loop:∀l:List Z9,match fS c v l with|Sum.inl _=>True|Sum.inr p=>Wk d p.2:=by
  intro l;induction l with
  | nil=>exact trivial
  | cons a r b =>
   rw [fS];simp only [Ab.on];cases a.aa==v.bw
   ·exact b
   ·exact hk
 unfold fT;simp only [Ab.on];cases ((decide (v.ar=(4:Int)))||((decide (v.ar=(3:Int)))&&(!c.c7)))
 ·exact mX hk (by decide)
 ·rw [cond_true];have:=loop t.aJ.l;cases h:fS c v t.aJ.l with
  | inl u=>exact mX hk (by decide)
  | inr p=>rw [h] at this; exact this
theorem Eb {d:aj}(B:mY d){m:Nat}{L:Int}(k:0<=L/\L<=100) (h:L<=24->oC d (m+1) (L+1)/\oC d m (L+1)):oC d (m+3) L:=by
 intro c t v hk he hv ht;rw [dw];simp only [Ab.on];cases fF c.Fd t.aa
 ·exact⟨_,_,rfl,mX hk (by decide)⟩
 ·rw [Bool.not_true,cond_false];obtain⟨c1,C,g,E⟩:=Mz hk he L;have o:∀v:ag,VW v->∃x c',((gX c L).bind fun f=>bif (!decide (f.b6=(0:Int))) then(some ((ag.mk (0:Int) (0:Int) ([]:Bs) true ([]) (Sl.nil:Sl Bs)),f)) else(bif (decide (v.ar=(0:Int))) then(some ((ag.mk (0:Int) (0:Int) ([]:Bs) true ([]) (Sl.nil:Sl Bs)),bif ee t then dK f (23:Int) else f)) else((gW t).bind fun p=>bif p.2 then(((gu (m+2)) f p.1 v L).bind fun q=>some (q.1,q.2)) else(bif dh t.aa then((iK f t.aa v).bind fun r=>some (r.1,r.2)) else(bif (decide ((cU f.Fd t.aa).1.ar=(4:Int))) then(some ((fT f (cU f.Fd t.aa).1 v).1,(fT f (cU f.Fd t.aa).1 v).2)) else(((gv (m+2)) f (cU f.Fd t.aa).1 v L).bind fun s=>some (s.1,s.2)))))))=some (x,c')/\Wk d c':=by
   intro v hv;rw [C,oB];by_cases j:c1.b6=0
   ·rw [dT j,Bool.not_true,cond_false];obtain⟨y,F⟩:=h (E j);cases decide (v.ar=(0:Int))
    ·rw [cond_false];obtain⟨u,b,G,hu⟩:=L3 ht;rw [G,oB];cases b
     ·simp only [cond_false];cases dh t.aa
      ·rw [cond_false];cases decide ((cU c1.Fd t.aa).1.ar=(4:Int))
       ·rw [cond_false];have i:=LZ c1.Fd t.aa;rw [g.1] at i ⊢;have z:(cU d t.aa).1.aM.l.length<=1048576/\∀x∈(cU d t.aa).1.aM.l,VW x.dD/\x.aA.aK.l.length<=1048576:=by
         rcases i with i|i
         ·exact B _ i
         ·rw [i]; exact⟨Nat.zero_le _,fun _ h=>(by cases h)⟩
        obtain⟨x,c',e,w⟩:=MB (n:=m) k y F g hv z.1 z.2;rw [e]; exact⟨_,_,rfl,w⟩
       ·exact⟨_,_,rfl,MD g _ _⟩
      ·obtain⟨x,c',e,w⟩:=MC g t.aa hv;rw [cond_true,e]; exact⟨_,_,rfl,w⟩
     ·simp only [cond_true];obtain⟨x,c',e,w⟩:=MA (n:=m+1) (t:=u) k y g hv (by have:=hu rfl; omega);rw [e]; exact⟨_,_,rfl,w⟩
    ·rw [cond_true];refine⟨_,_,rfl, ?_⟩;cases ee t
     ·exact g
     ·exact mX g (by decide)
   ·rw [dF j]; exact⟨_,_,rfl,g⟩
  cases (c.c7&&(decide (v.ar=(7:Int))))
  ·exact o v hv
  ·rw [cond_true,hk.2.1,zD,oB,show (!decide ((f_,false).1.ar=(0:Int)))=false from rfl,cond_false];exact o f_ VW.nil
theorem zF {d:aj}(b:mY d):∀(k n:Nat) (L:Int),3*(k+1)<=n->25-(k:Int)<=L->0<=L->L<=25->oC d n L
 | 0,n,L,h1,f,g,i=>by
  obtain⟨m,rfl⟩:∃m,n=m+3:=⟨n-3,by omega⟩;exact Eb b (by omega) fun h=>by omega
 | k+1,n,L,h1,f,g,i=>by
  obtain⟨m,rfl⟩:∃m,n=m+3:=⟨n-3,by omega⟩;exact Eb b (by omega) fun h=>⟨zF b k (m+1) (L+1) (by omega) (by omega) (by omega) (by omega),zF b k m (L+1) (by omega) (by omega) (by omega) (by omega)⟩
theorem ME {d:aj}(i:mY d){t:aG}{v:ag}(hv:VW v) (ht:t.aK.l.length<=1048576):∃r,jY d t v f_=some r:=by
 unfold jY;simp only [Ab.on];have j:∃m,jv (Z4.mk d f_ true (0:Int) (0:Int)) v=some m:=by
  unfold jv;cases ((!(Z4.mk d f_ true (0:Int) (0:Int)).c7)||(!decide (v.ar=(7:Int))))
  ·rw [cond_false,zD]; exact⟨_,rfl⟩
  ·exact⟨_,rfl⟩
 obtain⟨m,em⟩:=j;rw [em];have run:∃r,((jw (Z4.mk d f_ true (0:Int) (0:Int)) t v).bind fun f=>some (f.1,f.2.1))=some r:=by
  obtain⟨x,c',e,w⟩:=zF i 24 F0 1 (by rw [fe]; omega) (by omega) (by omega) (by omega) (Z4.mk d f_ true (0:Int) (0:Int)) t v ⟨rfl,rfl,trivial,by show (0:Int)<=0; decide,by show (0:Int)<=4097; decide,fun _=>by show (0:Int)<=4096; decide⟩ rfl hv ht;unfold jw tW;rw [e,oB];cases (!decide ((x,c').2.b6=(0:Int)))<;>exact⟨_,rfl⟩
 have g:∀b:Bool,∃r,(bif (fF d t.aa&&b) then(some ((ag.mk (0:Int) (0:Int) ([]:Bs) true ([]) (Sl.nil:Sl Bs)),(8:Int))) else((jw (Z4.mk d f_ true (0:Int) (0:Int)) t v).bind fun f=>some (f.1,f.2.1)))=some r:=by
  intro b;cases (fF d t.aa&&b)
  ·exact run
  ·exact⟨_,rfl⟩
 have k:∀c:Bool,∃r,(aU c (some m) false fun o=>bif (fF d t.aa&&o) then(some ((ag.mk (0:Int) (0:Int) ([]:Bs) true ([]) (Sl.nil:Sl Bs)),(8:Int))) else((jw (Z4.mk d f_ true (0:Int) (0:Int)) t v).bind fun f=>some (f.1,f.2.1)))=some r:=by
  intro c;cases c
  ·exact g false
  ·exact g m
 exact k _
theorem Ec {d:aj}(b:mY d){p q r:Bs}(f:p.length<=10000000) (hq:q.length<=10) (hr:r.length<=10):∀(l:List Z8) (s:Sl Z6),(∀x∈l,VW x.dD/\x.aA.aK.l.length<=1048576/\x.aa.length<=1048576)->s.l.length+l.length<=1000000000->Tl (gY d p q r l s) (s.l.length+l.length)
 | [],s,_,_=>⟨s,rfl,by simp⟩
 | a::t,s,hx,h=>by
  obtain⟨h1,g,k⟩:=hx a (.head _);simp only [List.length_cons] at h ⊢;rw [gY];simp only [Ab.on];refine Tl.bind (a:=s.l.length+1) ?_ fun u hu=>(Ec b f hq hr t u (fun x i=>hx x (.tail _ i)) (by omega)).mono (by omega);cases a.cT
  ·exact⟨s,rfl,by omega⟩
  ·rw [Bool.not_true,cond_false];obtain⟨z,e⟩:=ME b h1 g;have j:jY d a.aA a.dD (ag.mk (0:Int) (0:Int) ([]:Bs) true ([]) (Sl.nil:Sl Bs))=some z:=e;rw [j,oB];cases (!decide (z.2=(0:Int)))
   ·exact⟨s,rfl,by omega⟩
   ·rw [cond_true,eS (by omega),oB,eS (by simp only [List.length_append]; omega),oB,eS (by simp only [List.length_append]; omega),oB];exact Tl.LY (by omega) (by omega)
theorem Ed {d:aj}(b:mY d) (l:Sl Z8){p q r:Bs}(f:p.length<=10000000) (hq:q.length<=10) (hr:r.length<=10) (hx:∀x∈l.l,VW x.dD/\x.aA.aK.l.length<=1048576/\x.aa.length<=1048576) (hl:l.l.length<=1048576):Tl (jx d l p q r) l.l.length:=by
 obtain⟨u,e,h⟩:=Ec b f hq hr l.l Sl.nil hx (by show 0+l.l.length<=_; omega);unfold jx;rw [e];exact⟨u,rfl,by simpa [Sl.nil] using h⟩
structure Ee (x:Z8):Prop where
 v:VW x.dD
 w:x.aA.aK.l.length<=1048576
 n:x.aa.length<=1048576
theorem zG {x:Z8}(hw:x.wf) (h:x.sz<=1048576):Ee x:=by
 have h1:=x.bl;have b:=aG.lH x.aA;have f:=Bs.ck x.aa;exact⟨VW.of (by omega) hw.2.2.2.1,by omega,by omega⟩
theorem Ef {d:aj}(i:mY d){t:ai}(ht:t.aa.length<=1048576):∀(l:List Z7) (s:Sl Z6),(∀f∈l,f.aa.length<=1048576/\f.aF.l.length<=f.sz/\f.sz<=1048576/\∀x∈f.aF.l,Ee x)->s.l.length+(l.map Z7.sz).sum<=1000000000->Tl (fV d t l s) (s.l.length+(l.map Z7.sz).sum)
 | [],s,_,_=>⟨s,rfl,by simp⟩
 | a::r,s,hx,h=>by
  obtain⟨h1,k,m,b⟩:=hx a (.head _);simp only [List.map_cons,List.sum_cons] at h ⊢;rw [fV];simp only [Ab.on];rw [eS (by simp only [List.length_cons,List.length_nil]; omega),oB,eS (by simp only [List.length_append,List.length_cons,List.length_nil]; omega),oB];refine Tl.DH (a:=s.l.length) (Nat.le_refl _) (Ed i a.aF (p:=t.aa++[46]++a.aa) (q:=[40]) (r:=[41]) (by simp only [List.length_append,List.length_cons,List.length_nil]; omega) (by simp) (by simp) (fun x g=>⟨(b x g).v,(b x g).w,(b x g).n⟩) (by omega)) (by omega) fun u hu=>?_
  exact(Ef i ht r u (fun f j=>hx f (.tail _ j)) (by omega)).mono (by omega)
theorem Eg {d:aj}(g:mY d):∀(l:List ai) (s:Sl Z6),(∀t∈l,t.wf/\t.sz<=1048576)->s.l.length+2*(l.map ai.sz).sum<=1000000000->Tl (fz d l s) (s.l.length+2*(l.map ai.sz).sum)
 | [],s,_,_=>⟨s,rfl,by simp⟩
 | a::r,s,hx,h=>by
  obtain⟨h1,j⟩:=hx a (.head _);simp only [List.map_cons,List.sum_cons] at h ⊢;have k:=a.bl;have m:Sl.sz Z7.sz a.ay=1+(a.ay.l.map Z7.sz).sum:=rfl;have hi:=Sl.ck (f:=Z8.sz) a.aM (fun x=>x.pos);have hn:=Bs.ck a.aa;rw [fz];simp only [Ab.on];refine Tl.bind (a:=s.l.length+(a.ay.l.map Z7.sz).sum) (Ef g (by omega) a.ay.l s (fun f i=>?_) (by omega)) fun u hu=>?_
  ·have o:=Sl.cC (f:=Z7.sz) i;have y:=f.bl;have z:=Bs.ck f.aa;have B:=Sl.ck (f:=Z8.sz) f.aF (fun x=>x.pos);exact⟨by omega,by omega,by omega,fun x b=>zG ((h1.2.2.2.2.1.2.2 f i).2.1.2.2 x b) (by have:=Sl.cC (f:=Z8.sz) b; omega)⟩
  ·refine Tl.DH (a:=s.l.length+(a.ay.l.map Z7.sz).sum) hu (Ed g a.aM (p:=a.aa) (q:=[46]) (r:=[]) (by omega) (by simp) (by simp) (fun x b=>?_) (by omega)) (by omega) fun v hv=>(Eg g r v (fun t ht=>hx t (.tail _ ht)) (by omega)).mono (by omega);have:=zG (h1.2.2.2.2.2.2.1.2.2 x b) (by have:=Sl.cC (f:=Z8.sz) b; omega);exact⟨this.v,this.w,this.n⟩
theorem MF {d:aj}(hw:d.wf) (b:d.sz<=1048576):mY d:=fun t ht=>by
 have h1:=aj.zn ht;have g:=t.bl;have i:=Sl.ck (f:=Z8.sz) t.aM (fun x=>x.pos);refine⟨by omega,fun x hx=>?_⟩;have:=zG ((hw.1.2.2 t ht).2.2.2.2.2.2.1.2.2 x hx) (by have:=Sl.cC (f:=Z8.sz) hx; omega);exact⟨this.v,this.w⟩
theorem Eh {d:aj}(hw:d.wf) (b:d.sz<=1048576):Tl (nX d) 3000000:=by
 have f:=d.bl;have hi:Sl.sz ai.sz d.an=1+(d.an.l.map ai.sz).sum:=rfl;obtain⟨u,e,h⟩:=Eg (MF hw b) d.an.l Sl.nil (fun t ht=>⟨hw.1.2.2 t ht,by have:=aj.zn ht; omega⟩) (by show 0+2*(d.an.l.map ai.sz).sum<=_; omega);unfold nX;rw [e];refine⟨u,rfl, ?_⟩;have:(Sl.nil:Sl Z6).l.length=0:=rfl;omega
theorem Ei:∀(l:List Z7) (s:Int),0<=s->s+((l.map Z7.sz).sum:Nat)<=1073741824->∃r,me l s=some r/\s<=r/\r<=s+((l.map Z7.sz).sum:Nat)/\∀f∈l,s+(f.aF.l.length:Nat)<=r
 | [],s,_,_=>⟨s,rfl,by omega,by simp,fun _ h=>by cases h⟩
 | f::l,s,h0,hb=>by
  simp only [List.map_cons,List.sum_cons] at hb ⊢;have h1:=f.bl;have b:=Sl.ck (f:=Z8.sz) f.aF (fun x=>Z8.pos x);have i:=Sl.ck (f:=av.sz) f.bh (fun x=>av.pos x);rw [me];simp only [Ab.on];rw [eV (by omega),oB,eV (by omega),oB];obtain⟨r,e,j,a2,a3⟩:=Ei l (s+(((f.aF.l.length:Nat):Int)+((f.bh.l.length:Nat):Int))) (by omega) (by omega)
  refine⟨r,e,by omega,by omega,fun g hg=>?_⟩;rcases List.mem_cons.1 hg with rfl|hg
  ·omega
  ·have:=a3 g hg; omega
theorem Ej:∀(l:List ai) (s:Int),0<=s->s+2*((l.map ai.sz).sum:Nat)<=1073741824->∃r,kT l s=some r/\s<=r/\(r<=1000->∀x∈l,Sm x)
 | [],s,_,_=>⟨s,rfl,by omega,fun _ _ h=>by cases h⟩
 | x::l,s,h0,hb=>by
  simp only [List.map_cons,List.sum_cons] at hb;have h1:=x.bl;have k:=Sl.ck (f:=Z7.sz) x.ay (fun x=>Z7.pos x);have m:=Sl.ck (f:=Z9.sz) x.aJ (fun x=>Z9.pos x);have o:=Sl.ck (f:=Z8.sz) x.aM (fun x=>Z8.pos x);have p:=Sl.ck (f:=av.sz) x.bh (fun x=>av.pos x);have q:=Sl.ck (f:=Bs.sz) x.aW (fun x=>Bs.fO x);have t:Sl.sz Z7.sz x.ay=1+(x.ay.l.map Z7.sz).sum:=rfl
  rw [kT];simp only [Ab.on];rw [eV (by omega),oB,eV (by omega),oB,eV (by omega),oB,eV (by omega),oB,eV (by omega),oB,eV (by omega),oB];obtain⟨z,e,u,a2,a3⟩:=Ei x.ay.l _ (show 0<=s+((((((1:Int)+((x.ay.l.length:Nat):Int))+((x.aJ.l.length:Nat):Int))+((x.aM.l.length:Nat):Int))+((x.bh.l.length:Nat):Int))+((x.aW.l.length:Nat):Int)) by omega) (by omega)
  rw [e,oB];obtain⟨r,g,v,i⟩:=Ej l z (by omega) (by omega);refine⟨r,g,by omega,fun hr y b=>?_⟩;rcases List.mem_cons.1 b with rfl|b
  ·exact⟨by omega,by omega,by omega,by omega,fun f j=>by have:=a3 f j; omega⟩
  ·exact i hr y b
theorem MG {d:aj}(g:d.sz<=1048576):∃b,pW d=some b/\(b=false->d.an.l.length<=70/\∀x∈d.an.l,Sm x):=by
 have h1:=d.bl;have i:Sl.sz ai.sz d.an=1+(d.an.l.map ai.sz).sum:=rfl;unfold pW;by_cases h:d.an.l.length<=70
 ·rw [show decide ((70:Int)<((d.an.l.length:Nat):Int))=false from dF (by omega),cond_false];obtain⟨r,e,j,f⟩:=Ej d.an.l 0 (by omega) (by omega);rw [e,oB];simp only [Ab.on];exact⟨_,rfl,fun hb=>⟨h,f (by have:=of_decide_eq_false hb; omega)⟩⟩
 ·rw [show decide ((70:Int)<((d.an.l.length:Nat):Int))=true from dT (by omega)];exact⟨true,rfl,fun h=>by cases h⟩
def bu {α:Type}(l:List α):Sl α:=⟨l.isEmpty,l⟩
noncomputable def cG:ag->ag:=@ag.rec (fun _=>ag) (fun _=>List ag) (fun k i t _ _ y b=>ag.mk k i t b.isEmpty b y) [] (fun _ _ b f=>b::f)
theorem MH (k i:Int) (t:Bs) (nl:Bool) (l:List ag) (y:Sl Bs):cG (ag.mk k i t nl l y)=ag.mk k i t l.isEmpty (l.map cG) y:=by
 have key:∀l:List ag,(@ag.rec_1 (fun _=>ag) (fun _=>List ag) (fun k i t _ _ y b=>ag.mk k i t b.isEmpty b y) [] (fun _ _ b f=>b::f) l:List ag)=l.map cG:=by
  intro l;induction l with
  | nil=>rfl
  | cons a r b=>exact congrArg (cG a::·) b
 show ag.mk k i t (List.isEmpty (@ag.rec_1 (fun _=>ag) (fun _=>List ag) (fun k i t _ _ y b=>ag.mk k i t b.isEmpty b y) [] (fun _ _ b f=>b::f) l)) (@ag.rec_1 (fun _=>ag) (fun _=>List ag) (fun k i t _ _ y b=>ag.mk k i t b.isEmpty b y) [] (fun _ _ b f=>b::f) l) y=_;rw [key];cases l<;>rfl
theorem kf (v:ag):cG v=ag.mk v.ar v.bx v.bw v.aN.l.isEmpty (v.aN.l.map cG) v.a_:=by cases v; exact MH ..
noncomputable def iT (x:bz):bz:=bz.mk x.aa (cG x.eW)
noncomputable def ej (x:av):av:=av.mk x.aa (bu (x.aF.l.map iT))
noncomputable def bV (x:Z8):Z8:=Z8.mk x.aa x.aA x.cT (cG x.dD) (bu (x.bh.l.map ej))
noncomputable def cK (x:Z7):Z7:=Z7.mk x.aa (bu (x.aF.l.map bV)) x.aA (bu (x.bh.l.map ej))
noncomputable def eM (x:Z9):Z9:=Z9.mk x.aa (bu (x.bh.l.map ej))
noncomputable def bD (t:ai):ai:=ai.mk t.ar t.aa t.aW (bu (t.bh.l.map ej)) (bu (t.ay.l.map cK)) (bu (t.aJ.l.map eM)) (bu (t.aM.l.map bV))
theorem mZ {α:Type}{z:Nat}{s:List α}{x:α}(b:z<=200) (h:s.length+1<=10000000):aQ z (bu s) (⟨false,[x]⟩:Sl α)=some (bu (s++[x])):=by
 unfold aQ; rw [if_pos]
 ·unfold bu; simp
 ·have:((bu s).l.length+[x].length)*z<=((bu s).l.length+[x].length)*200:=Nat.mul_le_mul_left _ b;simp only [bu,List.length_cons,List.length_nil] at this ⊢;unfold cq; omega
theorem Ek (s:Sl Bs) (h:s.nl=true->s.l=[]) (hl:s.l.length<=1048576):oe s=some s:=by
 unfold oe;obtain⟨nl,l⟩:=s;cases nl with
 | true=>have:=h rfl; simp only at this; subst this; rfl
 | false =>
  simp only [cond_false];rw [fq (by omega) (by simp at hl ⊢; omega)];simp
theorem El (s:Sl Int) (h:s.nl=true->s.l=[]) (hl:s.l.length<=1048576):og s=some s:=by
 unfold og;obtain⟨nl,l⟩:=s;cases nl with
 | true=>have:=h rfl; simp only at this; subst this; rfl
 | false =>
  simp only [cond_false];rw [fq (by omega) (by simp at hl ⊢; omega)];simp
theorem Em {rec:ag->Option ag}:∀(l:List ag) (s:List ag),(∀x∈l,rec x=some (cG x))->s.length+l.length<=5000000->k9 rec l (bu s)=some (bu (s++l.map cG))
 | [],s,_,_=>by rw [k9,List.map_nil,List.append_nil]
 | x::l,s,hx,hl=>by
  rw [List.length_cons] at hl;rw [k9];simp only [Ab.on];rw [hx x (.head _),oB,mZ (by omega) (by omega),oB,Em l (s++[cG x]) (fun y b=>hx y (.tail _ b)) (by simp; omega),List.append_assoc]; rfl
theorem En:∀(n:Nat) (v:ag),2*v.sz+2<=n->v.sz<=1048576->v.wf->jD n v=some (cG v)
 | 0,_,h,_,_=>by omega
 | 1,v,h,_,_=>by have:=v.bl; omega
 | n+2,v,h,g,hw=>by
  have i:=v.bl;have hlen:v.aN.l.length<=1048576:=by have:=Sl.ck (f:=ag.sz) v.aN (fun x=>x.pos); omega
  have b:v.a_.l.length<=1048576:=by have:=Sl.ck (f:=Bs.sz) v.a_ (fun x=>Bs.fO x); omega
  have e:=Em (rec:=jD n) v.aN.l [] (fun x hx=>by
   have:=ag.j8 hx;exact En n x (by omega) (by omega) ((ag.tB hw).2.2 x hx)) (by simp; omega)
  rw [List.nil_append] at e;rw [jD,rB];simp only [Ab.on];rw [show (Sl.nil:Sl ag)=bu [] from rfl,e];simp only [oB];rw [Ek _ (ag.v8 hw).1 b,oB,kf];unfold bu;cases v.aN.l<;>rfl
theorem Eo {v:ag}(b:v.sz<=1048576) (hw:v.wf):rD v=some (cG v):=by unfold rD; exact En F0 v (by rw [fe]; omega) b hw
theorem Ep {α:Type}{p:α->Prop}{l:List α}(hl:l.length<=cq) (h:∀x∈l,p x):Sl.wf p (bu l):=⟨fun e=>by unfold bu at e ⊢; exact List.isEmpty_iff.1 e,hl,h⟩
theorem MI {α:Type}{f:α->Nat}(l:List α):Sl.sz f (bu l)=1+(l.map f).sum:=rfl
theorem uZ {α:Type}{f:α->Nat}{c:α->α}:∀{l:List α},(∀x∈l,f (c x)=f x)->((l.map c).map f).sum=(l.map f).sum
 | [],_=>rfl
 | x::l,h=>by simp only [List.map_cons,List.sum_cons,h x (.head _),uZ fun y b=>h y (.tail _ b)]
theorem lJ {α:Type}{f:α->Nat}{c:α->α}(s:Sl α) (h:∀x∈s.l,f (c x)=f x):Sl.sz f (bu (s.l.map c))=Sl.sz f s:=by rw [MI,uZ h]; rfl
theorem lK {α:Type}{p:α->Prop}{c:α->α}{s:Sl α}(b:Sl.wf p s) (h:∀x∈s.l,p (c x)):Sl.wf p (bu (s.l.map c)):=Ep (by rw [List.length_map]; exact b.2.1) (fun y f=>by obtain⟨x,hx,rfl⟩:=List.mem_map.1 f; exact h x hx)
theorem zH:∀(n:Nat) (v:ag),v.sz<=n->(cG v).sz=v.sz
 | 0,v,h=>by have:=v.pos; omega
 | n+1,v,h=>by
  rw [kf,ag.bl,ag.bl v];show 0+1+1+Bs.sz v.bw+Sl.sz ag.sz (⟨_,v.aN.l.map cG⟩:Sl ag)+Sl.sz Bs.sz v.a_=_;rw [show Sl.sz ag.sz (⟨v.aN.l.isEmpty,v.aN.l.map cG⟩:Sl ag)=1+((v.aN.l.map cG).map ag.sz).sum from rfl,uZ fun x hx=>zH n x (by have:=ag.j8 hx; omega)];rfl
theorem zI:∀(n:Nat) (v:ag),v.sz<=n->v.wf->(cG v).wf
 | 0,v,h,_=>by have:=v.pos; omega
 | n+1,v,h,hw=>by
  rw [kf,ag.pg];have h1:i64 v.ar:=ag.Ip hw;have b:i64 v.bx:=ag.BW hw;have f:Sl.wf (fun _=>True) v.a_:=ag.v8 hw;refine⟨h1,b,trivial, ?_,f,trivial⟩;refine⟨fun e=>?_, ?_,fun y g=>?_⟩
  ·have e:v.aN.l.isEmpty=true:=e;show v.aN.l.map cG=[];rw [List.isEmpty_iff.1 e]; rfl
  ·show (v.aN.l.map cG).length<=_;rw [List.length_map]; exact(ag.tB hw).2.1
  ·obtain⟨x,hx,rfl⟩:=List.mem_map.1 g;exact zI n x (by have:=ag.j8 hx; omega) ((ag.tB hw).2.2 x hx)
theorem MJ (x:bz):(iT x).sz=x.sz:=by rw [bz.bl,bz.bl x]; show _+(cG x.eW).sz=_; rw [zH _ _ (Nat.le_refl _)]; rfl
theorem u0 (x:av):(ej x).sz=x.sz:=by rw [av.bl,av.bl x]; show _+Sl.sz bz.sz (bu (x.aF.l.map iT))=_; rw [lJ _ fun x _=>MJ x]; rfl
theorem Er (x:Z8):(bV x).sz=x.sz:=by rw [Z8.bl,Z8.bl x]; show _+(cG x.dD).sz+Sl.sz av.sz (bu (x.bh.l.map ej))=_; rw [zH _ _ (Nat.le_refl _),lJ _ fun x _=>u0 x]; rfl
theorem MK (x:Z7):(cK x).sz=x.sz:=by rw [Z7.bl,Z7.bl x]; show 0+Bs.sz x.aa+Sl.sz Z8.sz (bu (x.aF.l.map bV))+aG.sz x.aA+Sl.sz av.sz (bu (x.bh.l.map ej))=_; rw [lJ _ fun x _=>u0 x,lJ _ fun x _=>Er x]
theorem ML (x:Z9):(eM x).sz=x.sz:=by rw [Z9.bl,Z9.bl x]; show _+Sl.sz av.sz (bu (x.bh.l.map ej))=_; rw [lJ _ fun x _=>u0 x]; rfl
theorem MM (x:ai):(bD x).sz=x.sz:=by
 rw [ai.bl,ai.bl x];show 0+1+Bs.sz x.aa+Sl.sz Bs.sz x.aW+Sl.sz av.sz (bu (x.bh.l.map ej))+Sl.sz Z7.sz (bu (x.ay.l.map cK))+Sl.sz Z9.sz (bu (x.aJ.l.map eM))+Sl.sz Z8.sz (bu (x.aM.l.map bV))=_;rw [lJ _ fun x _=>u0 x,lJ _ fun x _=>MK x,lJ _ fun x _=>ML x,lJ _ fun x _=>Er x]
theorem MN {x:bz}(h:x.wf):(iT x).wf:=⟨trivial,zI _ _ (Nat.le_refl _) (bz.BY h),trivial⟩
theorem u3 {x:av}(h:x.wf):(ej x).wf:=⟨trivial,lK (av.nN h) fun a b=>MN ((av.nN h).2.2 a b),trivial⟩
theorem Es {x:Z8}(h:x.wf):(bV x).wf:=⟨trivial,h.2.1,trivial,zI _ _ (Nat.le_refl _) (Z8.BZ h),lK (Z8.fP h) fun a b=>u3 ((Z8.fP h).2.2 a b),trivial⟩
theorem MO {x:Z7}(h:x.wf):(cK x).wf:=⟨trivial,lK (Z7.nN h) fun a b=>Es ((Z7.nN h).2.2 a b),h.2.2.1,lK (Z7.fP h) fun a b=>u3 ((Z7.fP h).2.2 a b),trivial⟩
theorem MP {x:Z9}(h:x.wf):(eM x).wf:=⟨trivial,lK (Z9.fP h) fun a b=>u3 ((Z9.fP h).2.2 a b),trivial⟩
theorem MQ {x:ai}(h:x.wf):(bD x).wf:=⟨h.1,trivial,h.2.2.1,lK (ai.fP h) fun a b=>u3 ((ai.fP h).2.2 a b),lK (ai.tD h) fun a b=>MO ((ai.tD h).2.2 a b),lK (ai.we h) fun a b=>MP ((ai.we h).2.2 a b),lK (ai.wi h) fun a b=>Es ((ai.wi h).2.2 a b),trivial⟩
theorem Et (n:Bs):∀(l s:List bz),(∀x∈l,x.sz<=1048576/\x.wf)->s.length+l.length<=5000000->k_ l (av.mk n (bu s))=some (av.mk n (bu (s++l.map iT)))
 | [],s,_,_=>by rw [k_,List.map_nil,List.append_nil]
 | x::l,s,hx,hl=>by
  rw [List.length_cons] at hl;rw [k_];simp only [Ab.on];have:=x.bl;rw [Eo (by have:=(hx x (.head _)).1; omega) (bz.BY (hx x (.head _)).2),oB,mZ (by omega) (by omega),oB,Et n l (s++[_]) (fun y b=>hx y (.tail _ b)) (by simp; omega),List.append_assoc]; rfl
theorem Eu:∀(l s:List av),(∀x∈l,x.sz<=1048576/\x.wf)->s.length+l.length<=5000000->jE l (bu s)=some (bu (s++l.map ej))
 | [],s,_,_=>by rw [jE,List.map_nil,List.append_nil]
 | x::l,s,hx,hl=>by
  rw [List.length_cons] at hl;rw [jE];simp only [Ab.on];have h1:=(hx x (.head _)).1;have i:=x.bl;have j:=Sl.ck (f:=bz.sz) x.aF bz.pos;rw [show (Sl.nil:Sl bz)=bu [] from rfl,Et x.aa x.aF.l [] (fun a b=>⟨by have:=Sl.cC (f:=bz.sz) b; omega,(av.nN (hx x (.head _)).2).2.2 a b⟩) (by simp; omega),oB,mZ (by omega) (by omega),oB,Eu l (s++[_]) (fun y g=>hx y (.tail _ g)) (by simp; omega),List.append_assoc]; rfl
theorem u4 {s:Sl av}(h:Sl.sz av.sz s<=1048576) (hw:Sl.wf av.wf s):j4 s=some (bu (s.l.map ej)):=by
 unfold j4;have g:=Sl.ck (f:=av.sz) s av.pos;rw [show (Sl.nil:Sl av)=bu [] from rfl,Eu s.l [] (fun a b=>⟨by have:=Sl.cC (f:=av.sz) b; omega,hw.2.2 a b⟩) (by simp; omega)]; rfl
theorem Ev:∀(l s:List Z8),(∀x∈l,x.sz<=1048576/\x.wf)->s.length+l.length<=5000000->lc l (bu s)=some (bu (s++l.map bV))
 | [],s,_,_=>by rw [lc,List.map_nil,List.append_nil]
 | x::l,s,hx,hl=>by
  rw [List.length_cons] at hl;rw [lc];simp only [Ab.on];obtain⟨h1,hw⟩:=hx x (.head _);have f:=x.bl;have g:=x.aA.lH;rw [El _ (aG.v_ (Z8.tC hw)).1 (by omega),oB,Eo (by omega) (Z8.BZ hw),oB,u4 (by omega) (Z8.fP hw),oB,mZ (by omega) (by omega),oB,Ev l (s++[_]) (fun y b=>hx y (.tail _ b)) (by simp; omega),List.append_assoc]; rfl
theorem Ew {s:Sl Z8}(h:Sl.sz Z8.sz s<=1048576) (hw:Sl.wf Z8.wf s):oh s=some (bu (s.l.map bV)):=by
 unfold oh;have g:=Sl.ck (f:=Z8.sz) s Z8.pos;rw [show (Sl.nil:Sl Z8)=bu [] from rfl,Ev s.l [] (fun a b=>⟨by have:=Sl.cC (f:=Z8.sz) b; omega,hw.2.2 a b⟩) (by simp; omega)]; rfl
theorem zJ:∀(l:List ag) (s:Sl Bs),s.l.length+l.length<=3000000->∃r,k6 l s=some r/\r.l.length<=s.l.length+l.length
 | [],s,_=>⟨s,rfl,by simp⟩
 | x::r,s,h=>by
  simp only [List.length_cons] at h;rw [k6];simp only [Ab.on];cases hk:decide (x.ar=(3:Int))&&!(bif (decide (x.ar=(3:Int))) then k4 s x.bw else false)
  ·simp only [cond_false,oB];obtain⟨z,b,f⟩:=zJ r s (by omega);exact⟨z,b,by simp; omega⟩
  ·simp only [cond_true];rw [fq (by omega) (by simp; omega),oB,oB];obtain⟨z,b,f⟩:=zJ r ⟨s.nl&&[x.bw].isEmpty,s.l++[x.bw]⟩ (by simp; omega);exact⟨z,b,by simp at f ⊢; omega⟩
theorem zK (n a:Bs):∀(l:List av) (s:Sl ag),s.l.length+l.length<=3000000->∃r,k5 n a l s=some r/\r.l.length<=s.l.length+l.length
 | [],s,_=>⟨s,rfl,by simp⟩
 | x::r,s,h=>by
  simp only [List.length_cons] at h;rw [k5];simp only [Ab.on];cases (jC x a).2&&(x.aa==n)
  ·obtain⟨z,b,f⟩:=zK n a r s (by omega);exact⟨z,b,by simp; omega⟩
  ·rw [cond_true];have g:aQ 80 s (⟨false,[(jC x a).1]⟩:Sl ag)=some ⟨s.nl&&[(jC x a).1].isEmpty,s.l++[(jC x a).1]⟩:=by
    unfold aQ; rw [if_pos];have h1:(s.l.length+[(jC x a).1].length)*80<=3000000*80:=Nat.mul_le_mul_right _ (by simp; omega);refine⟨?_, ?_⟩<;>(unfold cq; simp only [List.length_cons,List.length_nil] at h1 ⊢; omega)
   rw [g,oB,oB];obtain⟨z,b,f⟩:=zK n a r ⟨s.nl&&[(jC x a).1].isEmpty,s.l++[(jC x a).1]⟩ (by simp; omega);exact⟨z,b,by simp at f ⊢; omega⟩
theorem zL {a:Sl av}(h:a.l.length<=1048576):∃r,mz a=some r/\r.l.length<=1048576:=by
 unfold mz rz;obtain⟨x,f,b⟩:=zK [116,97,103] [110,97,109,101] a.l (Sl.nil:Sl ag) (by simp [Sl.nil]; omega);rw [f];simp only [Ab.on,oB];obtain⟨r,f1,f2⟩:=zJ x.l (Sl.nil:Sl Bs) (by simp [Sl.nil] at b ⊢; omega);rw [f1];exact⟨r,rfl,by simp [Sl.nil] at b f2; omega⟩
theorem MR (a b:Sl Bs) (j:a.l.length<=2000000) (hb:b.l.length<=2000000):∃nl,qc ⟨false,[a,b]⟩=some ⟨nl,a.l++b.l⟩/\(nl=true->a.l++b.l=[]):=by
 have hg:rE ((a.l.length:Int)+(b.l.length:Int))=some ⟨decide ((a.l.length:Int)+(b.l.length:Int)=0),[]⟩:=by
  unfold rE; rw [if_pos ⟨by omega,by unfold cq; omega,by unfold cq; omega⟩]
 refine⟨(decide ((a.l.length:Int)+(b.l.length:Int)=0)&&a.l.isEmpty)&&b.l.isEmpty, ?_, ?_⟩
 ·unfold qc rG;simp only [List.length_cons,List.length_nil,Nat.zero_add,Nat.reduceAdd,oo];have h1:cA 0 (a.l.length:Int)=some (a.l.length:Int):=by rw [eV (by omega)]; simp
  have f:cA (a.l.length:Int) (b.l.length:Int)=some ((a.l.length:Int)+(b.l.length:Int)):=eV (by omega);have g:¬((a.l.length:Int)<0):=by omega
  have i:¬((a.l.length:Int)+(b.l.length:Int)<0):=by omega
  have d1:decide ((0:Int)<2)=true:=by decide
  simp only [List.getElem?_cons_zero,List.getElem?_cons_succ,oB,h1,f,hg,dF g,dF i,cond_true,cond_false,uu,ur,oo,rF,uq,
   Int.natCast_zero,Nat.zero_add,Nat.reduceAdd,List.length_cons,List.length_nil]
  have k:∀(x y:Nat),x<y->decide (((x:Nat):Int)<((y:Nat):Int))=true:=fun x y h=>dT (by omega);have dn:∀(x y:Nat),¬x<y->decide (((x:Nat):Int)<((y:Nat):Int))=false:=fun x y h=>dF (by omega);rw [fq (by decide) (by simp; omega)];simp;rw [fq (by decide) (by simp; omega)]
  first|done|simp
 ·intro h;simp only [Bool.and_eq_true,List.isEmpty_iff] at h;rw [h.1.2,h.2]; rfl
theorem Ex:∀(l:List Bs) (n:Nat),oc (fun y=>qb y (Sl.nil:Sl Bs)) l n=Sum.inl ()
 | [],_=>rfl
 | x::l,n=>by
  rw [oc];simp only [Ab.on];rw [show qb x (Sl.nil:Sl Bs)=false from rfl];exact Ex l (n+1)
def oE:Z3:=Z3.mk (Sl.nil:Sl Bs) (Sl.nil:Sl Bs)
theorem Ey (s:Sl Bs):ol oE s=true:=by
 have h:od s (Sl.nil:Sl Bs)=false:=by
  unfold od ug uf;rw [Ex]; rfl
 unfold ol oE;rw [h]; rfl
theorem Ez {a b:Sl Bs}(f:a.l.length<=2000000) (hb:b.l.length<=2000000):∃r,qc ⟨false,[a,b]⟩=some r:=by
 obtain⟨nl,e,_⟩:=MR a b f hb;exact⟨_,e⟩
theorem EA {g:Sl Bs}(j:g.l.length<=1048576) (k:Int) (n:Bs) (i:Sl Bs) (D:Sl av) (M:Sl Z9) (N:Sl Z8):∀(l s:List Z7),(∀x∈l,x.sz<=1048576/\x.wf)->s.length+l.length<=5000000 ->
  j5 oE g l (ai.mk k n i D (bu s) M N)=some (ai.mk k n i D (bu (s++l.map cK)) M N)
 | [],s,_,_=>by rw [j5,List.map_nil,List.append_nil]
 | x::l,s,hx,hl=>by
  rw [List.length_cons] at hl;rw [j5];simp only [Ab.on];obtain⟨h1,hw⟩:=hx x (.head _);have q:=x.bl;have t:=Sl.ck (f:=av.sz) x.bh av.pos;have u:=x.aA.lH;obtain⟨r,m,v⟩:=zL (a:=x.bh) (by omega);obtain⟨w,o⟩:=Ez (a:=g) (b:=r) (by omega) (by omega);rw [m,oB,o,oB,Ey,cond_true,El _ (aG.v_ (Z7.tC hw)).1 (by omega),oB,u4 (by omega) (Z7.fP hw),oB,Ew (by omega) (Z7.nN hw),oB,
   mZ (by omega) (by omega),oB,oB,EA j k n i D M N l (s++[_]) (fun y p=>hx y (.tail _ p)) (by simp; omega),List.append_assoc]; rfl
theorem EB {j:ai}{i:Sl Bs}(m:i.l.length<=1048576) (k:Int) (n:Bs) (g:Sl Bs) (D:Sl av) (F:Sl Z7) (N:Sl Z8):∀(l s:List Z9),(∀x∈l,x.sz<=1048576/\x.wf)->s.length+l.length<=5000000 ->
  iM oE j i l (ai.mk k n g D F (bu s) N)=some (ai.mk k n g D F (bu (s++l.map eM)) N)
 | [],s,_,_=>by rw [iM,List.map_nil,List.append_nil]
 | x::l,s,hx,hl=>by
  rw [List.length_cons] at hl;rw [iM];simp only [Ab.on];obtain⟨h1,hw⟩:=hx x (.head _);have w:=x.bl;have z:=Sl.ck (f:=av.sz) x.bh av.pos;obtain⟨r,o,B⟩:=zL (a:=x.bh) (by omega);obtain⟨C,p⟩:=Ez (a:=i) (b:=r) (by omega) (by omega);have fin:∀b:Bool,b=true->(Option.bind (bif b then((j4 x.bh).bind fun q=>(aQ 40 (bu s) (⟨false,[(Z9.mk x.aa q)]⟩:Sl Z9)).bind fun t=>some (ai.mk k n g D F t N)) else(some (ai.mk k n g D F (bu s) N))) fun u=>iM oE j i l u)=some (ai.mk k n g D F (bu (s++(x::l).map eM)) N):=by
   intro b hb;subst hb;rw [cond_true,u4 (by omega) (Z9.fP hw),oB,mZ (by omega) (by omega),oB,oB,EB m k n g D F N l (s++[_]) (fun y v=>hx y (.tail _ v)) (by simp; omega),List.append_assoc]; rfl
  cases hk:decide (j.ar=(4:Int))
  ·simp only [Bool.not_false,Bool.not_true,aU,cond_false,Bool.true_or];exact fin _ rfl
  ·simp only [Bool.not_false,Bool.not_true,aU,cond_true,Bool.false_or,o,oB,p,Ey];exact fin _ rfl
theorem MS {t:ai}(i:t.sz<=1048576) (hw:t.wf):rH oE t=some (bD t):=by
 have j:=t.bl;have k:=Sl.ck (f:=av.sz) t.bh av.pos;have m:=Sl.ck (f:=Bs.sz) t.aW (fun x=>Bs.fO x);have o:=Sl.ck (f:=Z7.sz) t.ay Z7.pos;have p:=Sl.ck (f:=Z9.sz) t.aJ Z9.pos;obtain⟨r,g,b⟩:=zL (a:=t.bh) (by omega);unfold rH;rw [g,oB,Ek _ (ai.Iq hw).1 (by omega),oB,u4 (by omega) (ai.fP hw),oB,Ew (by omega) (ai.wi hw),oB,
  show (Sl.nil:Sl Z7)=bu [] from rfl,show (Sl.nil:Sl Z9)=bu [] from rfl,EA b _ _ _ _ _ _ t.ay.l [] (fun x hx=>⟨by have:=Sl.cC (f:=Z7.sz) hx; omega,(ai.tD hw).2.2 x hx⟩) (by simp; omega),oB]
 simp only [Ab.on];rw [EB b _ _ _ _ _ _ t.aJ.l [] (fun x hx=>⟨by have:=Sl.cC (f:=Z9.sz) hx; omega,(ai.we hw).2.2 x hx⟩) (by simp; omega),oB];rfl
def dr (l:List Z7):List Bs:=l.flatMap fun f=>f.aA.aa::f.aF.l.map fun a=>a.aA.aa
def gz (d:aj) (t:ai) (n:Bs):List Bs:=dr t.ay.l++(t.aM.l.map (fun a=>a.aA.aa)++((if t.ar=3 then t.aJ.l.map Z9.aa else [])++(t.aW.l++(if t.ar=2 then(d.an.l.filter fun x=>x.aW.l.contains n).map ai.aa else []))))
def dx (d:aj) (n:Bs):Bool:=(aX d.an.l n).2
def sc (d:aj) (n:Bs):List Bs:=gz d (aX d.an.l n).1 n
inductive Rc (d:aj):Bs->Bs->Prop where
 | refl (n:Bs):Rc d n n
 | step {a b c:Bs}(h:Rc d a b) (hb:dx d b=true) (hc:c∈sc d b):Rc d a c
theorem Rc.trans {d:aj}{a b c:Bs}(h:Rc d a b) (f:Rc d b c):Rc d a c:=by
 induction f with
 | refl=>exact h
 | step _ hb hc g=>exact .step g hb hc
def d_ (k:Bs->aj->List Bs->Option (List Bs)) (d:aj):List Bs->List Bs->Option (List Bs)
 | [],s=>some s
 | y::r,s=>(k y d s).bind fun s=>d_ k d r s
theorem zM (k:Bs->aj->List Bs->Option (List Bs)) (d:aj):∀(a b s:List Bs),d_ k d (a++b) s=(d_ k d a s).bind fun s=>d_ k d b s
 | [],_,_=>rfl
 | y::r,b,s=>by
  show (k y d s).bind (fun s=>d_ k d (r++b) s)=((k y d s).bind fun s=>d_ k d r s).bind _;cases k y d s with
  | none=>rfl
  | some z=>exact zM k d r b z
theorem EC (k:Bs->aj->List Bs->Option (List Bs)) (d:aj):∀(l:List Z8) (s:List Bs),mD d k l s=d_ k d (l.map fun a=>a.aA.aa) s
 | [],_=>rfl
 | x::l,s=>by
  rw [mD,List.map_cons,d_];simp only [Ab.on,EC k d l]
theorem ED (k:Bs->aj->List Bs->Option (List Bs)) (d:aj):∀(l:List Z8) (s:List Bs),lm d k l s=d_ k d (l.map fun a=>a.aA.aa) s
 | [],_=>rfl
 | x::l,s=>by
  rw [lm,List.map_cons,d_];simp only [Ab.on,ED k d l]
theorem EE (k:Bs->aj->List Bs->Option (List Bs)) (d:aj):∀(l:List Z7) (s:List Bs),lg d k l s=d_ k d (dr l) s
 | [],_=>rfl
 | x::l,s=>by
  rw [lg];simp only [Ab.on,EE k d l,EC];rw [show dr (x::l)=x.aA.aa::(x.aF.l.map (fun a=>a.aA.aa)++dr l) from by simp [dr],d_];simp only [zM]
theorem EF (k:Bs->aj->List Bs->Option (List Bs)) (d:aj) (b:ai×Bool):∀(l:List Z9) (s:List Bs),iN d b k l s=d_ k d (if b.1.ar=3 then l.map Z9.aa else []) s
 | [],s=>by rw [iN]; split<;>rfl
 | x::l,s=>by
  rw [iN];simp only [Ab.on,EF k d b l];by_cases h:b.1.ar=3
  ·simp only [h,decide_true,cond_true,if_true,List.map_cons,d_];cases k x.aa d s<;>rfl
  ·simp only [h,decide_false,cond_false,if_false,oB]
theorem EG (k:Bs->aj->List Bs->Option (List Bs)) (d:aj):∀(l s:List Bs),jF d k l s=d_ k d l s
 | [],_=>rfl
 | x::l,s=>by
  rw [jF,d_];simp only [Ab.on,EG k d l]
theorem EH (k:Bs->aj->List Bs->Option (List Bs)) (d:aj) (n:Bs) (b:ai×Bool):∀(l:List ai) (s:List Bs),gw n d b k l s=d_ k d (if b.1.ar=2 then(l.filter fun x=>x.aW.l.contains n).map ai.aa else []) s
 | [],s=>by rw [gw]; split<;>rfl
 | x::l,s=>by
  rw [gw];simp only [Ab.on,EH k d n b l,Ml];by_cases h:b.1.ar=2
  ·simp only [h,decide_true,cond_true,if_true,List.filter_cons,Bool.true_and];cases hc:x.aW.l.contains n
   ·simp only [cond_false,oB,if_false,Bool.false_eq_true]
   ·simp only [cond_true,if_true,List.map_cons,d_];cases k x.aa d s<;>rfl
  ·simp only [h,decide_false,cond_false,if_false,oB,Bool.false_and]
theorem MT (n:Nat) (a:Bs) (d:aj) (s:List Bs):cw (n+1) a d s=bif !dx d a||s.contains a then some s else d_ (cw n) d (sc d a) (dO s a):=by
 rw [cw];simp only [Ab.on,L4,EE,ED,EF,EG,EH,oB];unfold dx sc gz;cases (!(aX d.an.l a).2||s.contains a)
 ·simp only [cond_false,zM];cases d_ (cw n) d (dr (aX d.an.l a).1.ay.l) (dO s a) with
  | none=>rfl
  | some b =>
   simp only [oB];cases d_ (cw n) d ((aX d.an.l a).1.aM.l.map fun a=>a.aA.aa) b with
   | none=>rfl
   | some f =>
    simp only [oB];cases d_ (cw n) d (if (aX d.an.l a).1.ar=3 then(aX d.an.l a).1.aJ.l.map Z9.aa else []) f with
    | none=>rfl
    | some g =>
     simp only [oB];cases d_ (cw n) d (aX d.an.l a).1.aW.l g with
     | none=>rfl
     | some i =>
      simp only [oB];cases d_ (cw n) d _ i<;>rfl
 ·rfl
structure Dn (d:aj) (ys s s':List Bs):Prop where
 sub:∀x∈s,x∈s'
 sn:∀y∈ys,dx d y=true->y∈s'
 cl:∀x∈s',x∉s->dx d x=true/\∀y∈sc d x,dx d y=true->y∈s'
 rc:∀x∈s',x∈s\/∃y∈ys,Rc d y x
theorem Dn.comp {d:aj}{y:Bs}{r s j k:List Bs}(h1:Dn d [y] s j) (g:Dn d r j k):Dn d (y::r) s k where
 sub x hx:=g.sub x (h1.sub x hx)
 sn z f i:=by
  rcases List.mem_cons.1 f with rfl|f
  ·exact g.sub _ (h1.sn _ (.head _) i)
  ·exact g.sn z f i
 cl x hx hn:=by
  by_cases h:x∈j
  ·obtain⟨a,b⟩:=h1.cl x h hn;exact⟨a,fun y l i=>g.sub _ (b y l i)⟩
  ·exact g.cl x hx h
 rc x hx:=by
  rcases g.rc x hx with h|⟨z,f,h⟩
  ·rcases h1.rc x h with h|⟨z,f,h⟩
   ·exact .inl h
   ·rcases List.mem_cons.1 f with rfl|f
    ·exact .inr ⟨_,.head _,h⟩
    ·cases f
  ·exact .inr ⟨z,.tail _ f,h⟩
theorem u5 (l:List Bs) (s n:Bs):n∈dO l s↔n∈l\/n=s:=by
 unfold dO; split
 ·rename_i h; simp at h
  exact⟨.inl,fun h'=>h'.elim id fun e=>e▸h⟩
 ·simp
def m_ (d:aj) (s:List Bs):Nat:=(d.an.l.filter fun t=>!s.contains t.aa).length
theorem MU {d:aj}{s s':List Bs}(h:∀x∈s,x∈s'):m_ d s'<=m_ d s:=filter_le fun t _ ht=>by
 simp only [Bool.not_eq_true',List.contains_eq_mem,decide_eq_false_iff_not] at ht ⊢;exact fun b=>ht (h _ b)
theorem MV {d:aj}{n:Bs}(h:dx d n=true):∃t∈d.an.l,t.aa=n:=by
 unfold dx aX at h;cases e:d.an.l.find? (fun t=>t.aa==n) with
 | none=>rw [e] at h; cases h
 | some t =>
  have h1:=List.find?_some e;exact⟨t,List.mem_of_find?_eq_some e,beq_iff_eq.1 h1⟩
theorem MW {d:aj}{s:List Bs}{n:Bs}(h:dx d n=true) (hn:s.contains n=false):m_ d (dO s n)<m_ d s:=by
 obtain⟨t,ht,rfl⟩:=MV h;refine filter_lt (fun x _ hx=>?_) ht ?_ ?_
 ·rw [Bl] at hx;cases hc:s.contains x.aa
  ·rfl
  ·rw [hc] at hx; cases hx
 ·rw [Bl]; simp
 ·rw [hn]; rfl
theorem zN {d:aj}{n:Nat}(hn:∀(a:Bs) (s:List Bs),m_ d s<n->∃s',cw n a d s=some s'/\Dn d [a] s s'):∀(ys s:List Bs),m_ d s<n->∃s',d_ (cw n) d ys s=some s'/\Dn d ys s s'
 | [],s,_=>⟨s,rfl,fun _ h=>h,fun _ h=>(by cases h),fun _ h b=>absurd h b,fun _ h=>.inl h⟩
 | y::r,s,h=>by
  obtain⟨f,g,d1⟩:=hn y s h;obtain⟨i,j,d2⟩:=zN hn r f (Nat.lt_of_le_of_lt (MU d1.sub) h);exact⟨i,by rw [d_,g]; exact j,d1.comp d2⟩
theorem EI {d:aj}:∀(n:Nat) (a:Bs) (s:List Bs),m_ d s<n->∃s',cw n a d s=some s'/\Dn d [a] s s'
 | 0,_,_,h=>by omega
 | n+1,a,s,h=>by
  rw [MT];cases g:dx d a
  ·refine⟨s,rfl,fun _ h=>h,fun y b i=>?_,fun _ h f=>absurd h f,fun _ h=>.inl h⟩;rcases List.mem_cons.1 b with rfl|b
   ·rw [g] at i; cases i
   ·cases b
  ·cases hc:s.contains a
   ·have aT:=MW g hc;obtain⟨s',e,D⟩:=zN (d:=d) (n:=n) (EI n) (sc d a) (dO s a) (by omega);refine⟨s',e,fun x hx=>D.sub x ((u5 s a x).2 (.inl hx)),fun y b _=>?_,fun x hx j=>?_,fun x hx=>?_⟩
    ·rcases List.mem_cons.1 b with rfl|b
     ·exact D.sub _ ((u5 s _ _).2 (.inr rfl))
     ·cases b
    ·by_cases h1:x∈dO s a
     ·rcases (u5 s a x).1 h1 with f|rfl
      ·exact absurd f j
      ·exact⟨g,fun y b i=>D.sn y b i⟩
     ·exact D.cl x hx h1
    ·rcases D.rc x hx with h1|⟨y,b,h1⟩
     ·rcases (u5 s a x).1 h1 with f|rfl
      ·exact .inl f
      ·exact .inr ⟨_,.head _,.refl _⟩
     ·exact .inr ⟨a,.head _,(Rc.step (.refl a) g b).trans h1⟩
   ·refine⟨s,rfl,fun _ h=>h,fun y b _=>?_,fun _ h f=>absurd h f,fun _ h=>.inl h⟩;rcases List.mem_cons.1 b with rfl|b
    ·simpa using hc
    ·cases b
def iU:List Bs:=[([81,117,101,114,121]:Bs),([77,117,116,97,116,105,111,110]:Bs),([83,117,98,115,99,114,105,112,116,105,111,110]:Bs)]
def Rd (d:aj) (n:Bs):Prop:=∃r∈iU,Rc d r n
theorem Dn.is {d:aj}{s:List Bs}(h:Dn d iU [] s){n:Bs}(hn:dx d n=true):n∈s↔Rd d n:=by
 constructor
 ·intro hx;rcases h.rc n hx with h1|h1
  ·cases h1
  ·exact h1
 ·rintro ⟨r,hr,hc⟩;have key:∀{m:Bs},Rc d r m->dx d m=true->m∈s:=by
   intro m hm;induction hm with
   | refl=>exact fun h1=>h.sn r hr h1
   | step _ hb hc b=>exact fun h1=>(h.cl _ (b hb) (by simp)).2 _ hc h1
  exact key hc hn
end Go.Proofs
namespace Go.Proofs
open Go Go.Ab
open Classical in
noncomputable def kg (d:aj) (n:Bs):Bool:=decide (Rd d n)
theorem nc {d:aj}{n:Bs}:kg d n=true↔Rd d n:=by unfold kg; exact @decide_eq_true_iff _ (Classical.propDecidable _)
noncomputable def gA (d:aj):List ai:=d.an.l.filter fun t=>kg d t.aa
theorem zO {d:aj}(f:∀t∈d.an.l,t.sz<=1048576/\t.wf) (hl:d.an.l.length<=1048576) (y:List Bs):∀(n s:Nat) (acc:List ai),s<=d.an.l.length->d.an.l.length<s+n->acc.length<=s ->
  mE d y n s (aj.mk (bu acc))=some (aj.mk (bu (acc++((d.an.l.drop s).filter fun t=>y.contains t.aa).map bD)))
 | 0,s,_,_,h,_=>by omega
 | n+1,s,acc,h1,i,j=>by
  rw [mE];by_cases g:s<d.an.l.length
  ·rw [dT (by omega),cond_true,List.getElem?_eq_getElem g,oB,List.drop_eq_getElem_cons g,List.filter_cons];unfold rR;cases hc:y.contains d.an.l[s].aa
   ·simp only [cond_false,if_false,Bool.false_eq_true];exact zO f hl y n (s+1) acc (by omega) (by omega) (by omega)
   ·simp only [cond_true,if_true];obtain⟨a,b⟩:=f _ (List.getElem_mem g);rw [Km,show Z3.mk (Sl.nil:Sl Bs) (Sl.nil:Sl Bs)=oE from rfl,MS a b,oB,mZ (by omega) (by omega),oB,zO f hl y n (s+1) _ (by omega) (by omega) (by simp; omega),List.map_cons,List.append_assoc]; rfl
  ·rw [dF (by omega),cond_false,List.drop_of_length_le (by omega)];unfold uJ;simp
theorem zP {α:Type}{p q:α->Bool}:∀{l:List α},(∀x∈l,p x=q x)->l.filter p=l.filter q
 | [],_=>rfl
 | x::l,h=>by rw [List.filter_cons,List.filter_cons,h x (.head _),zP fun y b=>h y (.tail _ b)]
theorem MX {d:aj}{t:ai}(h:t∈d.an.l):dx d t.aa=true:=by
 unfold dx aX;cases e:d.an.l.find? (fun x=>x.aa==t.aa) with
 | none=>have:=List.find?_eq_none.1 e t h; simp at this
 | some x=>rfl
theorem EJ {d:aj}(o:d.sz<=1048576) (hw:d.wf):ou d=some (aj.mk (bu ((gA d).map bD))):=by
 have h1:=d.bl;have p:=Sl.ck (f:=ai.sz) d.an ai.pos;have b:∀t∈d.an.l,t.sz<=1048576/\t.wf:=fun t ht=>⟨by have:=Sl.cC (f:=ai.sz) ht; omega,(aj.tE hw).2.2 t ht⟩;obtain⟨s,e,D⟩:=zN (d:=d) (n:=F0) (EI F0) iU [] (by
  have:m_ d []<=d.an.l.length:=List.length_filter_le _ _;rw [fe]; omega)
 have e:((rQ _ d []).bind fun s=>(rQ _ d s).bind fun s=>(rQ _ d s).bind fun s=>some s)=some s:=e;obtain⟨q,g,e⟩:=aZ e;obtain⟨r,i,e⟩:=aZ e;obtain⟨u,j,e⟩:=aZ e;cases e;unfold ou qh;have i0:cI iU 0=some _:=rfl;have i1:cI iU 1=some _:=rfl;have i2:cI iU 2=some _:=rfl;unfold iU at i0 i1 i2;obtain⟨m,hm⟩:∃m,F0=m+1+1+1+1:=⟨F0-4,by rw [fe]⟩;rw [hm]
 rw [mF,show decide ((0:Int)<3)=true from rfl,cond_true,i0,oB,g,oB,show cA 0 1=some 1 from rfl,oB];rw [mF,show decide ((1:Int)<3)=true from rfl,cond_true,i1,oB,i,oB,show cA 1 1=some 2 from rfl,oB];rw [mF,show decide ((2:Int)<3)=true from rfl,cond_true,i2,oB,j,oB,show cA 2 1=some 3 from rfl,oB]
 rw [mF,show decide ((3:Int)<3)=false from rfl,cond_false];unfold uK;rw [show aj.zero=aj.mk (bu []) from rfl,zO b (by omega) s _ 0 [] (by omega) (by omega) (by simp),List.drop_zero,List.nil_append];unfold gA;have k:d.an.l.filter (fun t=>s.contains t.aa)=d.an.l.filter (fun t=>kg d t.aa):=zP fun t ht=>by
  rw [Bool.eq_iff_iff,nc,List.contains_iff_mem];exact D.is (MX ht)
 rw [k]
theorem EK (n:Bs):∀l:List Bs,(match lC n l with|.inl _=>false|.inr e=>e)=l.contains n
 | []=>rfl
 | x::l=>by
  rw [lC,List.contains_cons];simp only [Ab.on];rw [show (n==x)=(x==n) from Bool.beq_comm];cases x==n
  ·simp only [cond_false,Bool.false_or]; exact EK n l
  ·rfl
theorem zQ (s:Sl Bs) (n:Bs):oz s n=s.l.contains n:=by
 unfold oz;simp only [Ab.on];rw [<- EK n s.l];cases lC n s.l<;>rfl
theorem oF {s r:Sl Bs}(h:s.l.length+r.l.length<=1000000000):aQ 16 s r=some ⟨s.nl&&r.l.isEmpty,s.l++r.l⟩:=fq (by decide) (by omega)
theorem EL (f:Z7):∀(l:List Z8) (s:Sl Bs),s.l.length+l.length<=1000000000->∃nl,mM f l s=some ⟨nl,s.l++l.map fun a=>a.aA.aa⟩
 | [],s,_=>⟨s.nl,by rw [mM]; simp⟩
 | x::l,s,h=>by
  rw [List.length_cons] at h;rw [mM];simp only [Ab.on];rw [oF (by simp; omega),oB];obtain⟨nl,e⟩:=EL f l ⟨s.nl&&[x.aA.aa].isEmpty,s.l++[x.aA.aa]⟩ (by simp; omega);exact⟨nl,by rw [e]; simp⟩
theorem EM:∀(l:List Z7) (s:Sl Bs),s.l.length+(dr l).length<=1000000000->∃nl,mN l s=some ⟨nl,s.l++dr l⟩
 | [],s,_=>⟨s.nl,by rw [mN]; simp [dr]⟩
 | x::l,s,h=>by
  have b:dr (x::l)=x.aA.aa::(x.aF.l.map (fun a=>a.aA.aa)++dr l):=by simp [dr]
  rw [b,List.length_cons,List.length_append,List.length_map] at h;rw [mN];simp only [Ab.on];rw [oF (by simp; omega),oB];obtain⟨f,g⟩:=EL x x.aF.l ⟨s.nl&&[x.aA.aa].isEmpty,s.l++[x.aA.aa]⟩ (by simp; omega);rw [g,oB];obtain⟨nl,e⟩:=EM l ⟨f,s.l++[x.aA.aa]++x.aF.l.map fun a=>a.aA.aa⟩ (by simp; omega);exact⟨nl,by rw [e,b]; simp⟩
theorem EN:∀(l:List Z8) (s:Sl Bs),s.l.length+l.length<=1000000000->∃nl,mQ l s=some ⟨nl,s.l++l.map fun a=>a.aA.aa⟩
 | [],s,_=>⟨s.nl,by rw [mQ]; simp⟩
 | x::l,s,h=>by
  rw [List.length_cons] at h;rw [mQ];simp only [Ab.on];rw [oF (by simp; omega),oB];obtain⟨nl,e⟩:=EN l ⟨s.nl&&[x.aA.aa].isEmpty,s.l++[x.aA.aa]⟩ (by simp; omega);exact⟨nl,by rw [e]; simp⟩
theorem EO (t:ai):∀(l:List Z9) (s:Sl Bs),s.l.length+l.length<=1000000000->∃nl,mR t l s=some ⟨nl,s.l++(if t.ar=3 then l.map Z9.aa else [])⟩
 | [],s,_=>⟨s.nl,by rw [mR]; split<;>simp⟩
 | x::l,s,h=>by
  rw [List.length_cons] at h;rw [mR];by_cases hk:t.ar=3
  ·simp only [Ab.on,hk,decide_true,cond_true,if_true];rw [oF (by simp; omega),oB];obtain⟨nl,e⟩:=EO t l ⟨s.nl&&[x.aa].isEmpty,s.l++[x.aa]⟩ (by simp; omega);exact⟨nl,by rw [e]; simp [hk]⟩
  ·simp only [hk,decide_false,cond_false,if_false];exact⟨s.nl,by simp⟩
theorem zR (t:ai):∀(l:List ai) (s:Sl Bs),s.l.length+l.length<=1000000000->∃nl,mS t l s=some ⟨nl,s.l++(if t.ar=2 then(l.filter fun x=>x.aW.l.contains t.aa).map ai.aa else [])⟩
 | [],s,_=>⟨s.nl,by rw [mS]; split<;>simp⟩
 | x::l,s,h=>by
  rw [List.length_cons] at h;rw [mS];by_cases hk:t.ar=2
  ·simp only [Ab.on,hk,decide_true,cond_true,if_true,zQ,List.filter_cons];cases hc:x.aW.l.contains t.aa
   ·simp only [cond_false,oB,if_false,Bool.false_eq_true];obtain⟨nl,e⟩:=zR t l s (by omega);exact⟨nl,by rw [e]; simp [hk]⟩
   ·simp only [cond_true];rw [oF (by simp; omega),oB,oB];obtain⟨nl,e⟩:=zR t l ⟨s.nl&&[x.aa].isEmpty,s.l++[x.aa]⟩ (by simp; omega);exact⟨nl,by rw [e]; simp [hk]⟩
  ·simp only [hk,decide_false,cond_false,if_false];exact⟨s.nl,by simp⟩
def fI (l:List Bs):List Bs->List Bs
 | []=>l
 | x::r=>fI (if l.contains x then l else l++[x]) r
theorem zS:∀(l:List Bs) (s:Sl Bs),s.l.length+l.length<=1000000000->∃nl,mU l s=some ⟨nl,fI s.l l⟩
 | [],s,_=>⟨s.nl,by rw [mU]; rfl⟩
 | x::l,s,h=>by
  rw [List.length_cons] at h;rw [mU,fI];simp only [Ab.on,zQ];cases s.l.contains x
  ·simp only [Bool.not_false,cond_true,if_false,Bool.false_eq_true];rw [oF (by simp; omega),oB,oB];exact zS l ⟨s.nl&&[x].isEmpty,s.l++[x]⟩ (by simp; omega)
  ·simp only [Bool.not_true,cond_false,oB,if_true];exact zS l s (by omega)
theorem zT:∀l:List Z7,(dr l).length<=(l.map Z7.sz).sum
 | []=>by simp [dr]
 | x::l=>by
  have:=zT l;have h1:=x.bl;have b:=Sl.ck (f:=Z8.sz) x.aF Z8.pos;have g:Sl.sz Z8.sz x.aF=1+(x.aF.l.map Z8.sz).sum:=rfl;have i:=Bs.fO x.aa;rw [show dr (x::l)=x.aA.aa::(x.aF.l.map (fun a=>a.aA.aa)++dr l) from by simp [dr]];simp only [List.length_cons,List.length_append,List.length_map,List.map_cons,List.sum_cons];omega
theorem MY {d:aj}{t:ai}(ht:t.sz<=1048576) (hl:d.an.l.length<=1048576){l:Sl Bs}(h:l.l.length<=10000000):∃nl,qB d t l=some ⟨nl,fI l.l (gz d t t.aa)⟩:=by
 have h1:=t.bl;have r:Sl.sz Z7.sz t.ay=1+(t.ay.l.map Z7.sz).sum:=rfl;have s:=zT t.ay.l;have u:=Sl.ck (f:=Z8.sz) t.aM Z8.pos;have v:=Sl.ck (f:=Z9.sz) t.aJ Z9.pos;have w:=Sl.ck (f:=Bs.sz) t.aW (fun x=>Bs.fO x);have hm:((if t.ar=3 then t.aJ.l.map Z9.aa else []):List Bs).length<=t.aJ.l.length:=by split<;>simp
 have hi:((if t.ar=2 then(d.an.l.filter fun x=>x.aW.l.contains t.aa).map ai.aa else []):List Bs).length<=d.an.l.length:=by
  split
  ·rw [List.length_map]; exact List.length_filter_le _ _
  ·simp
 rw [Lo];unfold zl;obtain⟨b,g⟩:=EM t.ay.l (Sl.nil:Sl Bs) (by simp [Sl.nil]; omega);rw [g,oB];simp only [Ab.on];obtain⟨i,j⟩:=EN t.aM.l ⟨b,(Sl.nil:Sl Bs).l++dr t.ay.l⟩ (by simp [Sl.nil]; omega);rw [j,oB];obtain⟨k,m⟩:=EO t t.aJ.l ⟨i,(Sl.nil:Sl Bs).l++dr t.ay.l++t.aM.l.map fun a=>a.aA.aa⟩ (by simp [Sl.nil]; omega)
 rw [m,oB,oF (by simp [Sl.nil]; omega),oB];obtain⟨y,o⟩:=zR t d.an.l ⟨k&&t.aW.l.isEmpty,(Sl.nil:Sl Bs).l++dr t.ay.l++(t.aM.l.map fun a=>a.aA.aa)++(if t.ar=3 then t.aJ.l.map Z9.aa else [])++t.aW.l⟩ (by simp [Sl.nil]; omega);rw [o,oB];obtain⟨p,q⟩:=zS (gz d t t.aa) l (by unfold gz; simp only [List.length_append,List.length_map] at *; omega)
 refine⟨p, ?_⟩;rw [show (Sl.nil:Sl Bs).l++dr t.ay.l++(t.aM.l.map fun a=>a.aA.aa)++(if t.ar=3 then t.aJ.l.map Z9.aa else [])++t.aW.l++(if t.ar=2 then(d.an.l.filter fun x=>x.aW.l.contains t.aa).map ai.aa else [])=gz d t t.aa from by unfold gz; simp [Sl.nil],q];rfl
end Go.Proofs
namespace Go.Proofs
open Go Go.Ab
theorem qI:∀(r l:List Bs) (x:Bs),x∈fI l r↔x∈l\/x∈r
 | [],l,x=>by simp [fI]
 | y::r,l,x=>by
  rw [fI,qI r]
  split
  ·rename_i h
   have h:y∈l:=by simpa using h
   constructor
   ·rintro (h1|h1)
    ·exact .inl h1
    ·exact .inr (.tail _ h1)
   ·rintro (h1|h1)
    ·exact .inl h1
    ·rcases List.mem_cons.1 h1 with rfl|h1
     ·exact .inl h
     ·exact .inr h1
  ·simp only [List.mem_append,List.mem_cons,List.not_mem_nil,or_false];constructor
   ·rintro ((h1|h1)|h1)
    ·exact .inl h1
    ·exact .inr (.inl h1)
    ·exact .inr (.inr h1)
   ·rintro (h1|h1|h1)
    ·exact .inl (.inl h1)
    ·exact .inl (.inr h1)
    ·exact .inr h1
theorem EP:∀(r l:List Bs),l.Nodup->(fI l r).Nodup
 | [],l,h=>h
 | y::r,l,h=>by
  rw [fI];refine EP r _ ?_
  split
  ·exact h
  ·rename_i hc
   have hc:y∉l:=by simpa using hc
   rw [List.nodup_append];exact⟨h,by simp,fun a f b hb=>by rw [List.mem_singleton.1 hb]; rintro rfl; exact hc f⟩
theorem EQ:∀(r l:List Bs) (j:Nat) (x:Bs),l[j]?=some x->(fI l r)[j]?=some x
 | [],_,_,_,h=>h
 | y::r,l,j,x,h=>by
  rw [fI];refine EQ r _ j x ?_
  split
  ·exact h
  ·rw [List.getElem?_append_left (by have:=List.getElem?_eq_some_iff.1 h; exact this.1)]; exact h
theorem ER:∀(r l:List Bs),l.length<=(fI l r).length
 | [],_=>Nat.le_refl _
 | y::r,l=>by
  rw [fI];have:=ER r (if l.contains y then l else l++[y]);refine Nat.le_trans ?_ this
  split<;>simp
def jJ (t:ai):List Bs:=t.aa::(dr t.ay.l++(t.aM.l.map (fun a=>a.aA.aa)++(t.aJ.l.map Z9.aa++t.aW.l)))
def ng (d:aj):List Bs:=iU++d.an.l.flatMap jJ
theorem MZ (t:ai):(jJ t).length<=t.sz:=by
 have h1:=t.bl;have b:Sl.sz Z7.sz t.ay=1+(t.ay.l.map Z7.sz).sum:=rfl;have g:=zT t.ay.l;have i:=Sl.ck (f:=Z8.sz) t.aM Z8.pos;have j:=Sl.ck (f:=Z9.sz) t.aJ Z9.pos;have k:=Sl.ck (f:=Bs.sz) t.aW (fun x=>Bs.fO x);unfold jJ;simp only [List.length_cons,List.length_append,List.length_map];omega
theorem ES (d:aj):(ng d).length<=3+d.sz:=by
 have key:∀l:List ai,(l.flatMap jJ).length<=(l.map ai.sz).sum:=by
  intro l;induction l with
  | nil=>simp
  | cons a r b =>
   have:=MZ a;simp only [List.flatMap_cons,List.length_append,List.map_cons,List.sum_cons]; omega
 have h1:=d.bl;have f:Sl.sz ai.sz d.an=1+(d.an.l.map ai.sz).sum:=rfl;have:=key d.an.l;unfold ng iU;simp only [List.length_append,List.length_cons,List.length_nil];omega
theorem u6 {d:aj}{n:Bs}(h:dx d n=true):(aX d.an.l n).1∈d.an.l/\(aX d.an.l n).1.aa=n:=by
 unfold dx aX at h;unfold aX;cases e:d.an.l.find? (fun t=>t.aa==n) with
 | none=>rw [e] at h; cases h
 | some t =>
  have h1:=List.find?_some e;exact⟨List.mem_of_find?_eq_some e,beq_iff_eq.1 h1⟩
theorem M0 {d:aj}{n:Bs}(h:dx d n=true){y:Bs}(b:y∈sc d n):y∈ng d:=by
 obtain⟨ht,_⟩:=u6 h;unfold sc gz at b;unfold ng;refine List.mem_append.2 (.inr ?_);have one:∀t∈d.an.l,∀y∈jJ t,y∈d.an.l.flatMap jJ:=fun t ht y b=>List.mem_flatMap.2 ⟨t,ht,b⟩;rcases List.mem_append.1 b with b|b
 ·exact one _ ht _ (by unfold jJ; exact .tail _ (List.mem_append.2 (.inl b)))
 rcases List.mem_append.1 b with b|b
 ·exact one _ ht _ (by unfold jJ; exact .tail _ (List.mem_append.2 (.inr (List.mem_append.2 (.inl b)))))
 rcases List.mem_append.1 b with b|b
 ·split at b
  ·exact one _ ht _ (by unfold jJ; exact .tail _ (List.mem_append.2 (.inr (List.mem_append.2 (.inr (List.mem_append.2 (.inl b)))))))
  ·cases b
 rcases List.mem_append.1 b with b|b
 ·exact one _ ht _ (by unfold jJ; exact .tail _ (List.mem_append.2 (.inr (List.mem_append.2 (.inr (List.mem_append.2 (.inr b)))))))
 ·split at b
  ·obtain⟨x,hx,rfl⟩:=List.mem_map.1 b;exact one x (List.mem_filter.1 hx).1 _ (by unfold jJ; exact .head _)
  ·cases b
structure Wl (d:aj) (l:List Bs) (i:Nat):Prop where
 nd:l.Nodup
 un:∀x∈l,x∈ng d
 rt:∀r∈iU,r∈l
 rc:∀x∈l,Rd d x
 cl:∀j,j<i->∀x,l[j]?=some x->dx d x=true->∀y∈sc d x,y∈l
theorem M1 {d:aj}{l:List Bs}{i:Nat}{x:Bs}(h:Wl d l i) (hx:l[i]?=some x) (f:dx d x=true):Wl d (fI l (sc d x)) (i+1) where
 nd:=EP _ _ h.nd
 un y b:=by
  rcases (qI _ _ _).1 b with h1|h1
  ·exact h.un y h1
  ·exact M0 f h1
 rt r hr:=(qI _ _ _).2 (.inl (h.rt r hr))
 rc y b:=by
  rcases (qI _ _ _).1 b with h1|h1
  ·exact h.rc y h1
  ·obtain⟨r,hr,hc⟩:=h.rc x (List.mem_of_getElem? hx);exact⟨r,hr,.step hc f h1⟩
 cl j k z g m y b:=by
  have aT:j<l.length:=by
   have:=(List.getElem?_eq_some_iff.1 hx).1;omega
  have e:=EQ (sc d x) l j _ (List.getElem?_eq_getElem aT);rw [e] at g;obtain rfl:=oJ g;rcases Nat.lt_succ_iff_lt_or_eq.1 k with h1|rfl
  ·exact(qI _ _ _).2 (.inl (h.cl j h1 _ (List.getElem?_eq_getElem aT) m y b))
  ·rw [List.getElem?_eq_getElem aT] at hx;obtain rfl:=oJ hx;exact(qI _ _ _).2 (.inr b)
theorem M2 {d:aj}{l:List Bs}{i:Nat}{x:Bs}(h:Wl d l i) (hx:l[i]?=some x) (g:dx d x=false):Wl d l (i+1) where
 nd:=h.nd
 un:=h.un
 rt:=h.rt
 rc:=h.rc
 cl j k z b f y m:=by
  rcases Nat.lt_succ_iff_lt_or_eq.1 k with h1|rfl
  ·exact h.cl j h1 z b f y m
  ·rw [hx] at b; obtain rfl:=oJ b; rw [g] at f; cases f
theorem Wl.is {d:aj}{l:List Bs}{i:Nat}(h:Wl d l i) (hi:l.length<=i){n:Bs}:n∈l↔Rd d n:=by
 constructor
 ·exact h.rc n
 ·rintro ⟨r,hr,hc⟩;induction hc with
  | refl=>exact h.rt r hr
  | @step b c _ hb hc f =>
   obtain⟨j,g,e⟩:=List.mem_iff_getElem.1 f;exact h.cl j (by omega) b (by rw [List.getElem?_eq_getElem g,e]) hb c hc
theorem zU {d:aj}(g:∀t∈d.an.l,t.sz<=1048576) (j:d.sz<=1048576):∀(n i:Nat) (l:Sl Bs),Wl d l.l i->i<=l.l.length->(ng d).length<i+n->∃L:Sl Bs,(∀x,x∈L.l↔Rd d x)/\lG d n l i=qC d L
 | 0,i,l,h,hi,hn=>by
  have:=uV l.l (ng d) h.nd h.un;omega
 | n+1,i,l,h,hi,hn=>by
  have hlen:=uV l.l (ng d) h.nd h.un;have hu:=ES d;have h1:=d.bl;have k:=Sl.ck (f:=ai.sz) d.an ai.pos;rw [lG];by_cases aT:i<l.l.length
  ·rw [dT (by omega),cond_true,List.getElem?_eq_getElem aT,oB];have hx:l.l[i]?=some l.l[i]:=List.getElem?_eq_getElem aT;rw [show ph d l.l[i]=some (cU d l.l[i]) from by rw [iy],oB,h_];unfold rY;cases b:dx d l.l[i]
   ·rw [show (aX d.an.l l.l[i]).2=false from b,cond_false];exact zU g j n (i+1) l (M2 h hx b) (by omega) (by omega)
   ·rw [show (aX d.an.l l.l[i]).2=true from b,cond_true];obtain⟨g1,g2⟩:=u6 b;obtain⟨nl,e⟩:=MY (d:=d) (t:=(aX d.an.l l.l[i]).1) (g _ g1) (by omega) (l:=l) (by omega);rw [e,oB];have hw:Wl d (fI l.l (sc d l.l[i])) (i+1):=M1 h hx b;have es:gz d (aX d.an.l l.l[i]).1 (aX d.an.l l.l[i]).1.aa=sc d l.l[i]:=by rw [g2]; rfl
    rw [es];exact zU g j n (i+1) ⟨nl,fI l.l (sc d l.l[i])⟩ hw (by have:=ER (sc d l.l[i]) l.l; show i+1<=(fI l.l (sc d l.l[i])).length; omega) (by omega)
  ·rw [dF (by omega),cond_false];exact⟨l,fun x=>h.is (by omega),rfl⟩
theorem zV {d:aj}(hl:d.an.l.length<=1048576) (L:Sl Bs):∀(n s:Nat) (acc:List ai),s<=d.an.l.length->d.an.l.length<s+n->acc.length<=s ->
  mV d L n s (aj.mk (bu acc))=some (aj.mk (bu (acc++(d.an.l.drop s).filter fun t=>L.l.contains t.aa)))
 | 0,s,_,_,h,_=>by omega
 | n+1,s,acc,h1,f,g=>by
  rw [mV];by_cases b:s<d.an.l.length
  ·rw [dT (by omega),cond_true,List.getElem?_eq_getElem b,oB,List.drop_eq_getElem_cons b,List.filter_cons,zj,oB,zQ];unfold rX;cases hc:L.l.contains d.an.l[s].aa
   ·simp only [cond_false,if_false,Bool.false_eq_true];exact zV hl L n (s+1) acc (by omega) (by omega) (by omega)
   ·simp only [cond_true,if_true,oB];rw [mZ (by omega) (by omega),oB,zV hl L n (s+1) _ (by omega) (by omega) (by simp; omega),List.append_assoc]; rfl
  ·rw [dF (by omega),cond_false,List.drop_of_length_le (by omega)];unfold uR;simp
theorem M3 {d:aj}(b:d.sz<=1048576):r4 d=some (aj.mk (bu (gA d))):=by
 have h1:=d.bl;have m:=Sl.ck (f:=ai.sz) d.an ai.pos;have g:∀t∈d.an.l,t.sz<=1048576:=fun t ht=>by have:=Sl.cC (f:=ai.sz) ht; omega
 have hu:=ES d;unfold r4 rZ;obtain⟨L,i,e⟩:=zU g b F0 0 (⟨false,iU⟩:Sl Bs) ⟨by decide,fun x hx=>List.mem_append.2 (.inl hx),fun _ h=>h,fun x hx=>⟨x,hx,.refl x⟩,fun j o=>by omega⟩ (by omega) (by rw [fe]; omega);have e:lG d F0 (⟨false,[([81,117,101,114,121]:Bs),([77,117,116,97,116,105,111,110]:Bs),([83,117,98,115,99,114,105,112,116,105,111,110]:Bs)]⟩:Sl Bs) 0=qC d L:=e
 rw [e];unfold qC;rw [show aj.zero=aj.mk (bu []) from rfl,zV (by omega) L _ 0 [] (by omega) (by omega) (by simp),List.drop_zero,List.nil_append];unfold gA;have k:d.an.l.filter (fun t=>L.l.contains t.aa)=d.an.l.filter (fun t=>kg d t.aa):=zP fun t _=>by
  rw [Bool.eq_iff_iff,nc,List.contains_iff_mem];exact i t.aa
 rw [k]
theorem nh {α:Type}{l r:List α}{i:Nat}{x:α}(h:l.drop i=x::r):l.drop (i+1)=r/\l[i]?=some x:=by
 refine⟨by rw [<- List.drop_drop,h]; rfl, ?_⟩;have:=congrArg List.head? h;rw [List.head?_drop] at this;exact this
theorem zW (a:Int):ov a a=some 0:=by
 rw [KY]; unfold uL;rw [dF (by omega),cond_false]; rfl
theorem ET:∀x:Bs,Op.bytesLess x x=false
 | []=>by simp [Op.bytesLess]
 | a::x=>by rw [Op.bytesLess,ET x]; simp
theorem EU (a:Bs):qj a a=some 0:=by
 rw [KZ]; unfold uM;rw [ET,cond_false,Bool.false_or,beq_iff_eq.mpr rfl]; rfl
theorem M4 (v:ag):(cG v).aN.l=v.aN.l.map cG:=by rw [kf]; rfl
theorem M5 (v:ag) (i:Nat):∃s,lp (cG v) (i:Int)=some s/\lp v (i:Int)=some s:=by
 rw [show lp (cG v) (i:Int)=lp v (i:Int) from by rw [zc,zc]; unfold rT; rw [kf]; rfl];rw [zc]; unfold rT cI;by_cases h:i<v.a_.l.length
 ·rw [dT (by omega),cond_true,if_pos (by omega),show (i:Int).toNat=i from by omega,List.getElem?_eq_getElem h];exact⟨_,rfl,rfl⟩
 ·rw [dF (by omega),cond_false];exact⟨_,rfl,rfl⟩
theorem EV {v:ag}{k:ag->ag->Option Int}(hk:∀x∈v.aN.l,k (cG x) x=some 0) (hl:v.aN.l.length<=1048576):∀n j:Nat,j<=v.aN.l.length->v.aN.l.length<j+n->mH (cG v) v k n 0 (j:Int)=some 0
 | 0,j,_,h=>by omega
 | n+1,j,h1,g=>by
  rw [mH,show decide ((0:Int)=0)=true from rfl,cond_true,M4,List.length_map,Bool.or_self];by_cases h:j<v.aN.l.length
  ·obtain⟨s,b,f⟩:=M5 v j;rw [dF (by omega),cond_false,b,oB,f,oB,EU,oB,show decide ((0:Int)=0)=true from rfl,cond_true];unfold cI;rw [if_pos (by omega),if_pos (by omega),show (j:Int).toNat=j from by omega,List.getElem?_map,List.getElem?_eq_getElem h,Option.map_some,oB,oB,hk _ (List.getElem_mem h),oB]
   unfold rU;rw [eV (by omega),oB];exact EV hk hl n (j+1) (by omega) (by omega)
  ·rw [dT (by omega),cond_true,zW]; rfl
theorem EW:∀(n:Nat) (v:ag),v.sz<n->v.sz<=1048576->iO n (cG v) v=some 0
 | 0,_,h,_=>by omega
 | n+1,v,h,j=>by
  have k:=v.bl;have hlen:v.aN.l.length<=1048576:=by have:=Sl.ck (f:=ag.sz) v.aN (fun x=>x.pos); omega
  have b:(cG v).ar=v.ar:=by rw [kf]; rfl
  have g:(cG v).bx=v.bx:=by rw [kf]; rfl
  have i:(cG v).bw=v.bw:=by rw [kf]; rfl
  rw [iO,b,g,zW,oB,show decide ((0:Int)=0)=true from rfl,cond_true,zW,oB];unfold rW;rw [show decide ((0:Int)=0)=true from rfl,cond_true,i,EU,oB];unfold rV;exact EV (fun x hx=>EW n x (by have:=ag.j8 hx; omega) (by have:=ag.j8 hx; omega)) hlen F0 0 (by omega) (by rw [fe]; omega)
theorem EY {v:ag}(b:v.sz<=1048576):ow (cG v) v=some true:=by
 unfold ow zf;rw [EW F0 v (by rw [fe]; omega) b]; rfl
theorem EZ {x:av}(hx:∀a∈x.aF.l,a.sz<=1048576){g:Sl av}{j:Nat}(f:g.l[j]?=some x):∀(l:List bz) (i:Nat),x.aF.l.drop i=l->ox g j (ej x) (l.map iT) i=some (Sum.inl ())
 | [],_,_=>rfl
 | a::l,i,h=>by
  obtain⟨h1,b⟩:=nh h;have hm:=hx a (List.mem_of_getElem? b);have m:=a.bl;have e:(ej x).aF.l[i]?=some (iT a):=by show (x.aF.l.map iT)[i]?=_; rw [List.getElem?_map,b]; rfl
  rw [List.map_cons,ox];simp only [Ab.on];have k:((iT a).aa==a.aa)=true:=beq_iff_eq.2 rfl;rw [f,oB,b,oB];simp only [k,Bool.not_true,Bool.not_false,aU,if_true,cond_true,e,f,b,oB];rw [show (iT a).eW=cG a.eW from rfl,EY (by omega),oB];exact EZ hx f l (i+1) h1
theorem E0 {s:Sl av}(g:∀x∈s.l,x.sz<=1048576):∀(l:List av) (j:Nat),s.l.drop j=l->oy s (l.map ej) j=some (Sum.inl ())
 | [],_,_=>rfl
 | x::l,j,h=>by
  obtain⟨h1,b⟩:=nh h;have hm:=g x (List.mem_of_getElem? b);have m:=x.bl;rw [List.map_cons,oy];simp only [Ab.on];have i:((ej x).aa==x.aa)=true:=beq_iff_eq.2 rfl;have el:((ej x).aF.l.length:Int)=(x.aF.l.length:Int):=by show ((x.aF.l.map iT).length:Int)=_; rw [List.length_map]
  rw [b,oB];simp only [i,Bool.not_true,Bool.not_false,aU,if_true,cond_true,b,oB,el,decide_true,Bool.or_self,cond_false];rw [show (ej x).aF.l=x.aF.l.map iT from rfl,EZ (fun a k=>by have:=Sl.cC (f:=bz.sz) k; omega) b x.aF.l 0 rfl,oB];exact E0 g l (j+1) h1
theorem u7 {s:Sl av}(h:Sl.sz av.sz s<=1048576):mI (bu (s.l.map ej)) s=some true:=by
 unfold mI;rw [show (bu (s.l.map ej)).l=s.l.map ej from rfl,List.length_map,dT rfl,Bool.not_true,cond_false,E0 (fun x hx=>by have:=Sl.cC (f:=av.sz) hx; omega) s.l 0 rfl]; rfl
theorem E1 (a:Sl Int):∀(l:List Int) (i:Nat),a.l.drop i=l->jq a l i=some (Sum.inl ())
 | [],_,_=>rfl
 | x::l,i,h=>by
  obtain⟨h1,b⟩:=nh h;rw [jq];simp only [Ab.on];rw [b,oB,dT rfl];exact E1 a l (i+1) h1
theorem E2 (t:aG):jV t t=some true:=by
 unfold jV nQ;rw [E1 t.aK t.aK.l 0 rfl,dT rfl,beq_iff_eq.2 rfl]; rfl
theorem E3 {s:Sl Z8}(b:∀x∈s.l,x.sz<=1048576):∀(l:List Z8) (j:Nat),s.l.drop j=l->mJ s (l.map bV) j=some (Sum.inl ())
 | [],_,_=>rfl
 | x::l,j,h=>by
  obtain⟨h1,f⟩:=nh h;have hm:=b x (List.mem_of_getElem? f);have k:=x.bl;rw [List.map_cons,mJ];simp only [Ab.on];have g:((bV x).aa==x.aa)=true:=beq_iff_eq.2 rfl;have i:((bV x).cT==x.cT)=true:=beq_iff_eq.2 rfl;rw [f,oB];simp only [g,i,Bool.not_true,Bool.not_false,aU,if_true,cond_true,Bool.or_self,Bool.or_false];rw [show (bV x).aA=x.aA from rfl,E2,oB]
  simp only [Bool.not_true,Bool.not_false,if_true,Bool.or_self,Bool.or_false];rw [show (bV x).dD=cG x.dD from rfl,EY (by omega),oB];simp only [Bool.not_true,Bool.not_false,if_true,Bool.or_self,Bool.or_false];rw [show (bV x).bh=bu (x.bh.l.map ej) from rfl,u7 (by omega),oB];exact E3 b l (j+1) h1
theorem E4 {s:Sl Z8}(h:Sl.sz Z8.sz s<=1048576):lu (bu (s.l.map bV)) s=some true:=by
 unfold lu;rw [show (bu (s.l.map bV)).l=s.l.map bV from rfl,List.length_map,dT rfl,Bool.not_true,cond_false,E3 (fun x hx=>by have:=Sl.cC (f:=Z8.sz) hx; omega) s.l 0 rfl]; rfl
theorem E5 (a:Sl Bs):∀(l:List Bs) (i:Nat),a.l.drop i=l->mG a l i=some (Sum.inl ())
 | [],_,_=>rfl
 | x::l,i,h=>by
  obtain⟨h1,b⟩:=nh h;rw [mG];simp only [Ab.on];rw [b,oB,beq_iff_eq.2 rfl];exact E5 a l (i+1) h1
theorem M6 (a:Sl Bs):qi a a=some true:=by
 unfold qi;rw [dT rfl,Bool.not_true,cond_false,E5 a a.l 0 rfl]; rfl
theorem E6 {t:ai}(b:∀x∈t.ay.l,x.sz<=1048576):∀(l:List Z7) (j:Nat),t.ay.l.drop j=l->mK t (l.map cK) j=some (Sum.inl ())
 | [],_,_=>rfl
 | x::l,j,h=>by
  obtain⟨h1,f⟩:=nh h;have hm:=b x (List.mem_of_getElem? f);have i:=x.bl;rw [List.map_cons,mK];simp only [Ab.on];have g:((cK x).aa==x.aa)=true:=beq_iff_eq.2 rfl;rw [f,oB];simp only [g,Bool.not_true,Bool.not_false,aU,if_true,cond_true,Bool.or_self,Bool.or_false];rw [show (cK x).aA=x.aA from rfl,E2,oB];simp only [Bool.not_true,Bool.not_false,if_true,Bool.or_self,Bool.or_false]
  rw [show (cK x).bh=bu (x.bh.l.map ej) from rfl,u7 (by omega),oB];simp only [Bool.not_true,Bool.not_false,if_true,Bool.or_self,Bool.or_false];rw [show (cK x).aF=bu (x.aF.l.map bV) from rfl,E4 (by omega),oB];exact E6 b l (j+1) h1
theorem E7 {t:ai}(f:∀x∈t.aJ.l,x.sz<=1048576):∀(l:List Z9) (j:Nat),t.aJ.l.drop j=l->lz t (l.map eM) j=some (Sum.inl ())
 | [],_,_=>rfl
 | x::l,j,h=>by
  obtain⟨h1,b⟩:=nh h;have hm:=f x (List.mem_of_getElem? b);have i:=x.bl;rw [List.map_cons,lz];simp only [Ab.on];have g:((eM x).aa==x.aa)=true:=beq_iff_eq.2 rfl;rw [b,oB];simp only [g,Bool.not_true,Bool.not_false,aU,if_true,cond_true,Bool.or_self,Bool.or_false,b,oB];rw [show (eM x).bh=bu (x.bh.l.map ej) from rfl,u7 (by omega),oB]
  exact E7 f l (j+1) h1
theorem M7 {t:ai}(i:t.sz<=1048576):qn (bD t) t=some true:=by
 have j:=t.bl;unfold qn;have b:decide ((bD t).ar=t.ar)=true:=dT rfl;have g:((bD t).aa==t.aa)=true:=beq_iff_eq.2 rfl;simp only [b,g,Bool.not_true,Bool.not_false,aU,if_true,Bool.or_self,Bool.or_false];rw [show (bD t).aW=t.aW from rfl,M6,oB];simp only [Bool.not_true,Bool.not_false,if_true,Bool.or_self,Bool.or_false];rw [show (bD t).bh=bu (t.bh.l.map ej) from rfl,u7 (by omega),oB,
  show (bD t).ay.l=t.ay.l.map cK from rfl,show (bD t).aJ.l=t.aJ.l.map eM from rfl,List.length_map,List.length_map,dT rfl,dT rfl]
 simp only [Bool.not_true,Bool.or_self,cond_false];rw [E6 (fun x hx=>by have:=Sl.cC (f:=Z7.sz) hx; omega) t.ay.l 0 rfl,oB];simp only [Ab.on];rw [E7 (fun x hx=>by have:=Sl.cC (f:=Z9.sz) hx; omega) t.aJ.l 0 rfl,oB];simp only [show (bD t).aM=bu (t.aM.l.map bV) from rfl];rw [E4 (by omega)]; rfl
theorem E8 {p:aj}(b:∀x∈p.an.l,x.sz<=1048576):∀(l:List ai) (j:Nat),p.an.l.drop j=l->mL p (l.map bD) j=some (Sum.inl ())
 | [],_,_=>rfl
 | x::l,j,h=>by
  obtain⟨h1,f⟩:=nh h;rw [List.map_cons,mL];simp only [Ab.on];rw [f,oB,M7 (b x (List.mem_of_getElem? f)),oB,Bool.not_true,cond_false];exact E8 b l (j+1) h1
theorem E9 {l:List ai}{p:aj}(b:p.an.l=l) (f:∀x∈l,x.sz<=1048576):lB (aj.mk (bu (l.map bD))) p=some true:=by
 subst b;unfold lB;rw [show (aj.mk (bu (p.an.l.map bD))).an.l=p.an.l.map bD from rfl,List.length_map,dT rfl,Bool.not_true,cond_false,E8 f p.an.l 0 rfl]; rfl
noncomputable def cc (d:aj):aj:=aj.mk (bu ((gA d).map bD))
theorem sq (a:ai) (r:List ai) (n:Bs):aX (a::r) n=if a.aa=n then(a,true) else aX r n:=by
 unfold aX;rw [List.find?_cons];by_cases h:a.aa=n
 ·rw [beq_iff_eq.2 h,if_pos h]
 ·rw [beq_eq_false_iff_ne.2 h,if_neg h]
theorem zX {q:Bs->Bool}{n:Bs}(h:q n=true):∀l:List ai,aX ((l.filter fun t=>q t.aa).map bD) n=(bD (aX l n).1,(aX l n).2)
 | []=>rfl
 | a::r=>by
  rw [List.filter_cons,sq a r n];by_cases b:a.aa=n
  ·rw [if_pos b,b,if_pos h,List.map_cons,sq,if_pos (show (bD a).aa=n from b)]
  ·rw [if_neg b];cases hq:q a.aa
   ·rw [if_neg (by simp)]; exact zX h r
   ·rw [if_pos rfl,List.map_cons,sq,if_neg (show ¬(bD a).aa=n from b)]; exact zX h r
theorem iV {d:aj}{n:Bs}(h:Rd d n):aX (cc d).an.l n=(bD (aX d.an.l n).1,(aX d.an.l n).2):=zX (q:=kg d) (nc.2 h) d.an.l
theorem M8 {d:aj}{n:Bs}(h:Rd d n):dx (cc d) n=dx d n:=by unfold dx; rw [iV h]
theorem E_:∀l:List Z7,dr (l.map cK)=dr l
 | []=>rfl
 | x::l=>by
  show (cK x).aA.aa::((cK x).aF.l.map fun a=>a.aA.aa)++dr (l.map cK)=x.aA.aa::(x.aF.l.map fun a=>a.aA.aa)++dr l;rw [E_ l,show (cK x).aF.l=x.aF.l.map bV from rfl,List.map_map]; rfl
theorem Rd.step {d:aj}{b c:Bs}(h:Rd d b) (hb:dx d b=true) (hc:c∈sc d b):Rd d c:=by
 obtain⟨r,hr,h⟩:=h;exact⟨r,hr,.step h hb hc⟩
theorem M9 {d:aj}{n y:Bs}(h:Rd d n) (f:dx d n=true) (b:y∈sc d n):y∈sc (cc d) n:=by
 have hr:=h.step f b;unfold sc gz at b ⊢;rw [iV h];simp only [show (bD (aX d.an.l n).1).ay.l=(aX d.an.l n).1.ay.l.map cK from rfl,show (bD (aX d.an.l n).1).aM.l=(aX d.an.l n).1.aM.l.map bV from rfl,
  show (bD (aX d.an.l n).1).aJ.l=(aX d.an.l n).1.aJ.l.map eM from rfl,show (bD (aX d.an.l n).1).aW=(aX d.an.l n).1.aW from rfl,show (bD (aX d.an.l n).1).ar=(aX d.an.l n).1.ar from rfl,E_,List.map_map]
 rcases List.mem_append.1 b with b|b
 ·exact List.mem_append.2 (.inl b)
 refine List.mem_append.2 (.inr ?_);rcases List.mem_append.1 b with b|b
 ·exact List.mem_append.2 (.inl b)
 refine List.mem_append.2 (.inr ?_);rcases List.mem_append.1 b with b|b
 ·exact List.mem_append.2 (.inl b)
 refine List.mem_append.2 (.inr ?_);rcases List.mem_append.1 b with b|b
 ·exact List.mem_append.2 (.inl b)
 refine List.mem_append.2 (.inr ?_)
 split at b
 ·rename_i hk
  rw [if_pos hk];obtain⟨x,hx,rfl⟩:=List.mem_map.1 b;obtain⟨g,i⟩:=List.mem_filter.1 hx;refine List.mem_map.2 ⟨bD x,List.mem_filter.2 ⟨?_,i⟩,rfl⟩;exact List.mem_map.2 ⟨x,List.mem_filter.2 ⟨g,nc.2 hr⟩,rfl⟩
 ·cases b
theorem M_ {d:aj}{n:Bs}(h:Rd d n):Rd (cc d) n:=by
 obtain⟨r,hr,hc⟩:=h;refine⟨r,hr, ?_⟩;have key:∀{m:Bs},Rc d r m->Rc (cc d) r m:=by
  intro m hm;induction hm with
  | refl=>exact .refl _
  | @step b c g hb hc i =>
   have f:Rd d b:=⟨r,hr,g⟩;exact .step i (by rw [M8 f]; exact hb) (M9 f hb hc)
 exact key hc
theorem u9 {d:aj}{t:ai}:t∈gA d↔t∈d.an.l/\Rd d t.aa:=by
 unfold gA; rw [List.mem_filter,nc]
theorem Na (d:aj):gA (cc d)=(cc d).an.l:=by
 unfold gA;refine List.filter_eq_self.2 fun t ht=>?_;obtain⟨x,hx,rfl⟩:=List.mem_map.1 (show t∈(gA d).map bD from ht);exact nc.2 (M_ (u9.1 hx).2)
theorem Fa {α:Type}(f:α->Nat) (p:α->Bool):∀l:List α,((l.filter p).map f).sum<=(l.map f).sum
 | []=>Nat.le_refl _
 | x::l=>by
  have:=Fa f p l;rw [List.filter_cons]
  split<;>simp only [List.map_cons,List.sum_cons]<;>omega
theorem Fb (d:aj):(cc d).sz<=d.sz:=by
 rw [aj.bl,aj.bl d];show 0+(1+(((gA d).map bD).map ai.sz).sum)<=0+(1+(d.an.l.map ai.sz).sum);rw [uZ fun x _=>MM x];have:=Fa ai.sz (fun t=>kg d t.aa) d.an.l;unfold gA;omega
theorem Fc {d:aj}(h:d.wf):(cc d).wf:=by
 refine⟨Ep ?_ fun x hx=>?_,trivial⟩
 ·rw [List.length_map];exact Nat.le_trans (List.length_filter_le _ _) (aj.tE h).2.1
 ·obtain⟨t,ht,rfl⟩:=List.mem_map.1 hx;exact MQ ((aj.tE h).2.2 t (u9.1 ht).1)
theorem Nb {d:aj}(b:d.sz<=1048576) (hw:d.wf):∃r,ou d=some (cc d)/\r4 d=some r/\lB (cc d) r=some true:=by
 refine⟨_,EJ b hw,M3 b, ?_⟩;exact E9 rfl fun x hx=>by
  have:=Sl.cC (f:=ai.sz) (u9.1 hx).1;have:=d.bl;omega
theorem Nc {d:aj}(b:d.sz<=1048576) (hw:d.wf):∃r,ou (cc d)=some r/\lB r (cc d)=some true:=by
 have h1:=Fb d;refine⟨_,EJ (by omega) (Fc hw), ?_⟩;rw [Na];exact E9 rfl fun x hx=>by
  have:=Sl.cC (f:=ai.sz) hx;have:=(cc d).bl;omega
end Go.Proofs
