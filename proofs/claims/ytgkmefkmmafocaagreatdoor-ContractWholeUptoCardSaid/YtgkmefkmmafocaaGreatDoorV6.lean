import Derived.Test.YtgkmefkmmafocaaGreatDoorV5
set_option maxRecDepth 100000
set_option maxHeartbeats 2000000
set_option linter.unusedVariables false
set_option linter.unusedSimpArgs false
namespace Go.Proofs
open Go Go.Ab
open aP ar ah aS fp
variable {ax:bK}
def pX (b:Bs):List Z7->Unit ⊕ ((Z7×Bool))
 | []=>Sum.inl ()
 | g::i=>on (g) fun f=>bif ((f.aa==b)) then(Sum.inr (f,true)) else(pX b (i) )
def ua (i:aj) (b:Bs):(Z7×Bool):=on (pX b i.aB.l ) fun f=>match f with|Sum.inl _=>(on (()) fun _=>((Z7.mk ([]:Bs) (Sl.nil:Sl Z8) az.zero (Sl.nil:Sl aC)),false))|Sum.inr g=>(g)
def Cv (f:aj) (b:Bs):Option (Z7×Bool):=some (ua f b)
theorem Qv (a0:aj) (b:Bs):Cv a0 b=some (ua a0 b):=rfl
theorem Qw {g:aj}{i:Bs}{r:Z7×Bool}(b:Cv g i=some r) (H:ai) :AC Tryz.prog 137 [.agg (aj.c g),.d (.str i)] H fun v h'=>v=.cF [.agg (Z7.c r.1),.d (.bool r.2)]/\h'=H:=by
 unfold Cv ua at b;refine AC.oW 22 [.cell 4 40,.tmp 5] Tryz.call137 Tryz.func137 ?_;refine ag (S BX ?_);refine Sl ?_;refine S As (nil ?_);refine eb (TA 4 kN) (fun(z:Z7)=>[]) (fun z=>[Z7.c z]) (fun z=>H) (fun z=>some (((Z7.mk ([]:Bs) (Sl.nil:Sl Z8) az.zero (Sl.nil:Sl aC)),false))=some r) ?_ ?_
 ·intro G w;refine ag (S Fv (S Ld ?_));refine sLen (f:=Z7.c) (s:=g.aB) (TK rfl) rfl rfl rfl rfl fun I=>?_;refine S Mv (nil ?_);refine block ?_;obtain⟨k,m,b⟩:=eL b;refine gb (TA 1 (TA 4 (TA 9 (TA 10 kN)))) (fun(z:Nat×Z7)=>[(11,.a (.d (.int .i64 ((z.1:Nat):Int))))]) (fun z=>[Z7.c z.2]) (fun z=>H) (fun z=>g.aB.l.length-z.1) (fun z=>k (pX i (g.aB.l.drop z.1) )=some r) (0,Z7.zero) b wA ?_
  rintro ⟨o,p⟩ b J x;try dsimp only at b
  refine ag (S BI (nil ?_));refine ay fun y q=>?_;refine ah.bN (fun l=>k (pX i l )=some r) b rfl (fun K t j b=>?_) (fun j b=>?_)
  ·rw [pX] at b;try dsimp only at j
   have L:=oD j;refine sk q ?_;clear q y;refine ay fun B u=>?_;refine block ?_;refine ag ?_;obtain⟨M,C,b⟩:=vP t b;refine S (ix Z7.c o C) (S Ld ?_);refine Sl ?_;refine Sf ?_;refine nil ?_;refine bu 7 _ rfl (KA 1 (KA 4 (KA 9 (KA 10 (KA 11 aS.nil))))) ?_;refine ag (S Fv (S Ld (S Mv (S BS (nil ?_)))));refine cP b (fun E b=>?_) (fun E b=>?_)
   ·refine ag (S Ld ?_);refine Sf ?_;refine S As (nil ?_);refine ah.ret ?_;repeat (first|refine bF ?_|refine bG ?_)
    have b:=ku m b;obtain rfl:=oJ b;refine bn.bH H rfl ⟨rfl,rfl⟩ ?_;exact(fun _ _ h=>h)
   refine sk u ?_;clear u B;refine region ?_;refine SI ?_;refine S Mv (nil ?_);exact x _ ((o+1),p) wA b (dl t)
  rw [pX] at b;have b:=ku m b;try dsimp only at b
  refine ah.exit ?_;obtain⟨N,F,b⟩:=eL b;have b:=ku F b;exact w _ p wA b
 rintro O b;try dsimp only at b
 refine ag (S BU ?_);refine Sf ?_;refine S As (nil ?_);exact rt b
def mS (b:az):Option az:=on (ig b) fun f=>Option.bind (bif f then((nw b.aF (some (1:Int)) none).bind fun g=>some g) else(some b.aF)) fun i=>(lS i).bind fun j=>some (az.mk b.aa j)
def Cw (b:az):Option az:=mS b
theorem vK (a0:az):Cw a0=mS a0:=rfl
theorem vL {g r:az}(b:Cw g=some r) (H:ai) :AC Tryz.prog 162 [.agg (az.c g)] H fun v h'=>v=.a (.agg (az.c r))/\h'=H:=by
 unfold Cw mS at b;refine AC.oW 15 [.cell 2 35] Tryz.call162 Tryz.func162 ?_;refine ag (S BX ?_);refine Sl ?_;refine nil ?_;refine ag (S Fv (S Ld (S As (nil ?_))));refine aQ (TA 1 (TA 2 kN)) (fun(z:(Sl Int))=>[(3,.a (.d (Sl.d 1 (bC .i64) none z)))]) (fun z=>H) (fun z=>((lS z).bind fun i=>some (az.mk g.aa i))=some r) ?_ ?_
 ·intro t j;refine ag (S Ld ?_);obtain⟨u,m,b⟩:=vT (pO _) b;refine Sc rfl rfl (pP m) ?_;refine nil ?_;obtain⟨w,k,b⟩:=b_ b;refine cO b (fun o b=>?_) (fun o b=>?_)
  ·refine region ?_;refine S Mv ?_;obtain⟨p,q,b⟩:=qO rfl b;refine s0 (mm (f:=(bC .i64)) (l:=(some (1:Int))) (r:=none) (TK rfl) rfl (TK rfl) rfl rfl rfl trivial q) rfl ?_;refine S As (nil ?_);have b:=ku k b;exact j _ p wA b
  refine ah.skip ?_;have b:=ku k b;exact j _ g.aF wA b
 rintro x b;try dsimp only at b
 refine ah.cr (Sd Fv (Sd Ld (Sd Mv ?_)));obtain⟨i,s,b⟩:=qT (BT _) b;refine cM rfl rfl (BW s) ?_;refine Sd BU ?_;refine au.dB (eG (TK rfl) rfl rfl rfl rfl rfl) ?_;refine au.nil (by decide +kernel) ?_;exact rt b
def uc (g:az):Option Bool:=(mS g).bind fun b=>on (bif (decide ((0:Int)<((b.aF.l.length:Nat):Int))) then((b.aF.l)[0]?.getD (0:Int)) else(0:Int)) fun f=>some ((decide ((0:Int)<((b.aF.l.length:Nat):Int)))&&(decide (f=(2:Int))))
def Cx (b:az):Option Bool:=uc b
theorem Qx (a0:az):Cx a0=uc a0:=rfl
theorem Qy {g:az}{r:Bool}(b:Cx g=some r) (H:ai) :AC Tryz.prog 165 [.agg (az.c g)] H fun v h'=>v=.a (.d (.bool r))/\h'=H:=by
 unfold Cx uc at b;refine AC.oW 16 [.tmp 2] Tryz.call165 Tryz.func165 ?_;refine ag ?_;refine sL (sM rfl (by repeat (first|exact bL.nil|apply bL.cons))) rfl ?_;refine S As (nil ?_);refine ag (S LL ?_);obtain⟨i,j,b⟩:=qT (vK _) b;refine Sc rfl rfl (vL j) ?_;refine Sf ?_;refine nil ?_;refine ag (S FL (S LL ?_));refine sLen (f:=(bC .i64)) (s:=i.aF) (TK rfl) rfl rfl rfl rfl fun m=>?_
 refine S BI (S Mv (G0 FL ?_));refine gC rfl rfl (fun hC=>sW (k:=10) rfl (sJ (TK rfl) rfl rfl rfl rfl)) rfl ?_;obtain⟨o,l,b⟩:=k9 (fun hc=>Q.getD_some (by simp at hc; omega)) b;refine gC rfl rfl (fun hC=>aK (k:=11) rfl (ee (f:=(bC .i64)) (n:=0) (TK rfl) rfl (TK rfl) rfl rfl rfl (l hC))) rfl ?_;refine G1 12 rfl Ld ?_;refine G1 13 rfl BI ?_;refine S PA (S As (nil ?_));exact rt b
def ot (f:az):Option (az×Bool):=(uc f).bind fun g=>bif (!g) then(some ((az.mk ([]:Bs) (Sl.nil:Sl Int)),false)) else((mS f).bind fun b=>(nw b.aF (some (1:Int)) none).bind fun i=>some ((az.mk b.aa i),true))
def Cy (b:az):Option (az×Bool):=ot b
theorem Cz (a0:az):Cy a0=ot a0:=rfl
theorem CA {i:az}{r:az×Bool}(b:Cy i=some r) (H:ai) :AC Tryz.prog 146 [.agg (az.c i)] H fun v h'=>v=.cF [.agg (az.c r.1),.d (.bool r.2)]/\h'=H:=by
 unfold Cy ot at b;refine AC.oW 15 [.cell 2 35,.tmp 3] Tryz.call146 Tryz.func146 ?_;refine ag ?_;refine sL (sM rfl (by repeat (first|exact bL.nil|apply bL.cons))) rfl ?_;refine Sl ?_;refine S As (nil ?_);refine ay fun j g=>?_;refine ag (S LL ?_);obtain⟨q,k,b⟩:=qT (Qx _) b;refine Sc rfl rfl (Qy k) ?_;refine S NB (nil ?_);refine cE b (fun m b=>?_) (fun m b=>?_)
 ·refine ag (S BU ?_);refine Sf ?_;refine S As (nil ?_);exact rt b
 refine sk g ?_;clear g j;refine ag (S LL ?_);obtain⟨s,o,b⟩:=qT (vK _) b;refine Sc rfl rfl (vL o) ?_;refine Sf ?_;refine nil ?_;refine ag (S FL (S LL ?_));obtain⟨t,p,b⟩:=qT rfl b;refine s0 (mm (f:=(bC .i64)) (l:=(some (1:Int))) (r:=none) (TK rfl) rfl (TK rfl) rfl rfl rfl trivial p) rfl ?_;refine S FL ?_;refine Sf ?_;refine nil ?_;refine ag (S LL ?_);refine Sf ?_
 refine S As (nil ?_);exact rt b
def yq (g:aj) (b:Bs):Bool:=on (lN g.aX b) fun f=>f
def vM (f:aj) (b:Bs):Option Bool:=some (yq f b)
theorem Ht (a0:aj) (b:Bs):vM a0 b=some (yq a0 b):=rfl
theorem Hu {g:aj}{f:Bs}{r:Bool}(b:vM g f=some r) (H:ai) :AC Tryz.prog 190 [.agg (aj.c g),.d (.str f)] H fun v h'=>v=.a (.d (.bool r))/\h'=H:=by
 unfold vM yq at b;refine AC.oW 9 [.tmp 4] Tryz.call190 Tryz.func190 ?_;refine ag (S BX (S As (nil ?_)));refine ag (S Fv (S Ld (S Mv ?_)));obtain⟨j,i,b⟩:=vP (vm _ _) b;refine Sc rfl rfl (tM i) ?_;refine S As (nil ?_);exact rt b
def CB  (b:(Sl Bs)) (f:(List Bs)):Option (Sl Bs):=some b
def vN (b:Nat) (f:(Sl Bs)->Nat->(List Bs)->Option (Sl Bs)) (g:(Sl Bs)) (i:(List Bs)):Option (Sl Bs):=f g (b+1) i
def pY (g:ak) :Nat->(Sl Bs)->Nat->(List Bs)->Option (Sl Bs)
 | 0,_,_,_=>none
 | k+1,i,b,f=>bif (decide (((b:Nat):Int)<((g.aq.l.length:Nat):Int))) then((g.aq.l[b]?).bind fun j=>bif (f.contains j.aa) then((aW 16 i (⟨false,[j.aa]⟩:Sl Bs)).bind fun m=>vN b ((pY g k)) m (List.erase f j.aa)) else(vN b ((pY g k)) i f)) else(CB   i f)
def yt (b:ak)  (f:(List Bs)):Option (Sl Bs):=pY b (b.aq.l.length+1) (Sl.nil:Sl Bs) 0 f
def ud (a0:ak) (g:Bs) (f:(aj×Bool))  (i:Bs):Option Bool:=(tT a0 i).bind fun b=>aR ((!((!b.2)||(!decide (b.1.an=(1:Int))))&&(decide (f.1.an=(2:Int))))) (vM b.1 g) false fun j=>bif (((!b.2)||(!decide (b.1.an=(1:Int))))||((decide (f.1.an=(2:Int)))&&(!j))) then(some false) else(some true)
def pZ (b:ak) (f:Bs) (g:(aj×Bool))  (i:(List Bs)):Option (Sl Bs):=Option.bind (sY (ud b f g) i) fun j=>yt b  j
def vQ (b:Nat) (f:Nat->(List Bs)->Option (Sl Bs)) (g:(List Bs)):Option (Sl Bs):=f (b+1) g
def p5 (b:ak) (f:Bs) (i:(aj×Bool)) :Nat->Nat->(List Bs)->Option (Sl Bs)
 | 0,_,_=>none
 | k+1,g,j=>bif (decide (((g:Nat):Int)<((b.aq.l.length:Nat):Int))) then((b.aq.l[g]?).bind fun m=>(vM m f).bind fun o=>bif o then(vQ g ((p5 b f i k)) (b7 j m.aa)) else(vQ g ((p5 b f i k)) j)) else(pZ b f i  j)
def ue (j:ak) (g:Bs) (b:(aj×Bool)) :Nat->Nat->(List Bs)->Option (Sl Bs)
 | 0,_,_=>none
 | k+1,f,i=>bif (decide (((f:Nat):Int)<((b.1.aG.l.length:Nat):Int))) then((b.1.aG.l[f]?).bind fun m=>(ue j g b k) (f+1) (b7 i m.aa)) else(pZ j g b  i)
def vR (g:ak) (f:Bs):Option (Sl Bs):=(tT g f).bind fun b=>bif (decide (b.1.an=(1:Int))) then(pZ g f b  (b7 ([]:List Bs) f)) else(bif (decide (b.1.an=(2:Int))) then(p5 g f b (g.aq.l.length+1) 0 ([]:List Bs)) else(bif (decide (b.1.an=(3:Int))) then(ue g f b (b.1.aG.l.length+1) 0 ([]:List Bs)) else(pZ g f b  ([]:List Bs))))
theorem Qz {m:ak}{q:Bs}{r:Sl Bs}(b:vR m q=some r) (H:ai) :AC Tryz.prog 182 [.agg (ak.c m),.d (.str q)] H fun v h'=>v=.a (.d (Sl.d 1 aO none r))/\h'=H:=by
 unfold vR at b;refine AC.oW 113 [.tmp 4] Tryz.call182 Tryz.func182 ?_;refine ah.tok 1 fun g bv=>?_;refine ag (S BX ?_);refine s0 (dR (k':=1) rfl) rfl ?_;refine nil ?_;refine ag (S Ld (S Mv ?_));obtain⟨t,aN,b⟩:=bO b;refine Sc rfl rfl (kz aN) ?_;refine S Mv (S EX (S EX ?_));refine Sl ?_;refine Sf ?_;refine S As (nil ?_);refine bu 5 _ rfl (KA 1 (KA 2 aS.nil)) ?_
 refine ag ?_;refine sE c_.makeMap rfl (fun _ _ _ ⟨i,ao,aP,aR,aT⟩=>?_); subst aP aR aT;obtain⟨bw,ao⟩:=ai.dP ao;refine hq ((H.set g (some (.tok 1 0))).set i (some (.map (bf ([]:List Bs))))) ?_;refine S As (nil ?_);refine aQ (TA 1 (TA 2 (TA 5 (TA 7 kN)))) (fun(z:(List Bs))=>[]) (fun z=>((H.set g (some (.tok 1 0))).set i (some (.map (bf z))))) (fun z=>pZ m q t z=some r) ?_ ?_
 ·intro bx I;refine ag (S Fv (S Ld (nil ?_)));refine block ?_;refine ag (S BI (S As (nil ?_)));refine cE b (fun aU b=>?_) (fun aU b=>?_)
  ·refine region ?_;refine S Mv (S Mv ?_);refine dA (mapUpdate (TK rfl) rfl (TK rfl) rfl rfl rfl rfl av (o9 _ _) rfl) rfl rfl ?_;refine hq ((H.set g (some (.tok 1 0))).set i (some (.map (bf (b7 ([]:List Bs) q))))) ?_;refine nil ?_;exact I _ (b7 ([]:List Bs) q) wA b
  refine ag (S BI (S As (nil ?_)));refine cE b (fun aV b=>?_) (fun aV b=>?_)
  ·refine ag (S Fv (S Ld ?_));refine sLen (f:=aj.c) (s:=m.aq) (TK rfl) rfl rfl rfl rfl fun bz=>?_;refine S Mv (nil ?_);refine block ?_;refine bA (TA 1 (TA 2 (TA 5 (TA 7 (TA 34 (TA 35 kN)))))) (fun(z:Nat×Nat×(List Bs))=>[(36,.a (.d (.int .i64 ((z.2.1:Nat):Int))))]) (fun z=>((H.set g (some (.tok 1 0))).set i (some (.map (bf z.2.2))))) (fun z=>z.1) (fun z=>p5 m q t z.1 z.2.1 z.2.2=some r) ((m.aq.l.length+1),0,([]:List Bs)) b wA ?_
   rintro ⟨J,P,K⟩ b bB aW;try dsimp only at b
   cases J with
   | zero=>cases b
   | succ J =>
     rw [p5] at b;refine ag (S BI (nil ?_));refine ay fun aX ap=>?_;refine cE b (fun Q b=>?_) (fun Q b=>?_)
     ·try dsimp only at Q
      have bC:=oD Q;refine sk ap ?_;clear ap aX;refine aQ (TA 1 (TA 2 (TA 5 (TA 7 (TA 34 (TA 35 (TA 36 kN))))))) (fun(z:(List Bs))=>[]) (fun z=>((H.set g (some (.tok 1 0))).set i (some (.map (bf z))))) (fun z=>vQ P ((p5 m q t J)) z=some r) ?_ ?_
      ·intro bD au;refine block ?_;refine ag ?_;obtain⟨aw,aY,b⟩:=bO b;refine S (ix aj.c P aY) (S Ld ?_);refine Sl ?_;refine Sf ?_;refine nil ?_;refine bu 9 _ rfl (KA 1 (KA 2 (KA 5 (KA 7 (KA 34 (KA 35 (KA 36 aS.nil))))))) ?_;refine ag (S Ld (S Mv ?_));obtain⟨bE,aZ,b⟩:=bO b;refine Sc rfl rfl (Hu aZ) ?_;refine nil ?_;refine cE b (fun a0 b=>?_) (fun a0 b=>?_)
       ·refine region ?_;refine S Mv (S Fv (S Ld ?_));refine dA (mapUpdate (TK rfl) rfl (TK rfl) rfl rfl rfl rfl av (o9 _ _) rfl) rfl rfl ?_;refine hq ((H.set g (some (.tok 1 0))).set i (some (.map (bf (b7 K aw.aa))))) ?_;refine nil ?_;exact au _ (b7 K aw.aa) wA b
       refine ah.skip ?_;exact au _ K wA b
      rintro a1 b;try dsimp only at b
      unfold vQ at b;refine region ?_;refine SI ?_;refine S Mv (nil ?_);exact aW _ (J,(P+1),a1) wA b (nS _)
     refine ah.exit ?_;exact I _ K wA b
  refine ag (S BI (S As (nil ?_)));refine cE b (fun a2 b=>?_) (fun a2 b=>?_)
  ·refine ag (S Fv (S Ld ?_));refine sLen (f:=Z9.c) (s:=t.1.aG) (TK rfl) rfl rfl rfl rfl fun bI=>?_;refine S Mv (nil ?_);refine block ?_;refine bA (TA 1 (TA 2 (TA 5 (TA 7 (TA 50 (TA 51 kN)))))) (fun(z:Nat×Nat×(List Bs))=>[(52,.a (.d (.int .i64 ((z.2.1:Nat):Int))))]) (fun z=>((H.set g (some (.tok 1 0))).set i (some (.map (bf z.2.2))))) (fun z=>z.1) (fun z=>ue m q t z.1 z.2.1 z.2.2=some r) ((t.1.aG.l.length+1),0,([]:List Bs)) b wA ?_
   rintro ⟨R,ax,U⟩ b bK a3;try dsimp only at b
   cases R with
   | zero=>cases b
   | succ R =>
     rw [ue] at b;refine ag (S BI (nil ?_));refine ay fun a4 az=>?_;refine cE b (fun W b=>?_) (fun W b=>?_)
     ·try dsimp only at W
      have bM:=oD W;refine sk az ?_;clear az a4;refine ay fun a5 aA=>?_;refine block ?_;refine ag ?_;obtain⟨aB,a6,b⟩:=bO b;refine S (ix Z9.c ax a6) (S Ld ?_);refine Sl ?_;refine Sf ?_;refine nil ?_;refine bu 11 _ rfl (KA 1 (KA 2 (KA 5 (KA 7 (KA 50 (KA 51 (KA 52 aS.nil))))))) ?_;refine region ?_;refine S Mv (S Fv (S Ld ?_));refine dA (mapUpdate (TK rfl) rfl (TK rfl) rfl rfl rfl rfl av (o9 _ _) rfl) rfl rfl ?_
      refine hq ((H.set g (some (.tok 1 0))).set i (some (.map (bf (b7 U aB.aa))))) ?_;refine nil ?_;refine aA _ ?_;clear aA a5;refine region ?_;refine SI ?_;refine S Mv (nil ?_);exact a3 _ (R,(ax+1),(b7 U aB.aa)) wA b (nS _)
     refine ah.exit ?_;exact I _ U wA b
  refine ah.skip ?_;exact I _ ([]:List Bs) wA b
 rintro a7 b;try dsimp only at b
 unfold pZ at b;refine aQ (TA 2 (TA 7 kN)) (fun(z:(List Bs))=>[]) (fun z=>((H.set g (some (.tok 1 0))).set i (some (.map (bf z))))) (fun z=>yt m z=some r) ?_ ?_
 ·intro bN a8;refine ay fun a9 aC=>?_;refine ah.MQ i (l:=a7) av fun p X j a_=>?_;refine ah.dx (h':=((H.set g (some (.tok 1 0))).set i (some (.dD p (.map (mE X).toArray j))))) (by first|rfl|(rw [ai.set_set]; rfl)|(funext n_; simp only [ai.set]; (repeat' split)<;>first|rfl|(exfalso; simp_all; done)|(simp_all; done))) ?_;refine region ?_;refine S Mv ?_
  refine sE (c_.MT (TK rfl) rfl rfl av) rfl ?_;rintro _ _ _ ⟨u,y,B,rfl,rfl,rfl⟩;obtain⟨a',B⟩:=ai.dP B;obtain⟨ba,B⟩:=ai.dP B;refine hq (((H.set g (some (.tok 1 0))).set i (some (.dD p (.map (mE X).toArray j)))).set u (some (.dD y (.mapIter (some p) j (#[]) j)))) ?_
  refine nil ?_;refine aC _ ?_;clear aC a9;refine block ?_;obtain⟨Y,bb,b⟩:=bO b;refine bA (TA 1 (TA 2 (TA 5 (TA 7 (TA 61 kN))))) (fun(z:List (Bs×Nat)×Array Nat)=>[]) (fun z=>(((H.set g (some (.tok 1 0))).set i (some (.dD p (.map (mE z.1).toArray j)))).set u (some (.dD y (.mapIter (some p) j z.2 j))))) (fun z=>(dy z.1 z.2).length) (fun z=>jV (ud m q t) Y j z) (X,#[]) (jV.start bb a_) wA ?_
  rintro ⟨L,C⟩ o bP aD;try dsimp only at o
  refine ay fun bQ aE=>?_;refine region ?_;refine sE (c_.MU (id:=i) rfl av av o.pop.lt (fun x hx=>o.pop.len _ (List.mem_map_of_mem hx))) rfl ?_;rintro _ _ _ ⟨rfl,⟨bc,rfl,rfl⟩|⟨aF,M,E,rfl,rfl⟩⟩
  ·refine S EX (nil ?_);refine aE _ ?_;refine ay fun bd aH=>?_;refine ah.MR i av o.pop ?_;rw [o.done bc];refine ah.dx (h':=(((H.set g (some (.tok 1 0))).set i (some (.map (bf Y)))).set u (some (.dD y (.mapIter (some p) j C j))))) (by first|rfl|(rw [ai.set_set]; rfl)|(funext n_; simp only [ai.set]; (repeat' split)<;>first|rfl|(exfalso; simp_all; done)|(simp_all; done))) ?_
   refine ah.cond rfl (fun Z=>by cases Z) fun _=>?_;refine ah.exit ?_;exact a8 _ Y (cq.toFA (by(intro N be w); (have bg:N≠u:=fun F=>by rw [F] at w; simp [ai.set,B,ba,a'] at w); (rw [<- w]); (simp only [ai.set,if_neg bg]); (first|done|rfl))) b
  obtain⟨r,ab⟩:=o.told _ (uX E).1;have b:=ab;simp only at b;unfold ud at b;refine hq (((H.set g (some (.tok 1 0))).set i (some (.dD p (.map (mE L).toArray j)))).set u (some (.dD y (.mapIter (some p) j (C.push M) j)))) ?_;refine S EX (nil ?_);refine aE _ ?_;refine ay fun bd aH=>?_;refine ah.cond rfl (fun _=>?_) (fun Z=>by cases Z)
  refine ah.skip ?_;refine aH _ ?_;refine block ?_;refine ag ?_;refine s0 (MX (id:=i) rfl av av (uX E).1 o.pop.nodup (o.pop.len _ (List.mem_map_of_mem (uX E).1))) rfl ?_;refine S EX (S As (nil ?_));refine ag (S Ld (S Mv ?_));obtain⟨bR,bh,b⟩:=bO b;refine Sc rfl rfl (kz bh) ?_;refine S Mv (S EX (S EX ?_));refine Sl ?_;refine Sf ?_;refine S As (nil ?_)
  refine bu 13 _ rfl (KA 1 (KA 2 (KA 5 (KA 7 (KA 12 (KA 14 (KA 61 aS.nil))))))) ?_;refine ag (S Mv (S NB (S Mv (G0 Fv ?_))));refine G1 75 rfl Ld ?_;refine G1 76 rfl BI ?_;refine S PO (S Mv (G0 Fv ?_));refine G1 80 rfl Ld ?_;refine G1 81 rfl BI ?_;refine G1 82 rfl Mv ?_;refine G0 Ld (G0 Mv ?_);obtain⟨bS,bi,b⟩:=gO b;refine fw 84 85 rfl rfl rfl rfl rfl rfl (fun hC=>Hu (bi hC)) ?_
  refine G1 86 rfl NB ?_;refine gC rfl rfl (fun hC=>aK (k:=83) rfl (iM rfl rfl rfl)) rfl ?_;refine S PO (nil ?_);refine cE b (fun bj b=>?_) (fun bj b=>?_)
  ·refine region ?_;refine S Mv (S Mv ?_);refine dA (MV (TK rfl) rfl (TK rfl) rfl rfl rfl rfl av (fun x hx=>o.pop.len _ (List.mem_map_of_mem hx))) rfl rfl ?_;refine hq (((H.set g (some (.tok 1 0))).set i (some (.dD p (.map (mE (fT L aF)).toArray j)))).set u (some (.dD y (.mapIter (some p) j (C.push M) j)))) ?_;refine nil ?_;obtain rfl:=oJ b
   obtain⟨ad,ae⟩:=o.drop E ab;exact aD _ ((fT L aF),C.push M) wA ad ae
  refine ah.skip ?_;obtain rfl:=oJ b;obtain⟨ad,ae⟩:=o.keep E ab;exact aD _ (L,C.push M) wA ad ae
 rintro bk b;try dsimp only at b
 unfold yt at b;refine ag (S As (nil ?_));refine ah.fJ 15 1 g rfl av ?_;refine aQ kN (fun(z:(Sl Bs)×(List Bs))=>[(15,.a (.d (Sl.d 1 aO (some g) z.1)))]) (fun z=>((H.set g (some (.tok 1 z.1.l.length))).set i (some (.map (bf z.2))))) (fun z=>CB z.1 z.2=some r) ?_ ?_
 ·intro bT bl;refine ag (S Fv (S Ld ?_));refine sLen (f:=aj.c) (s:=m.aq) (TK rfl) rfl rfl rfl rfl fun bU=>?_;refine S Mv (nil ?_);refine block ?_;refine bA (TA 7 (TA 93 (TA 94 kN))) (fun(z:Nat×(Sl Bs)×Nat×(List Bs))=>[(15,.a (.d (Sl.d 1 aO (some g) z.2.1))),(95,.a (.d (.int .i64 ((z.2.2.1:Nat):Int))))]) (fun z=>((H.set g (some (.tok 1 z.2.1.l.length))).set i (some (.map (bf z.2.2.2))))) (fun z=>z.1) (fun z=>pY m z.1 z.2.1 z.2.2.1 z.2.2.2=some r) ((m.aq.l.length+1),(Sl.nil:Sl Bs),0,bk) b wA ?_
  rintro ⟨O,aI,af,G⟩ b bV bm;try dsimp only at b
  cases O with
  | zero=>cases b
  | succ O =>
    rw [pY] at b;refine ag (S BI (nil ?_));refine ay fun bo aJ=>?_;refine cE b (fun al b=>?_) (fun al b=>?_)
    ·try dsimp only at al
     have bW:=oD al;refine sk aJ ?_;clear aJ bo;refine aQ (TA 7 (TA 93 (TA 94 (TA 95 kN)))) (fun(z:(Sl Bs)×(List Bs))=>[(15,.a (.d (Sl.d 1 aO (some g) z.1)))]) (fun z=>((H.set g (some (.tok 1 z.1.l.length))).set i (some (.map (bf z.2))))) (fun z=>vN af ((pY m O)) z.1 z.2=some r) ?_ ?_
     ·intro bX aL;refine block ?_;refine ag ?_;obtain⟨aM,bp,b⟩:=bO b;refine S (ix aj.c af bp) (S Ld ?_);refine Sl ?_;refine Sf ?_;refine nil ?_;refine bu 17 _ rfl (KA 7 (KA 15 (KA 93 (KA 94 (KA 95 aS.nil))))) ?_;refine ag (S Mv (S Fv (S Ld ?_)));refine s0 (qI (TK rfl) rfl (TK rfl) (TK rfl) rfl rfl rfl rfl av) rfl ?_;refine nil ?_;refine cE b (fun bq b=>?_) (fun bq b=>?_)
      ·refine ag (S Mv (S Fv (S Ld (S BV ?_))));obtain⟨an,br,b⟩:=bO b;refine SH (am aO (TK rfl) rfl (TK rfl) (TK rfl) br) ?_;refine hq ((H.set g (some (.tok 1 an.l.length))).set i (some (.map (bf G)))) ?_;refine S As (nil ?_);refine region ?_;refine S Mv (S Fv (S Ld ?_));refine dA (MW (TK rfl) rfl (TK rfl) rfl rfl rfl rfl av) rfl rfl ?_;refine hq ((H.set g (some (.tok 1 an.l.length))).set i (some (.map (bf (List.erase G aM.aa))))) ?_
       refine nil ?_;exact aL _ (an,(List.erase G aM.aa)) wA b
      refine ah.skip ?_;exact aL _ (aI,G) wA b
     rintro ⟨bs,bt⟩ b;try dsimp only at b
     unfold vN at b;refine region ?_;refine SI ?_;refine S Mv (nil ?_);exact bm _ (O,bs,(af+1),bt) wA b (nS _)
    refine ah.exit ?_;exact bl _ (aI,G) wA b
 rintro ⟨bY,bZ⟩ b;try dsimp only at b
 unfold CB at b;refine ag (S Mv (S As (nil ?_)));refine ah.dU 4 rfl ?_;refine ah.ret ?_;repeat (first|refine bF ?_|refine bG ?_)
 obtain rfl:=oJ b;refine bn.bH H rfl ⟨rfl,rfl⟩ ?_;intro N be w;have b0:N≠g:=fun F=>by subst F; simp_all [ai.set]
 have b1:N≠i:=fun F=>by subst F; simp_all [ai.set]
 rw [<- w];simp only [ai.set] at w ⊢
 (repeat' split)<;>simp_all
def yu (f:ak) (b:Bs):Option (Sl Bs):=vR f b
theorem QA (a0:ak) (b:Bs):vR a0 b=yu a0 b:=rfl
def rD (i:ak) (b:Bs) (j:Bs):Option Bool:=(yu i j).bind fun f=>on (lN f b) fun g=>some g
def CC (f:ak) (b:Bs) (g:Bs):Option Bool:=rD f b g
theorem QB (a0:ak) (b:Bs) (a2:Bs):CC a0 b a2=rD a0 b a2:=rfl
theorem QC {g:ak}{f i:Bs}{r:Bool}(b:CC g f i=some r) (H:ai) :AC Tryz.prog 163 [.agg (ak.c g),.d (.str f),.d (.str i)] H fun v h'=>v=.a (.d (.bool r))/\h'=H:=by
 unfold CC rD at b;refine AC.oW 12 [.tmp 6] Tryz.call163 Tryz.func163 ?_;refine ag (S BX (S As (nil ?_)));refine ag (S Ld (S Mv ?_));obtain⟨l,j,b⟩:=qT (QA _ _) b;refine Sc rfl rfl (Qz j) ?_;refine S Mv ?_;obtain⟨m,k,b⟩:=vT (vm _ _) b;refine Sc rfl rfl (tM k) ?_;refine S As (nil ?_);exact rt b
def mU:Nat->ak->az->az->Option Bool
 | 0,_,_,_=>none
 | n+1,k,b,f=>on (ig f) fun l=>bif l then(on (ig b) fun g=>aR (g) (mS b) az.zero fun m=>aR (g) (mS f) az.zero fun o=>aR (g) ((mU n) k m o) false fun p=>some (g&&p)) else(on (ig b) fun q=>bif q then((mS b).bind fun r=>((mU n) k r f).bind fun s=>some s) else((ot b).bind fun i=>(ot f).bind fun j=>bif (i.2||j.2) then(aR ((i.2&&j.2)) ((mU n) k i.1 j.1) false fun t=>some ((i.2&&j.2)&&t)) else(aR (!((b.aa==f.aa))) (rD k b.aa f.aa) false fun u=>some (((b.aa==f.aa))||u))))
def CD (n:Nat):Prop:=∀{a0:ak}{b:az}{a2:az}   {r:Bool},mU n a0 b a2=some r->∀(H:ai),AC Tryz.prog 138 [.agg (ak.c a0),.agg (az.c b),.agg (az.c a2)] H fun v h'=>v=.a (.d (.bool r))/\h'=H
theorem QD (n:Nat) (f:CD (ax:=ax) n):CD (ax:=ax) (n+1):=by
 intro Y I Z   r b H;rw [mU] at b;refine AC.oW 67 [.tmp 6] Tryz.call138 Tryz.func138 ?_;refine ag (S BX (S BX (S BX (S As (nil ?_)))));refine ay fun l g=>?_;refine ag (S Ld ?_);obtain⟨J,m,b⟩:=vT (pO _) b;refine Sc rfl rfl (pP m) ?_;refine nil ?_;refine cE b (fun o b=>?_) (fun o b=>?_)
 ·refine ah.cr (Sd Ld ?_);obtain⟨K,p,b⟩:=vT (pO _) b;refine cM rfl rfl (pP p) ?_;refine Sd Mv (dr Ld (dr Ld ?_));obtain⟨L,q,b⟩:=dQ (vK _) b;refine pn 17 rfl rfl rfl rfl rfl (fun hC=>vL (q hC)) ?_;refine dr Ld ?_;obtain⟨M,s,b⟩:=dQ (vK _) b;refine pn 19 rfl rfl rfl rfl rfl (fun hC=>vL (s hC)) ?_;obtain⟨N,t,b⟩:=dQ rfl b;refine au.gC rfl rfl (fun hC=>aK (k:=16) rfl (aK (k:=18) rfl (aK (k:=20) rfl (iJ rfl rfl (fun H=>f (t hC) H))))) rfl ?_
  refine Sd PA (Sd As ?_);refine au.nil (by decide +kernel) ?_;exact rt b
 refine sk g ?_;clear g l;refine ay fun u i=>?_;refine ag (S Ld ?_);obtain⟨O,v,b⟩:=vT (pO _) b;refine Sc rfl rfl (pP v) ?_;refine nil ?_;refine cE b (fun w b=>?_) (fun w b=>?_)
 ·refine ah.cr (Sd Ld (Sd Ld ?_));obtain⟨P,x,b⟩:=qT (vK _) b;refine cM rfl rfl (vL x) ?_;refine Sd Ld ?_;obtain⟨Q,y,b⟩:=qT rfl b;refine cM rfl rfl (f y) ?_;refine Sd As ?_;refine au.nil (by decide +kernel) ?_;exact rt b
 refine sk i ?_;clear i u;refine ag (S Ld ?_);obtain⟨R,z,b⟩:=qT (Cz _) b;refine Sc rfl rfl (CA z) ?_;refine S Mv (S EX (S EX ?_));refine Sl ?_;refine Sf ?_;refine S As (nil ?_);refine bu 7 _ rfl (KA 3 (KA 4 (KA 5 (KA 8 aS.nil)))) ?_;refine ag (S Ld ?_);obtain⟨U,B,b⟩:=qT (Cz _) b;refine Sc rfl rfl (CA B) ?_;refine S Mv (S EX (S EX ?_))
 refine Sl ?_;refine Sf ?_;refine S As (nil ?_);refine bu 9 _ rfl (KA 3 (KA 4 (KA 5 (KA 7 (KA 8 (KA 10 aS.nil)))))) ?_;refine ay fun C j=>?_;refine ag (S Mv (S Mv (G0 Mv (S PO (nil ?_)))));refine cE b (fun E b=>?_) (fun E b=>?_)
 ·refine ag (S Mv (S Mv (G0 Mv (S PA (S Mv (G0 Ld (G0 Ld (G0 Ld ?_))))))));obtain⟨W,F,b⟩:=dQ rfl b;refine gC rfl rfl (fun hC=>aK (k:=49) rfl (aK (k:=50) rfl (aK (k:=51) rfl (iJ rfl rfl (fun H=>f (F hC) H))))) rfl ?_;refine S PA (S As (nil ?_));exact rt b
 refine sk j ?_;clear j C;refine ag (S Fv (S Ld (S Fv (S Ld (S BS (S Mv (G0 Ld (G0 Fv ?_))))))));refine G1 61 rfl Ld ?_;refine G0 Fv ?_;refine G1 63 rfl Ld ?_;obtain⟨X,G,b⟩:=dQ (QB _ _ _) b;refine gC rfl rfl (fun hC=>aK (k:=60) rfl (aK (k:=62) rfl (aK (k:=64) rfl (iJ rfl rfl (fun H=>QC (G hC) H))))) rfl ?_;refine S PO (S As (nil ?_));exact rt b
theorem Hv:∀(n:Nat),(CD (ax:=ax) n)
 | 0=>fun b=>by first|cases b|(rw [mU] at b; cases b)
 | n+1=>QD n (Hv n)
def Hw (f:ak) (b:az) (g:az):Option Bool:=mU F0 f b g
theorem QE {f:ak}{b g:az}{r:Bool}(i:Hw f b g=some r) (H:ai) :AC Tryz.prog 138 [.agg (ak.c f),.agg (az.c b),.agg (az.c g)] H fun v h'=>v=.a (.d (.bool r))/\h'=H:=(Hv F0) i H 
def vS (f:ak) (b:az) (g:az):Option Bool:=mU F0 f b g
theorem QG (a0:ak) (b:az) (a2:az):Hw a0 b a2=vS a0 b a2:=rfl
def mV (b:Bs):List Z8->Unit ⊕ ((Z8×Bool))
 | []=>Sum.inl ()
 | g::i=>on (g) fun f=>bif ((f.aa==b)) then(Sum.inr (f,true)) else(mV b (i) )
def l6 (i:(Sl Z8)) (b:Bs):(Z8×Bool):=on (mV b i.l ) fun f=>match f with|Sum.inl _=>(on (()) fun _=>((Z8.mk ([]:Bs) az.zero false af.zero (Sl.nil:Sl aC)),false))|Sum.inr g=>(g)
def CE (f:(Sl Z8)) (b:Bs):Option (Z8×Bool):=some (l6 f b)
theorem yw (a0:(Sl Z8)) (b:Bs):CE a0 b=some (l6 a0 b):=rfl
theorem yx {g:Sl Z8}{i:Bs}{w0:Option Nat}{r:Z8×Bool}(b:CE g i=some r) (H:ai) :AC Tryz.prog 139 [.d (Sl.d 10 Z8.c w0 g),.d (.str i)] H fun v h'=>v=.cF [.agg (Z8.c r.1),.d (.bool r.2)]/\h'=H:=by
 unfold CE l6 at b;refine AC.oW 21 [.cell 4 63,.tmp 5] Tryz.call139 Tryz.func139 ?_;refine ag ?_;refine Sl ?_;refine S As (nil ?_);refine eb (TA 4 kN) (fun(z:Z8)=>[]) (fun z=>[Z8.c z]) (fun z=>H) (fun z=>some (((Z8.mk ([]:Bs) az.zero false af.zero (Sl.nil:Sl aC)),false))=some r) ?_ ?_
 ·intro G w;refine ag (S Mv ?_);refine sLen (f:=Z8.c) (s:=g) (TK rfl) rfl rfl rfl rfl fun I=>?_;refine S Mv (nil ?_);refine block ?_;obtain⟨k,m,b⟩:=eL b;refine gb (TA 1 (TA 4 (TA 8 (TA 9 kN)))) (fun(z:Nat×Z8)=>[(10,.a (.d (.int .i64 ((z.1:Nat):Int))))]) (fun z=>[Z8.c z.2]) (fun z=>H) (fun z=>g.l.length-z.1) (fun z=>k (mV i (g.l.drop z.1) )=some r) (0,Z8.zero) b wA ?_
  rintro ⟨o,p⟩ b J x;try dsimp only at b
  refine ag (S BI (nil ?_));refine ay fun y q=>?_;refine ah.bN (fun l=>k (mV i l )=some r) b rfl (fun K t j b=>?_) (fun j b=>?_)
  ·rw [mV] at b;try dsimp only at j
   have L:=oD j;refine sk q ?_;clear q y;refine ay fun B u=>?_;refine block ?_;refine ag ?_;obtain⟨M,C,b⟩:=vP t b;refine S (ix Z8.c o C) (S Ld ?_);refine Sl ?_;refine Sf ?_;refine nil ?_;refine bu 7 _ rfl (KA 1 (KA 4 (KA 8 (KA 9 (KA 10 aS.nil))))) ?_;refine ag (S Fv (S Ld (S Mv (S BS (nil ?_)))));refine cP b (fun E b=>?_) (fun E b=>?_)
   ·refine ag (S Ld ?_);refine Sf ?_;refine S As (nil ?_);refine ah.ret ?_;repeat (first|refine bF ?_|refine bG ?_)
    have b:=ku m b;obtain rfl:=oJ b;refine bn.bH H rfl ⟨rfl,rfl⟩ ?_;exact(fun _ _ h=>h)
   refine sk u ?_;clear u B;refine region ?_;refine SI ?_;refine S Mv (nil ?_);exact x _ ((o+1),p) wA b (dl t)
  rw [mV] at b;have b:=ku m b;try dsimp only at b
  refine ah.exit ?_;obtain⟨N,F,b⟩:=eL b;have b:=ku F b;exact w _ p wA b
 rintro O b;try dsimp only at b
 refine ag (S BU ?_);refine Sf ?_;refine S As (nil ?_);exact rt b
def l7 (f:(Sl Int)):List Int->Nat->Option (Unit ⊕ Bool)
 | [],b=>some (Sum.inl ())
 | g::i,b=>on (g) fun j=>(f.l[b]?).bind fun k=>bif (!decide (j=k)) then(some (Sum.inr false)) else(l7 f (i) (b+1) )
def rE (f:(Sl Int)) (b:(Sl Int)):Option Bool:=bif (!decide (((f.l.length:Nat):Int)=((b.l.length:Nat):Int))) then(some false) else(Option.bind (l7 b f.l 0 ) fun g=>match g with|Sum.inl _=>(on (()) fun _=>some true)|Sum.inr i=>(some i))
def CF (f:(Sl Int)) (b:(Sl Int)):Option Bool:=rE f b
theorem QH (a0:(Sl Int)) (b:(Sl Int)):CF a0 b=rE a0 b:=rfl
theorem QI {g i:Sl Int}{w0 w:Option Nat}{r:Bool}(b:CF g i=some r) (H:ai) :AC Tryz.prog 164 [.d (Sl.d 1 (bC .i64) w0 g),.d (Sl.d 1 (bC .i64) w i)] H fun v h'=>v=.a (.d (.bool r))/\h'=H:=by
 unfold CF rE at b;refine AC.oW 26 [.tmp 4] Tryz.call164 Tryz.func164 ?_;refine ag (S As (nil ?_));refine ay fun x m=>?_;refine ag (S Mv ?_);refine sLen (f:=(bC .i64)) (s:=g) (TK rfl) rfl rfl rfl rfl fun L=>?_;refine S Mv ?_;refine sLen (f:=(bC .i64)) (s:=i) (TK rfl) rfl rfl rfl rfl fun M=>?_;refine S BI (nil ?_);refine cE b (fun y b=>?_) (fun y b=>?_)
 ·refine ag (S As (nil ?_));exact rt b
 refine sk m ?_;clear m x;refine aQ kN (fun(z:Unit)=>[]) (fun z=>H) (fun z=>(some true)=some r) ?_ ?_
 ·intro N B;refine ag (S Mv ?_);refine sLen (f:=(bC .i64)) (s:=g) (TK rfl) rfl rfl rfl rfl fun O=>?_;refine S Mv (nil ?_);refine block ?_;obtain⟨o,p,b⟩:=b_ b;refine bA (TA 0 (TA 1 (TA 12 kN))) (fun(z:Nat)=>[(13,.a (.d (.int .i64 ((z:Nat):Int))))]) (fun z=>H) (fun z=>g.l.length-z) (fun z=>Option.bind (l7 i (g.l.drop z) z ) o=some r) 0 b wA ?_;rintro j b P C
  try dsimp only at b
  refine ag (S BI (nil ?_));refine ay fun E q=>?_;refine ah.bN (fun l=>Option.bind (l7 i l j ) o=some r) b rfl (fun Q t k b=>?_) (fun k b=>?_)
  ·rw [l7] at b;try dsimp only at k
   have R:=oD k;refine sk q ?_;clear q E;refine ay fun F u=>?_;refine block ?_;refine ag (S Mv (S As (nil ?_)));refine ah.cr (Sd Mv (Sd Mv ?_));obtain⟨U,G,b⟩:=vO t b;refine Sd (ix (bC .i64) j G) ?_;refine Sd Ld (Sd Mv (Sd Mv ?_));obtain⟨W,I,b⟩:=qO rfl b;refine Sd (ix (bC .i64) j I) ?_;refine Sd Ld (Sd BI ?_);refine au.nil (by decide +kernel) ?_
   refine cO b (fun J b=>?_) (fun J b=>?_)
   ·refine ag (S As (nil ?_));refine ah.ret ?_;repeat (first|refine bF ?_|refine bG ?_)
    have b:=ku p b;obtain rfl:=oJ b;refine bn.bH H rfl ⟨rfl,rfl⟩ ?_;exact(fun _ _ h=>h)
   refine sk u ?_;clear u F;refine region ?_;refine SI ?_;refine S Mv (nil ?_);exact C _ (j+1) wA b (dl t)
  rw [l7] at b;have b:=ku p b;try dsimp only at b
  refine ah.exit ?_;obtain⟨X,K,b⟩:=bW b;have b:=ku K b;exact B _ () wA b
 rintro _ b;try dsimp only at b
 refine ag (S As (nil ?_));exact rt b
def uf (f:az) (b:az):Option Bool:=aR (((f.aa==b.aa))) (rE f.aF b.aF) false fun g=>some (((f.aa==b.aa))&&g)
def CG (f:az) (b:az):Option Bool:=uf f b
theorem QJ (a0:az) (b:az):CG a0 b=uf a0 b:=rfl
theorem QK {g f:az}{r:Bool}(b:CG g f=some r) (H:ai) :AC Tryz.prog 140 [.agg (az.c g),.agg (az.c f)] H fun v h'=>v=.a (.d (.bool r))/\h'=H:=by
 unfold CG uf at b;refine AC.oW 17 [.tmp 4] Tryz.call140 Tryz.func140 ?_;refine ag (S BX (S BX (S As (nil ?_))));refine ag (S Fv (S Ld (S Fv (S Ld (S BS (S Mv (G0 Fv ?_)))))));refine G1 11 rfl Ld ?_;refine G0 Fv ?_;refine G1 13 rfl Ld ?_;obtain⟨j,i,b⟩:=dQ (QH _ _) b;refine fw 12 14 rfl rfl rfl rfl rfl rfl (fun hC=>QI (i hC)) ?_;refine S PA (S As (nil ?_));exact rt b
def kB (i:Bs) (j:(Z7×Bool)):List Z8->Z0->Option (Z0)
 | [],b=>some b
 | k::l,b=>on (k) fun f=>on (l6 j.1.aH f.aa) fun g=>aR (!(!g.2)) (uf f.aA g.1.aA) false fun m=>Option.bind (bif ((!g.2)||(!m)) then((bM i ([40]:Bs)).bind fun o=>(bM o f.aa).bind fun p=>(bM p ([41]:Bs)).bind fun q=>(iD b (22:Int) q).bind fun r=>some r) else(some b)) fun s=>kB i j (l) s
def kC (g:Z7) (i:Bs):List Z8->Z0->Option (Z0)
 | [],b=>some b
 | k::l,b=>on (k) fun f=>on (l6 g.aH f.aa) fun j=>on (bif (!j.2) then ig f.aA else false) fun m=>Option.bind (bif (((!j.2)&&m)&&(!f.bY)) then((bM i ([40]:Bs)).bind fun o=>(bM o f.aa).bind fun p=>(bM p ([41]:Bs)).bind fun q=>(iD b (22:Int) q).bind fun r=>some r) else(some b)) fun s=>kC g i (l) s
def mW (j:aj):List Z7->Z0->Option (Z0)
 | [],b=>some b
 | k::m,b=>on (k) fun f=>(bM j.aa ([46]:Bs)).bind fun o=>(bM o f.aa).bind fun g=>on (ua j f.aa) fun i=>Option.bind (bif (!i.2) then((iD b (20:Int) g).bind fun p=>some p) else((vS b.Fd i.1.aA f.aA).bind fun q=>Option.bind (bif (!q) then((iD b (10:Int) g).bind fun r=>some r) else(some b)) fun s=>Option.bind (kB g i f.aH.l s) fun t=>on (t) fun u=>Option.bind (kC f g i.1.aH.l u) fun v=>some v)) fun w=>mW j (m) w
def ug (g:Z0) (b:aj) (i:aj):Option Z0:=Option.bind (mW b i.aB.l g) fun f=>some f
def CH (f:Z0) (b:aj) (g:aj):Option Z0:=ug f b g
theorem QL (a0:Z0) (b:aj) (a2:aj):CH a0 b a2=ug a0 b a2:=rfl
theorem QM {p:Z0}{t q:aj}{i g:Nat}{r:Z0}(b:CH p t q=some r) (H:ai) (bb:H i=some (.cells (Z0.cg (some g) p))) (bc:H g=some (.tok 2 p.dc.l.length)):AC Tryz.prog 114 [.d (.ptr i 0),.agg (aj.c t),.agg (aj.c q)] H fun v h'=>v=.cF []/\h'=((H.set g (some (.tok 2 r.dc.l.length))).set i (some (.cells (Z0.cg (some g) r)))):=by
 unfold CH ug at b;refine AC.oW 128 [] Tryz.call114 Tryz.func114 ?_;have bd:i≠g:=fun an=>by subst an; simp_all
 refine ah.dx (h':=((H.set g (some (.tok 2 p.dc.l.length))).set i (some (.cells (Z0.cg (some g) p))))) (by funext n_; simp only [ai.set]; (repeat' split)<;>simp_all) ?_;refine ag (S BX (S BX (nil ?_)));refine ag (S Fv (S Ld ?_));refine sLen (f:=Z7.c) (s:=q.aB) (TK rfl) rfl rfl rfl rfl fun be=>?_;refine S Mv (nil ?_);refine block ?_;obtain⟨x,ao,b⟩:=b_ b;refine bA (TA 0 (TA 4 (TA 20 (TA 21 kN)))) (fun(z:Nat×Z0)=>[(22,.a (.d (.int .i64 ((z.1:Nat):Int))))]) (fun z=>((H.set g (some (.tok 2 z.2.dc.l.length))).set i (some (.cells (Z0.cg (some g) z.2))))) (fun z=>q.aB.l.length-z.1) (fun z=>Option.bind (mW t (q.aB.l.drop z.1) z.2) x=some r) (0,p) b wA ?_
 rintro ⟨y,w⟩ b bf ap;try dsimp only at b
 refine ag (S BI (nil ?_));refine ay fun aq P=>?_;refine ah.bN (fun l=>Option.bind (mW t l w) x=some r) b rfl (fun bg Q B b=>?_) (fun B b=>?_)
 ·rw [mW] at b;try dsimp only at B
  have bh:=oD B;refine sk P ?_;clear P aq;refine aQ (TA 0 (TA 4 (TA 20 (TA 21 (TA 22 kN))))) (fun(z:Z0)=>[]) (fun z=>((H.set g (some (.tok 2 z.dc.l.length))).set i (some (.cells (Z0.cg (some g) z))))) (fun z=>Option.bind (mW t (q.aB.l.drop (y+1)) z) x=some r) ?_ ?_
  ·intro bi R;refine block ?_;refine ag ?_;obtain⟨j,aw,b⟩:=vO Q b;refine S (ix Z7.c y aw) (S Ld ?_);refine Sl ?_;refine Sf ?_;refine nil ?_;refine bu 7 _ rfl (KA 0 (KA 4 (KA 20 (KA 21 (KA 22 aS.nil))))) ?_;refine ag (S Fv (S Ld ?_));obtain⟨bj,ax,b⟩:=qO rfl b;refine s0 (cL rfl rfl ax) rfl ?_;refine S Fv (S Ld ?_);obtain⟨m,az,b⟩:=qO rfl b;refine s0 (cL rfl rfl az) rfl ?_
   refine S As (nil ?_);refine ag (S Ld (S Fv (S Ld ?_)));obtain⟨k,aA,b⟩:=vO (Qv _ _) b;refine Sc rfl rfl (Qw aA) ?_;refine S Mv (S EX (S EX ?_));refine Sl ?_;refine Sf ?_;refine S As (nil ?_);refine bu 9 _ rfl (KA 0 (KA 4 (KA 7 (KA 8 (KA 10 (KA 20 (KA 21 (KA 22 aS.nil)))))))) ?_;refine ay fun aC U=>?_;refine ag (S Mv (S NB (nil ?_)));obtain⟨W,X,b⟩:=dI b
   refine cO b (fun aD b=>?_) (fun aD b=>?_)
   ·refine ag (S Mv (S Mv ?_));obtain⟨C,aE,b⟩:=qO (tZ _ _ _) b;refine sH (bP rfl rfl (t_ aE _ av av)) rfl ?_;refine hq ((H.set g (some (.tok 2 C.dc.l.length))).set i (some (.cells (Z0.cg (some g) C)))) ?_;refine nil ?_;refine ah.exit ?_;have b:=ku X b;exact R _ C wA b
   refine sk U ?_;clear U aC;refine aQ (TA 0 (TA 4 (TA 7 (TA 8 (TA 9 (TA 20 (TA 21 (TA 22 kN)))))))) (fun(z:Z0)=>[]) (fun z=>((H.set g (some (.tok 2 z.dc.l.length))).set i (some (.cells (Z0.cg (some g) z))))) (fun z=>Option.bind (Option.bind (kB m k j.aH.l z) fun u=>on (u) fun E=>Option.bind (kC j m k.1.aH.l E) fun o=>some o) W=some r) ?_ ?_
   ·intro bk Y;refine ah.cr (Sd Mv (Sd NP ?_));refine au.s0 (bE (TK rfl) rfl rfl (TK rfl) rfl rfl) rfl ?_;refine au.s0 (bZ (TK rfl) rfl rfl av rfl) rfl ?_;refine Sd Fv (Sd Ld (Sd Fv (Sd Ld ?_)));obtain⟨bl,aF,b⟩:=qO (QG _ _ _) b;refine cM rfl rfl (QE aF) ?_;refine Sd NB ?_;refine au.nil (by decide +kernel) ?_;obtain⟨bm,Z,b⟩:=dI b;refine cO b (fun aG b=>?_) (fun aG b=>?_)
    ·refine region ?_;refine S Mv (S Mv ?_);obtain⟨F,aI,b⟩:=qO (tZ _ _ _) b;refine sH (bP rfl rfl (t_ aI _ av av)) rfl ?_;refine hq ((H.set g (some (.tok 2 F.dc.l.length))).set i (some (.cells (Z0.cg (some g) F)))) ?_;refine nil ?_;have b:=ku Z b;exact Y _ F wA b
    refine ah.skip ?_;have b:=ku Z b;exact Y _ w wA b
   rintro aJ b;try dsimp only at b
   refine aQ (TA 0 (TA 4 (TA 7 (TA 8 (TA 9 (TA 20 (TA 21 (TA 22 kN)))))))) (fun(z:Z0)=>[]) (fun z=>((H.set g (some (.tok 2 z.dc.l.length))).set i (some (.cells (Z0.cg (some g) z))))) (fun z=>Option.bind (Option.bind (kC j m k.1.aH.l z) fun o=>some o) W=some r) ?_ ?_
   ·intro bo aK;refine ag (S Fv (S Ld ?_));refine sLen (f:=Z8.c) (s:=j.aH) (TK rfl) rfl rfl rfl rfl fun bp=>?_;refine S Mv (nil ?_);refine block ?_;obtain⟨G,aL,b⟩:=dI b;refine bA (TA 0 (TA 4 (TA 7 (TA 8 (TA 9 (TA 20 (TA 21 (TA 22 (TA 58 (TA 59 kN)))))))))) (fun(z:Nat×Z0)=>[(60,.a (.d (.int .i64 ((z.1:Nat):Int))))]) (fun z=>((H.set g (some (.tok 2 z.2.dc.l.length))).set i (some (.cells (Z0.cg (some g) z.2))))) (fun z=>j.aH.l.length-z.1) (fun z=>Option.bind (kB m k (j.aH.l.drop z.1) z.2) G=some r) (0,aJ) b wA ?_
    rintro ⟨I,u⟩ b bq aM;try dsimp only at b
    refine ag (S BI (nil ?_));refine ay fun aN aa=>?_;refine ah.bN (fun l=>Option.bind (kB m k l u) G=some r) b rfl (fun br ab J b=>?_) (fun J b=>?_)
    ·rw [kB] at b;try dsimp only at J
     have bs:=oD J;refine sk aa ?_;clear aa aN;refine aQ (TA 0 (TA 4 (TA 7 (TA 8 (TA 9 (TA 20 (TA 21 (TA 22 (TA 58 (TA 59 (TA 60 kN))))))))))) (fun(z:Z0)=>[]) (fun z=>((H.set g (some (.tok 2 z.dc.l.length))).set i (some (.cells (Z0.cg (some g) z))))) (fun z=>Option.bind (kB m k (j.aH.l.drop (I+1)) z) G=some r) ?_ ?_
     ·intro bt ad;refine block ?_;refine ag ?_;obtain⟨bv,aO,b⟩:=vO ab b;refine S (ix Z8.c I aO) (S Ld ?_);refine Sl ?_;refine Sf ?_;refine nil ?_;refine bu 12 _ rfl (KA 0 (KA 4 (KA 7 (KA 8 (KA 9 (KA 20 (KA 21 (KA 22 (KA 58 (KA 59 (KA 60 aS.nil))))))))))) ?_;refine ag (S Fv (S Ld (S Fv (S Ld ?_))));obtain⟨bw,aP,b⟩:=vO (yw _ _) b;refine Sc rfl rfl (yx aP) ?_
      refine S Mv (S EX (S EX ?_));refine Sl ?_;refine Sf ?_;refine S As (nil ?_);refine bu 13 _ rfl (KA 0 (KA 4 (KA 7 (KA 8 (KA 9 (KA 12 (KA 14 (KA 20 (KA 21 (KA 22 (KA 58 (KA 59 (KA 60 aS.nil))))))))))))) ?_;refine ag (S Mv (S NB (S Mv (G0 Fv ?_))));refine G1 75 rfl Ld ?_;refine G0 Fv ?_;refine G1 77 rfl Ld ?_;obtain⟨bx,aR,b⟩:=eS (QJ _ _) b;refine fw 76 78 rfl rfl rfl rfl rfl rfl (fun hC=>QK (aR hC)) ?_
      refine G1 79 rfl NB ?_;refine S PO (nil ?_);obtain⟨bz,ae,b⟩:=dI b;refine cO b (fun aT b=>?_) (fun aT b=>?_)
      ·refine region ?_;refine S Mv (S Mv ?_);obtain⟨bB,aU,b⟩:=qO rfl b;refine s0 (cL rfl rfl aU) rfl ?_;refine S Fv (S Ld ?_);obtain⟨bC,aV,b⟩:=qO rfl b;refine s0 (cL rfl rfl aV) rfl ?_;obtain⟨bD,aW,b⟩:=qO rfl b;refine s0 (cL rfl rfl aW) rfl ?_;obtain⟨K,aX,b⟩:=qO (tZ _ _ _) b;refine sH (bP rfl rfl (t_ aX _ av av)) rfl ?_;refine hq ((H.set g (some (.tok 2 K.dc.l.length))).set i (some (.cells (Z0.cg (some g) K)))) ?_
       refine nil ?_;have b:=ku ae b;exact ad _ K wA b
      refine ah.skip ?_;have b:=ku ae b;exact ad _ u wA b
     rintro aY b;try dsimp only at b
     refine region ?_;refine SI ?_;refine S Mv (nil ?_);exact aM _ ((I+1),aY) wA b (dl ab)
    rw [kB] at b;have b:=ku aL b;refine ah.exit ?_;obtain⟨bI,aZ,b⟩:=gH b;have b:=ku aZ b;exact aK _ u wA b
   rintro E b;try dsimp only at b
   refine ag (S Fv (S Ld ?_));refine sLen (f:=Z8.c) (s:=k.1.aH) (TK rfl) rfl rfl rfl rfl fun bK=>?_;refine S Mv (nil ?_);refine block ?_;obtain⟨L,a0,b⟩:=dI b;refine bA (TA 0 (TA 4 (TA 7 (TA 8 (TA 20 (TA 21 (TA 22 (TA 92 (TA 93 kN))))))))) (fun(z:Nat×Z0)=>[(94,.a (.d (.int .i64 ((z.1:Nat):Int))))]) (fun z=>((H.set g (some (.tok 2 z.2.dc.l.length))).set i (some (.cells (Z0.cg (some g) z.2))))) (fun z=>k.1.aH.l.length-z.1) (fun z=>Option.bind (kC j m (k.1.aH.l.drop z.1) z.2) L=some r) (0,E) b wA ?_
   rintro ⟨M,o⟩ b bM a1;try dsimp only at b
   refine ag (S BI (nil ?_));refine ay fun a2 af=>?_;refine ah.bN (fun l=>Option.bind (kC j m l o) L=some r) b rfl (fun bO ak N b=>?_) (fun N b=>?_)
   ·rw [kC] at b;try dsimp only at N
    have bQ:=oD N;refine sk af ?_;clear af a2;refine aQ (TA 0 (TA 4 (TA 7 (TA 8 (TA 20 (TA 21 (TA 22 (TA 92 (TA 93 (TA 94 kN)))))))))) (fun(z:Z0)=>[]) (fun z=>((H.set g (some (.tok 2 z.dc.l.length))).set i (some (.cells (Z0.cg (some g) z))))) (fun z=>Option.bind (kC j m (k.1.aH.l.drop (M+1)) z) L=some r) ?_ ?_
    ·intro bR al;refine block ?_;refine ag ?_;obtain⟨bS,a3,b⟩:=vO ak b;refine S (ix Z8.c M a3) (S Ld ?_);refine Sl ?_;refine Sf ?_;refine nil ?_;refine bu 16 _ rfl (KA 0 (KA 4 (KA 7 (KA 8 (KA 20 (KA 21 (KA 22 (KA 92 (KA 93 (KA 94 aS.nil)))))))))) ?_;refine ag (S Fv (S Ld (S Fv (S Ld ?_))));obtain⟨bT,a4,b⟩:=vO (yw _ _) b;refine Sc rfl rfl (yx a4) ?_;refine S Mv (S EX (S EX ?_))
     refine Sl ?_;refine Sf ?_;refine S As (nil ?_);refine bu 17 _ rfl (KA 0 (KA 4 (KA 7 (KA 8 (KA 16 (KA 18 (KA 20 (KA 21 (KA 22 (KA 92 (KA 93 (KA 94 aS.nil)))))))))))) ?_;refine ag (S Mv (S NB (S Mv (G0 Fv ?_))));refine G1 109 rfl Ld ?_;obtain⟨bU,a5,b⟩:=eH (fun _=>(pO _)) b;refine dz 110 rfl rfl rfl rfl rfl (fun hC=>pP (a5 hC)) ?_;refine S PA (S Mv (G0 Fv ?_));refine G1 114 rfl Ld ?_
     refine G1 115 rfl NB ?_;refine S PA (nil ?_);obtain⟨bV,am,b⟩:=dI b;refine cO b (fun a6 b=>?_) (fun a6 b=>?_)
     ·refine region ?_;refine S Mv (S Mv ?_);obtain⟨bW,a7,b⟩:=qO rfl b;refine s0 (cL rfl rfl a7) rfl ?_;refine S Fv (S Ld ?_);obtain⟨bX,a8,b⟩:=qO rfl b;refine s0 (cL rfl rfl a8) rfl ?_;obtain⟨bY,a9,b⟩:=qO rfl b;refine s0 (cL rfl rfl a9) rfl ?_;obtain⟨O,a_,b⟩:=qO (tZ _ _ _) b;refine sH (bP rfl rfl (t_ a_ _ av av)) rfl ?_;refine hq ((H.set g (some (.tok 2 O.dc.l.length))).set i (some (.cells (Z0.cg (some g) O)))) ?_
      refine nil ?_;have b:=ku am b;exact al _ O wA b
     refine ah.skip ?_;have b:=ku am b;exact al _ o wA b
    rintro a' b;try dsimp only at b
    refine region ?_;refine SI ?_;refine S Mv (nil ?_);exact a1 _ ((M+1),a') wA b (dl ak)
   rw [kC] at b;have b:=ku a0 b;refine ah.exit ?_;have b:=ku X b;exact R _ o wA b
  rintro ba b;try dsimp only at b
  refine region ?_;refine SI ?_;refine S Mv (nil ?_);exact ap _ ((y+1),ba) wA b (dl Q)
 rw [mW] at b;have b:=ku ao b;refine ah.exit ?_;repeat (first|refine ff ?_|refine fe ?_|refine fc ?_)
 obtain rfl:=oJ b;refine bn.fq ((H.set g (some (.tok 2 w.dc.l.length))).set i (some (.cells (Z0.cg (some g) w)))) (xs:=[]) rfl ⟨rfl,rfl⟩ ?_;exact(fun _ _ h=>h)
def l8 (f:aj):List Bs->Nat->Z0->Option (Z0)
 | [],i,b=>some b
 | m::o,i,b=>on (m) fun j=>on (rC b j (2:Int)) fun g=>on (bif (decide (g=(0:Int))) then(⟨f.aX.nl,f.aX.l.take i⟩:Sl Bs) else(Sl.nil:Sl Bs)) fun p=>on (bif (decide (g=(0:Int))) then lN p j else false) fun q=>on (bif ((decide (g=(0:Int)))&&q) then((7:Int)) else(g)) fun k=>Option.bind (bif (!decide (k=(0:Int))) then((iD b k f.aa).bind fun r=>some r) else(on (eT b.Fd j) fun s=>(ug b f s.1).bind fun t=>some t)) fun u=>l8 f (o) (i+1) u
def vU (g:Z0) (b:aj):Option Z0:=Option.bind (l8 b b.aX.l 0 g) fun f=>some f
def CI (f:Z0) (b:aj):Option Z0:=vU f b
theorem QN (a0:Z0) (b:aj):CI a0 b=vU a0 b:=rfl
theorem QO {p:Z0}{i:aj}{j g:Nat}{r:Z0}(b:CI p i=some r) (H:ai) (ak:H j=some (.cells (Z0.cg (some g) p))) (al:H g=some (.tok 2 p.dc.l.length)):AC Tryz.prog 72 [.d (.ptr j 0),.agg (aj.c i)] H fun v h'=>v=.cF []/\h'=((H.set g (some (.tok 2 r.dc.l.length))).set j (some (.cells (Z0.cg (some g) r)))):=by
 unfold CI vU at b;refine AC.oW 51 [] Tryz.call72 Tryz.func72 ?_;have am:j≠g:=fun K=>by subst K; simp_all
 refine ah.dx (h':=((H.set g (some (.tok 2 p.dc.l.length))).set j (some (.cells (Z0.cg (some g) p))))) (by funext n_; simp only [ai.set]; (repeat' split)<;>simp_all) ?_;refine ag (S BX (nil ?_));refine ag (S Fv (S Ld ?_));refine sLen (f:=aO) (s:=i.aX) (TK rfl) rfl rfl rfl rfl fun an=>?_;refine S Mv (nil ?_);refine block ?_;obtain⟨u,L,b⟩:=b_ b;refine bA (TA 0 (TA 3 (TA 10 (TA 11 kN)))) (fun(z:Nat×Z0)=>[(12,.a (.d (.int .i64 ((z.1:Nat):Int))))]) (fun z=>((H.set g (some (.tok 2 z.2.dc.l.length))).set j (some (.cells (Z0.cg (some g) z.2))))) (fun z=>i.aX.l.length-z.1) (fun z=>Option.bind (l8 i (i.aX.l.drop z.1) z.1 z.2) u=some r) (0,p) b wA ?_
 rintro ⟨m,o⟩ b ao M;try dsimp only at b
 refine ag (S BI (nil ?_));refine ay fun N y=>?_;refine ah.bN (fun l=>Option.bind (l8 i l m o) u=some r) b rfl (fun ap B w b=>?_) (fun w b=>?_)
 ·rw [l8] at b;try dsimp only at w
  have aq:=oD w;refine sk y ?_;clear y N;refine aQ (TA 0 (TA 3 (TA 10 (TA 11 (TA 12 kN))))) (fun(z:Z0)=>[]) (fun z=>((H.set g (some (.tok 2 z.dc.l.length))).set j (some (.cells (Z0.cg (some g) z))))) (fun z=>Option.bind (l8 i (i.aX.l.drop (m+1)) (m+1) z) u=some r) ?_ ?_
  ·intro au C;refine block ?_;refine ag (S Mv ?_);obtain⟨O,P,b⟩:=vO B b;refine S (ix aO m P) (S Ld (S As (S As (nil ?_))));refine ag (S Mv (S Mv ?_));obtain⟨R,U,b⟩:=vO (Hr _ _ _) b;refine s0 (eu rfl rfl (Hs U _ av)) rfl ?_;refine S As (nil ?_);refine aQ (TA 0 (TA 3 (TA 5 (TA 10 (TA 11 (TA 12 kN)))))) (fun(z:Int)=>[(6,.a (.d (.int .i64 z)))]) (fun z=>((H.set g (some (.tok 2 o.dc.l.length))).set j (some (.cells (Z0.cg (some g) o))))) (fun z=>Option.bind (Option.bind (bif (!decide (z=(0:Int))) then((iD o z i.aa).bind fun q=>some q) else(on (eT o.Fd O) fun E=>(ug o i E.1).bind fun t=>some t)) fun x=>l8 i (i.aX.l.drop (m+1)) (m+1) x) u=some r) ?_ ?_
   ·intro aw F;refine ag (S Mv (S BI (S Mv (G0 Fv ?_))));refine G1 23 rfl Ld ?_;refine G0 Mv ?_;obtain⟨ax,W,b⟩:=eH (fun _=>(Q.qP (by omega))) b;refine gC rfl rfl (fun hC=>aK (k:=24) rfl (aK (k:=25) rfl (mm (f:=aO) (l:=none) (r:=(some ((m:Nat):Int))) (TK rfl) rfl (TK rfl) rfl rfl trivial rfl (W hC)))) rfl ?_;refine G0 Mv ?_;obtain⟨az,X,b⟩:=eH (fun _=>(vm _ _)) b
    refine fw 26 27 rfl rfl rfl rfl rfl rfl (fun hC=>tM (X hC)) ?_;refine S PA (nil ?_);obtain⟨aA,G,b⟩:=gH b;refine cP b (fun Y b=>?_) (fun Y b=>?_)
    ·refine region ?_;refine S As (nil ?_);have b:=ku G b;exact F _ (7:Int) wA b
    refine ah.skip ?_;have b:=ku G b;exact F _ R wA b
   rintro aB b;try dsimp only at b
   refine ay fun Z I=>?_;refine ag (S Mv (S BI (nil ?_)));obtain⟨aC,J,b⟩:=dI b;refine cO b (fun ab b=>?_) (fun ab b=>?_)
   ·refine ag (S Mv (S Mv (S Fv (S Ld ?_))));obtain⟨q,ad,b⟩:=qO (tZ _ _ _) b;refine sH (bP rfl rfl (t_ ad _ av av)) rfl ?_;refine hq ((H.set g (some (.tok 2 q.dc.l.length))).set j (some (.cells (Z0.cg (some g) q)))) ?_;refine nil ?_;refine ah.exit ?_;have b:=ku J b;exact C _ q wA b
   refine sk I ?_;clear I Z;refine ag (S Mv (S NP ?_));refine s0 (bE (TK rfl) rfl rfl (TK rfl) rfl rfl) rfl ?_;refine s0 (bZ (TK rfl) rfl rfl av rfl) rfl ?_;refine S Mv ?_;obtain⟨E,ae,b⟩:=vO (lT _ _) b;refine Sc rfl rfl (kz ae) ?_;refine S Mv (S EX (S EX ?_));refine Sl ?_;refine Sf ?_;refine S As (nil ?_);refine bu 7 _ rfl (KA 0 (KA 3 (KA 10 (KA 11 (KA 12 aS.nil))))) ?_
   refine region ?_;refine S Mv (S Ld (S Ld ?_));obtain⟨t,af,b⟩:=qO (QL _ _ _) b;refine sH (bP rfl rfl (QM af _ av av)) rfl ?_;refine hq ((H.set g (some (.tok 2 t.dc.l.length))).set j (some (.cells (Z0.cg (some g) t)))) ?_;refine nil ?_;have b:=ku J b;exact C _ t wA b
  rintro x b;try dsimp only at b
  refine region ?_;refine SI ?_;refine S Mv (nil ?_);exact M _ ((m+1),x) wA b (dl B)
 rw [l8] at b;have b:=ku L b;refine ah.exit ?_;repeat (first|refine ff ?_|refine fe ?_|refine fc ?_)
 obtain rfl:=oJ b;refine bn.fq ((H.set g (some (.tok 2 o.dc.l.length))).set j (some (.cells (Z0.cg (some g) o)))) (xs:=[]) rfl ⟨rfl,rfl⟩ ?_;exact(fun _ _ h=>h)
def uh (g:(Sl Z9)) (b:(Z9->Option Bool)):Option Bool:=(rA g b).bind fun f=>some (decide ((0:Int)<=f))
theorem Hx {j:Sl Z9}{f:Z9->Option Bool}{w0:Option Nat}{g:D}{r:Bool}(b:uh j f=some r) (H:ai) (k:∀i r,f i=some r->k7 Tryz.prog g [.agg (Z9.c i)] H fun v h'=>v=.a (.d (.bool r))/\h'=H):AC Tryz.prog 74 [.d (Sl.d 2 Z9.c w0 j),.d g] H fun v h'=>v=.a (.d (.bool r))/\h'=H:=by
 unfold uh at b;refine AC.oW 9 [.tmp 4] Tryz.call74 Tryz.func74 ?_;refine ag (S As (nil ?_));refine ag (S Mv (S Mv ?_));obtain⟨m,l,b⟩:=bO b;refine s0 (eu rfl rfl (He l _ k)) rfl ?_;refine S BI (S As (nil ?_));exact rt b
def p6 (g:(Sl Z9)) (b:(Z9->Bool)):Bool:=on (vF g b) fun f=>(decide ((0:Int)<=f))
theorem Hy (a0:(Sl Z9)) (b:(Z9->Bool)):uh a0 (fun f=>some (b f))=some (p6 a0 b):=by
 unfold uh p6;refine Q.nD (PZ _ _) fun g i=>?_;all_goals rfl
def rF (f:Z9) (b:Z9):Bool:=((f.aa==b.aa))
def yy (f:Z9) (b:Z9):Option Bool:=some (rF f b)
theorem QR (a0:Z9) (b:Z9):yy a0 b=some (rF a0 b):=rfl
theorem QS {g b:Z9}{r:Bool}(f:yy g b=some r) (H:ai) :AC Tryz.prog 75 [.agg (Z9.c g),.d (.view (Z9.c b))] H fun v h'=>v=.a (.d (.bool r))/\h'=H:=by
 unfold yy rF at f;refine AC.oW 9 [.tmp 3] Tryz.call75 Tryz.func75 ?_;refine ag (S BX (S As (nil ?_)));refine ag (S Fv (S Ld (S Fv (S Ld (S BS (S As (nil ?_)))))));exact rt f
def l9 (f:aj):List Z9->Nat->Z0->Option (Z0)
 | [],i,b=>some b
 | m::o,i,b=>on (m) fun j=>on (rC b j.aa (1:Int)) fun g=>on (bif (decide (g=(0:Int))) then(⟨f.aG.nl,f.aG.l.take i⟩:Sl Z9) else(Sl.nil:Sl Z9)) fun p=>on (bif (decide (g=(0:Int))) then p6 p (fun q=>rF q j) else false) fun r=>on (bif ((decide (g=(0:Int)))&&r) then((7:Int)) else(g)) fun k=>Option.bind (bif (!decide (k=(0:Int))) then((bM f.aa ([46]:Bs)).bind fun s=>(bM s j.aa).bind fun t=>(iD b k t).bind fun u=>some u) else(some b)) fun v=>l9 f (o) (i+1) v
def mX :List aj->Z0->Option (Z0)
 | [],b=>some b
 | g::i,b=>on (g) fun f=>Option.bind (bif (decide (f.an=(1:Int))) then((vU b f).bind fun j=>some j) else(bif (decide (f.an=(3:Int))) then(Option.bind (l9 f f.aG.l 0 b) fun k=>some k) else(some b))) fun m=>mX  (i) m
def uj (b:ak):Option (Sl Z6):=Option.bind (mX  b.aq.l (Z0.mk b (Sl.nil:Sl Z6))) fun f=>on (f) fun g=>some g.dc
def CJ (b:ak):Option (Sl Z6):=uj b
theorem QU (a0:ak):CJ a0=uj a0:=rfl
theorem QV {q:ak}{r:Sl Z6}(b:CJ q=some r) (H:ai){g:Nat}(a0:H g=some (.tok 2 0)):AC Tryz.prog 42 [.agg (ak.c q)] H fun v h'=>v=.a (.d (Sl.d 2 Z6.c (some g) r))/\h'=H.set g (some (.tok 2 r.l.length)):=by
 unfold CJ uj at b;refine AC.oW 67 [.tmp 2] Tryz.call42 Tryz.func42 ?_;refine ah.dx (h':=(H.set g (some (.tok 2 0)))) (by funext n_; simp only [ai.set]; (repeat' split)<;>simp_all) ?_;refine ag (S BX (S As (nil ?_)));refine ag (S Ld (S BU ?_));refine sE (c_.uP rfl) rfl (fun _ _ _ ⟨i,M,af,al,am⟩=>?_); subst af al am;obtain⟨a1,M⟩:=ai.dP M
 refine aP.iL i _ av (fun j w cs hh hx=>tok_cell 1 2 2 hh (t:=g) av hx rfl) ?_;refine hq ((H.set g (some (.tok 2 0))).set i (some (.cells (Z0.cg (some g) (Z0.mk q (Sl.nil:Sl Z6)))))) ?_;refine S As (nil ?_);refine aQ (TA 3 kN) (fun(z:Z0)=>[]) (fun z=>((H.set g (some (.tok 2 z.dc.l.length))).set i (some (.cells (Z0.cg (some g) z))))) (fun z=>(some z.dc)=some r) ?_ ?_
 ·intro a2 an;refine ag (S Fv (S Ld ?_));refine sLen (f:=aj.c) (s:=q.aq) (TK rfl) rfl rfl rfl rfl fun a3=>?_;refine S Mv (nil ?_);refine block ?_;obtain⟨C,ao,b⟩:=b_ b;refine bA (TA 3 (TA 13 (TA 14 kN))) (fun(z:Nat×Z0)=>[(15,.a (.d (.int .i64 ((z.1:Nat):Int))))]) (fun z=>((H.set g (some (.tok 2 z.2.dc.l.length))).set i (some (.cells (Z0.cg (some g) z.2))))) (fun z=>q.aq.l.length-z.1) (fun z=>Option.bind (mX  (q.aq.l.drop z.1) z.2) C=some r) (0,(Z0.mk q (Sl.nil:Sl Z6))) b wA ?_
  rintro ⟨E,y⟩ b a4 ap;try dsimp only at b
  refine ag (S BI (nil ?_));refine ay fun au N=>?_;refine ah.bN (fun l=>Option.bind (mX  l y) C=some r) b rfl (fun a5 O F b=>?_) (fun F b=>?_)
  ·rw [mX] at b;try dsimp only at F
   have a6:=oD F;refine sk N ?_;clear N au;refine aQ (TA 3 (TA 13 (TA 14 (TA 15 kN)))) (fun(z:Z0)=>[]) (fun z=>((H.set g (some (.tok 2 z.dc.l.length))).set i (some (.cells (Z0.cg (some g) z))))) (fun z=>Option.bind (mX  (q.aq.l.drop (E+1)) z) C=some r) ?_ ?_
   ·intro a7 G;refine block ?_;refine ag ?_;obtain⟨m,aw,b⟩:=vO O b;refine S (ix aj.c E aw) (S Ld ?_);refine Sl ?_;refine Sf ?_;refine nil ?_;refine bu 5 _ rfl (KA 3 (KA 13 (KA 14 (KA 15 aS.nil)))) ?_;refine ag (S Fv (S Ld (nil ?_)));refine block ?_;refine ag (S BI (S As (nil ?_)));obtain⟨a8,I,b⟩:=dI b;refine cO b (fun ax b=>?_) (fun ax b=>?_)
    ·refine region ?_;refine S Mv (S Ld ?_);obtain⟨J,az,b⟩:=qO (QN _ _) b;refine sH (bP rfl rfl (QO az _ av av)) rfl ?_;refine hq ((H.set g (some (.tok 2 J.dc.l.length))).set i (some (.cells (Z0.cg (some g) J)))) ?_;refine nil ?_;have b:=ku I b;exact G _ J wA b
    refine ag (S BI (S As (nil ?_)));refine cO b (fun aA b=>?_) (fun aA b=>?_)
    ·refine ag (S Fv (S Ld ?_));refine sLen (f:=Z9.c) (s:=m.aG) (TK rfl) rfl rfl rfl rfl fun a9=>?_;refine S Mv (nil ?_);refine block ?_;obtain⟨B,aB,b⟩:=dI b;refine bA (TA 3 (TA 5 (TA 13 (TA 14 (TA 15 (TA 29 (TA 30 kN))))))) (fun(z:Nat×Z0)=>[(31,.a (.d (.int .i64 ((z.1:Nat):Int))))]) (fun z=>((H.set g (some (.tok 2 z.2.dc.l.length))).set i (some (.cells (Z0.cg (some g) z.2))))) (fun z=>m.aG.l.length-z.1) (fun z=>Option.bind (l9 m (m.aG.l.drop z.1) z.1 z.2) B=some r) (0,y) b wA ?_
     rintro ⟨p,u⟩ b a_ aC;try dsimp only at b
     refine ag (S BI (nil ?_));refine ay fun aD P=>?_;refine ah.bN (fun l=>Option.bind (l9 m l p u) B=some r) b rfl (fun a' R K b=>?_) (fun K b=>?_)
     ·rw [l9] at b;try dsimp only at K
      have ba:=oD K;refine sk P ?_;clear P aD;refine aQ (TA 3 (TA 5 (TA 13 (TA 14 (TA 15 (TA 29 (TA 30 (TA 31 kN)))))))) (fun(z:Z0)=>[]) (fun z=>((H.set g (some (.tok 2 z.dc.l.length))).set i (some (.cells (Z0.cg (some g) z))))) (fun z=>Option.bind (l9 m (m.aG.l.drop (p+1)) (p+1) z) B=some r) ?_ ?_
      ·intro bb U;refine block ?_;refine ag (S Mv ?_);obtain⟨W,aE,b⟩:=vO R b;refine S (ix Z9.c p aE) (S Ld ?_);refine Sl ?_;refine S As ?_;refine Sf ?_;refine nil ?_;refine bu 7 _ rfl (KA 3 (KA 5 (KA 6 (KA 13 (KA 14 (KA 15 (KA 29 (KA 30 (KA 31 aS.nil))))))))) ?_;refine ag (S Mv (S Fv (S Ld ?_)));obtain⟨aF,aH,b⟩:=vO (Hr _ _ _) b;refine s0 (eu rfl rfl (Hs aH _ av)) rfl ?_
       refine S As (nil ?_);refine aQ (TA 3 (TA 5 (TA 7 (TA 13 (TA 14 (TA 15 (TA 29 (TA 30 (TA 31 kN))))))))) (fun(z:Int)=>[(8,.a (.d (.int .i64 z)))]) (fun z=>((H.set g (some (.tok 2 u.dc.l.length))).set i (some (.cells (Z0.cg (some g) u))))) (fun z=>Option.bind (Option.bind (bif (!decide (z=(0:Int))) then((bM m.aa ([46]:Bs)).bind fun X=>(bM X W.aa).bind fun Y=>(iD u z Y).bind fun x=>some x) else(some u)) fun L=>l9 m (m.aG.l.drop (p+1)) (p+1) L) B=some r) ?_ ?_
       ·intro bc Z;refine ag (S Mv (S BI (S Mv (G0 Fv ?_))));refine G1 43 rfl Ld ?_;refine G0 Mv ?_;obtain⟨aI,aJ,b⟩:=eH (fun _=>(Q.qP (by omega))) b;refine gC rfl rfl (fun hC=>aK (k:=44) rfl (aK (k:=45) rfl (mm (f:=Z9.c) (l:=none) (r:=(some ((p:Nat):Int))) (TK rfl) rfl (TK rfl) rfl rfl trivial rfl (aJ hC)))) rfl ?_;refine gC rfl rfl (fun hC=>makeFunc rfl) rfl ?_
        obtain⟨bd,aL,b⟩:=eH (o:=uh aI (fun aM=>yy aM W)) (fun _=>(by simp only [QR,Hy])) b;refine gC rfl rfl (fun hC=>aK (k:=46) rfl (aK (k:=47) rfl (iJ rfl rfl (fun H=>Hx (aL hC) H (fun _ _ hx=>QS hx _))))) rfl ?_;refine S PA (nil ?_);obtain⟨be,ab,b⟩:=gH b;refine cP b (fun aN b=>?_) (fun aN b=>?_)
        ·refine region ?_;refine S As (nil ?_);have b:=ku ab b;exact Z _ (7:Int) wA b
        refine ah.skip ?_;have b:=ku ab b;exact Z _ aF wA b
       rintro bf b;try dsimp only at b
       refine ag (S Mv (S BI (nil ?_)));obtain⟨bg,ad,b⟩:=dI b;refine cO b (fun aO b=>?_) (fun aO b=>?_)
       ·refine region ?_;refine S Mv (S Mv (S Fv (S Ld ?_)));obtain⟨X,aR,b⟩:=qO rfl b;refine s0 (cL rfl rfl aR) rfl ?_;refine S Fv (S Ld ?_);obtain⟨Y,aT,b⟩:=qO rfl b;refine s0 (cL rfl rfl aT) rfl ?_;obtain⟨x,aU,b⟩:=qO (tZ _ _ _) b;refine sH (bP rfl rfl (t_ aU _ av av)) rfl ?_;refine hq ((H.set g (some (.tok 2 x.dc.l.length))).set i (some (.cells (Z0.cg (some g) x)))) ?_
        refine nil ?_;have b:=ku ad b;exact U _ x wA b
       refine ah.skip ?_;have b:=ku ad b;exact U _ u wA b
      rintro L b;try dsimp only at b
      refine region ?_;refine SI ?_;refine S Mv (nil ?_);exact aC _ ((p+1),L) wA b (dl R)
     rw [l9] at b;have b:=ku aB b;refine ah.exit ?_;have b:=ku I b;exact G _ u wA b
    refine ah.skip ?_;have b:=ku I b;exact G _ y wA b
   rintro aV b;try dsimp only at b
   refine region ?_;refine SI ?_;refine S Mv (nil ?_);exact ap _ ((E+1),aV) wA b (dl O)
  rw [mX] at b;have b:=ku ao b;refine ah.exit ?_;obtain⟨bh,aW,b⟩:=bW b;have b:=ku aW b;exact an _ y wA b
 rintro aX b;try dsimp only at b
 refine ag (S Mv (S NP ?_));refine s0 (bE (TK rfl) rfl rfl (TK rfl) rfl rfl) rfl ?_;refine s0 (bZ (TK rfl) rfl rfl av rfl) rfl ?_;refine S As (nil ?_);refine ah.ret ?_;repeat (first|refine bF ?_|refine bG ?_)
 obtain rfl:=oJ b;refine bn.bH (H.set g (some (.tok 2 aX.dc.l.length))) rfl ⟨rfl,rfl⟩ ?_;intro aY bi ae;have bj:aY≠i:=fun aZ=>by subst aZ; simp_all [ai.set]
 rw [<- ae];simp only [ai.set] at ae ⊢
 (repeat' split)<;>simp_all
def l_ (b:af) (g:Bs):Option (af×Bool):=on (lM b.aN g) fun f=>bif (((!decide (b.an=(6:Int)))||(decide (f<(0:Int))))||(decide (((b.aD.l.length:Nat):Int)<=f))) then(some ((af.mk (0:Int) (0:Int) ([]:Bs) true ([]) (Sl.nil:Sl Bs)),false)) else((dh b.aD.l f).bind fun i=>(mJ i).bind fun j=>some (j,true))
def CK (f:af) (b:Bs):Option (af×Bool):=l_ f b
theorem CL (a0:af) (b:Bs):CK a0 b=l_ a0 b:=rfl
theorem CM {g:af}{i:Bs}{r:af×Bool}(b:CK g i=some r) (H:ai) :AC Tryz.prog 141 [.agg (af.c g),.d (.str i)] H fun v h'=>v=.cF [.agg (af.c r.1),.d (.bool r.2)]/\h'=H:=by
 unfold CK l_ at b;refine AC.oW 32 [.cell 4 61,.tmp 5] Tryz.call141 Tryz.func141 ?_;refine ag (S BX ?_);refine Sl ?_;refine S As (nil ?_);refine ag (S Fv (S Ld (S Mv ?_)));obtain⟨t,l,b⟩:=vT (GP _ _) b;refine Sc rfl rfl (GQ l) ?_;refine S As (nil ?_);refine ay fun m j=>?_;refine ag (S Fv (S Ld (S BI (S Mv (G0 Mv ?_)))));refine G1 15 rfl BI ?_;refine S PO (S Mv (G0 Mv (G0 Fv ?_)))
 refine gC rfl rfl (fun hC=>aK (k:=20) rfl (dZ (TK rfl) rfl rfl (congrArg (fun x=>some (A.d x)) (af.dW _)))) rfl ?_;refine gC rfl rfl (fun hC=>aK (k:=21) rfl (cK (f:=af.c) (s:=g.aD) (TK rfl) rfl rfl rfl)) rfl ?_;refine G2 19 22 rfl rfl BI ?_;refine S PO (nil ?_);refine cE b (fun o b=>?_) (fun o b=>?_)
 ·refine ag (S BU ?_);refine Sf ?_;refine S As (nil ?_);exact rt b
 refine sk j ?_;clear j m;refine ag (S Fv ?_);refine s0 (dZ (TK rfl) rfl rfl (congrArg (fun x=>some (A.d x)) (af.dW _))) rfl ?_;refine S Mv ?_;obtain⟨u,p,b⟩:=qT rfl b;refine s0 (jS (f:=af.c) (TK rfl) rfl (TK rfl) rfl rfl rfl p) rfl ?_;refine S Ld ?_;obtain⟨w,q,b⟩:=qT (ya _) b;refine Sc rfl rfl (x_ q) ?_;refine Sf ?_;refine S As (nil ?_)
 exact rt b
def p7 (f:Z1) (b:af):Option Bool:=bif ((!decide (b.an=(7:Int)))||(!f.k_)) then(some false) else((l_ f.ep b.bg).bind fun g=>some (!g.2))
def CN (f:Z1) (b:af):Option Bool:=p7 f b
theorem Hz (a0:Z1) (b:af):CN a0 b=p7 a0 b:=rfl
theorem HA {j:Z1}{f:af}{g:Nat}{r:Bool}(b:CN j f=some r) (H:ai) (p:H g=some (.cells (Z1.c j))):AC Tryz.prog 115 [.d (.ptr g 0),.agg (af.c f)] H fun v h'=>v=.a (.d (.bool r))/\h'=H:=by
 unfold CN p7 at b;refine AC.oW 29 [.tmp 4] Tryz.call115 Tryz.func115 ?_;refine ag (S BX (S As (nil ?_)));refine ay fun l i=>?_;refine ag (S Fv (S Ld (S BI (S Mv (G0 Mv ?_)))));refine G1 11 rfl NP ?_;refine gC rfl rfl (fun hC=>aK (k:=12) rfl (bE (TK rfl) rfl rfl (TK rfl) rfl rfl)) rfl ?_;refine gC rfl rfl (fun hC=>aK (k:=13) rfl (bZ (TK rfl) rfl rfl av rfl)) rfl ?_;refine G1 14 rfl NB ?_
 refine S PO (nil ?_);refine cE b (fun m b=>?_) (fun m b=>?_)
 ·refine ag (S As (nil ?_));exact rt b
 refine sk i ?_;clear i l;refine ah.cr (Sd Mv (Sd NP ?_));refine au.s0 (bE (TK rfl) rfl rfl (TK rfl) rfl rfl) rfl ?_;refine au.s0 (bZ (TK rfl) rfl rfl av rfl) rfl ?_;refine Sd Fv (Sd Ld ?_);obtain⟨q,o,b⟩:=qT (CL _ _) b;refine cM rfl rfl (CM o) ?_;refine Sd Mv (Sd EX (Sd EX ?_));refine au.sB (TK rfl) rfl rfl ?_ (by repeat (first|exact bL.nil|apply bL.cons))
 refine au.dB (eG (TK rfl) rfl rfl rfl rfl rfl) ?_;refine Sd As ?_;refine au.nil (by decide +kernel) ?_;refine bu 5 _ rfl (KA 6 aS.nil) ?_;refine ag (S Mv (S NB (S As (nil ?_))));exact rt b
def ou (g:af) (b:Int):Option (af×Int):=bif (!decide (b=(0:Int))) then(some ((af.mk (0:Int) (0:Int) ([]:Bs) true ([]) (Sl.nil:Sl Bs)),b)) else((mJ g).bind fun f=>some (f,(0:Int)))
def CO (f:af) (b:Int):Option (af×Int):=ou f b
theorem QW (a0:af) (b:Int):CO a0 b=ou a0 b:=rfl
theorem QX {i:af}{f:Int}{r:af×Int}(b:CO i f=some r) (H:ai) :AC Tryz.prog 117 [.agg (af.c i),.d (.int .i64 f)] H fun v h'=>v=.cF [.agg (af.c r.1),.d (.int .i64 r.2)]/\h'=H:=by
 unfold CO ou at b;refine AC.oW 12 [.cell 4 61,.tmp 5] Tryz.call117 Tryz.func117 ?_;refine ag (S BX ?_);refine Sl ?_;refine S As (nil ?_);refine ay fun j g=>?_;refine ag (S Mv (S BI (nil ?_)));refine cE b (fun k b=>?_) (fun k b=>?_)
 ·refine ag (S BU (S Mv ?_));refine Sf ?_;refine S As (nil ?_);exact rt b
 refine sk g ?_;clear g j;refine ag (S Ld ?_);obtain⟨m,l,b⟩:=qT (ya _) b;refine Sc rfl rfl (x_ l) ?_;refine Sf ?_;refine S As (nil ?_);exact rt b
def ov (b:Z1) (g:Int):Option (Int×Z1):=bif (decide ((24:Int)<g)) then(some ((5:Int),b)) else((cG b.nE (1:Int)).bind fun f=>bif (decide ((4096:Int)<f)) then(some ((4:Int),(Z1.mk b.Fd b.ep b.k_ f))) else(some ((0:Int),(Z1.mk b.Fd b.ep b.k_ f))))
def CP (f:Z1) (b:Int):Option (Int×Z1):=ov f b
theorem HB (a0:Z1) (b:Int):CP a0 b=ov a0 b:=rfl
theorem HC {f:Z1}{i:Int}{g:Nat}{r:Int×Z1}(b:CP f i=some r) (H:ai) (t:H g=some (.cells (Z1.c f))):AC Tryz.prog 145 [.d (.ptr g 0),.d (.int .i64 i)] H fun v h'=>v=.a (.d (.int .i64 r.1))/\h'=(H.set g (some (.cells (Z1.c r.2)))):=by
 unfold CP ov at b;refine AC.oW 19 [.tmp 4] Tryz.call145 Tryz.func145 ?_;refine ah.dx (h':=(H.set g (some (.cells (Z1.c f))))) (by funext n_; simp only [ai.set]; (repeat' split)<;>simp_all) ?_;refine ag (S As (nil ?_));refine ay fun l j=>?_;refine ag (S Mv (S BI (nil ?_)));refine cE b (fun m b=>?_) (fun m b=>?_)
 ·refine ag (S As (nil ?_));exact rt b
 refine sk j ?_;clear j l;refine ag (S Mv (S NP ?_));refine s0 (bE (TK rfl) rfl rfl (TK rfl) rfl rfl) rfl ?_;refine s0 (bZ (TK rfl) rfl rfl av rfl) rfl ?_;obtain⟨o,p,b⟩:=qT rfl b;refine s0 (eR rfl rfl p) rfl ?_;refine S NP ?_;refine s0 (bE (TK rfl) rfl rfl (TK rfl) rfl rfl) rfl ?_;refine dA (fO (TK rfl) rfl rfl av rfl (by repeat (first|exact bJ.zero|apply bJ.succ))) rfl rfl ?_
 refine hq (H.set g (some (.cells (Z1.c (Z1.mk f.Fd f.ep f.k_ o))))) ?_;refine nil ?_;refine ay fun q k=>?_;refine ag (S Mv (S NP ?_));refine s0 (bE (TK rfl) rfl rfl (TK rfl) rfl rfl) rfl ?_;refine s0 (bZ (TK rfl) rfl rfl av rfl) rfl ?_;refine S BI (nil ?_);refine cE b (fun s b=>?_) (fun s b=>?_)
 ·refine ag (S As (nil ?_));exact rt b
 refine sk k ?_;clear k q;refine ag (S As (nil ?_));exact rt b
def ow (i:Int) (g:Z1->af->Int->Option (Int×Z1)):List af->Z1->Option (Z1 ⊕ ((Int×Z1)))
 | [],f=>some (Sum.inl f)
 | j::k,f=>on (j) fun l=>(cG i (1:Int)).bind fun m=>(g f l m).bind fun b=>bif (!decide (b.1=(0:Int))) then(some (Sum.inr (b.1,b.2))) else(ow i g (k) b.2)
def kD:Nat->Z1->af->Int->Option (Int×Z1)
 | 0,_,_,_=>none
 | n+1,o,g,f=>(ov o f).bind fun b=>bif (!decide (b.1=(0:Int))) then(some (b.1,b.2)) else(Option.bind (ow f (kD n) g.aD.l b.2) fun i=>match i with|Sum.inl j=>(on (j) fun k=>some ((0:Int),k))|Sum.inr m=>(some m))
def CQ (n:Nat):Prop:=∀{a0:Z1}{f:af}{a2:Int}  {b:Nat}{r:(Int×Z1)},kD n a0 f a2=some r->∀(H:ai) (g:H b=some (.cells (Z1.c a0))),AC Tryz.prog 144 [.d (.ptr b 0),.agg (af.c f),.d (.int .i64 a2)] H fun v h'=>v=.a (.d (.int .i64 r.1))/\h'=(H.set b (some (.cells (Z1.c r.2))))
theorem QY (n:Nat) (C:CQ (ax:=ax) n):CQ (ax:=ax) (n+1):=by
 intro R i B  g r b H U;rw [kD] at b;refine AC.oW 33 [.tmp 6] Tryz.call144 Tryz.func144 ?_;refine ah.dx (h':=(H.set g (some (.cells (Z1.c R))))) (by funext n_; simp only [ai.set]; (repeat' split)<;>simp_all) ?_;refine ag (S BX (S As (nil ?_)));refine ay fun E m=>?_;refine ag (S Mv (S Mv ?_));obtain⟨o,F,b⟩:=qT (HB _ _) b;refine sH (bP rfl rfl (HC F _ av)) rfl ?_
 refine hq (H.set g (some (.cells (Z1.c o.2)))) ?_;refine S As (nil ?_);refine ag (S Mv (S BI (nil ?_)));refine cE b (fun G b=>?_) (fun G b=>?_)
 ·refine ag (S Mv (S As (nil ?_)));exact rt b
 refine sk m ?_;clear m E;refine aQ kN (fun(z:Z1)=>[]) (fun z=>(H.set g (some (.cells (Z1.c z))))) (fun z=>(some ((0:Int),z))=some r) ?_ ?_
 ·intro W I;refine ag (S Fv ?_);refine s0 (dZ (TK rfl) rfl rfl (congrArg (fun x=>some (A.d x)) (af.dW _))) rfl ?_;refine sLen (f:=af.c) (s:=i.aD) (TK rfl) rfl rfl rfl rfl fun X=>?_;refine S Mv (nil ?_);refine block ?_;obtain⟨p,q,b⟩:=b_ b;refine bA (TA 0 (TA 2 (TA 18 (TA 19 kN)))) (fun(z:Nat×Z1)=>[(20,.a (.d (.int .i64 ((z.1:Nat):Int))))]) (fun z=>(H.set g (some (.cells (Z1.c z.2))))) (fun z=>i.aD.l.length-z.1) (fun z=>Option.bind (ow B (kD n) (i.aD.l.drop z.1) z.2) p=some r) (0,o.2) b wA ?_
  rintro ⟨t,u⟩ b Y J;try dsimp only at b
  refine ag (S BI (nil ?_));refine ay fun K v=>?_;refine ah.bN (fun l=>Option.bind (ow B (kD n) l u) p=some r) b rfl (fun Z w j b=>?_) (fun j b=>?_)
  ·rw [ow] at b;try dsimp only at j
   have aa:=oD j;refine sk v ?_;clear v K;refine ay fun L y=>?_;refine block ?_;refine ag ?_;obtain⟨ab,M,b⟩:=vO w b;refine S (ix af.c t M) (S Ld ?_);refine Sl ?_;refine Sf ?_;refine nil ?_;refine bu 9 _ rfl (KA 0 (KA 2 (KA 18 (KA 19 (KA 20 aS.nil))))) ?_;refine ag (S Mv (S Ld (S Mv ?_)));obtain⟨ad,N,b⟩:=qO rfl b;refine s0 (eR rfl rfl N) rfl ?_
   obtain⟨k,O,b⟩:=qO rfl b;refine sH (bP rfl rfl (C O _ av)) rfl ?_;refine hq (H.set g (some (.cells (Z1.c k.2)))) ?_;refine S As (nil ?_);refine ag (S Mv (S BI (nil ?_)));refine cO b (fun P b=>?_) (fun P b=>?_)
   ·refine ag (S Mv (S As (nil ?_)));refine ah.ret ?_;repeat (first|refine bF ?_|refine bG ?_)
    have b:=ku q b;obtain rfl:=oJ b;refine bn.bH (H.set g (some (.cells (Z1.c k.2)))) rfl ⟨rfl,rfl⟩ ?_;exact(fun _ _ h=>h)
   refine sk y ?_;clear y L;refine region ?_;refine SI ?_;refine S Mv (nil ?_);exact J _ ((t+1),k.2) wA b (dl w)
  rw [ow] at b;have b:=ku q b;try dsimp only at b
  refine ah.exit ?_;obtain⟨ae,Q,b⟩:=bW b;have b:=ku Q b;exact I _ u wA b
 rintro aj b;try dsimp only at b
 refine ag (S As (nil ?_));exact rt b
theorem HD:∀(n:Nat),(CQ (ax:=ax) n)
 | 0=>fun b=>by first|cases b|(rw [kD] at b; cases b)
 | n+1=>QY n (HD n)
def HE (f:Z1) (b:af) (g:Int):Option (Int×Z1):=kD F0 f b g
theorem QZ {g:Z1}{f:af}{i:Int}{b:Nat}{r:Int×Z1}(j:HE g f i=some r) (H:ai) (k:H b=some (.cells (Z1.c g))):AC Tryz.prog 144 [.d (.ptr b 0),.agg (af.c f),.d (.int .i64 i)] H fun v h'=>v=.a (.d (.int .i64 r.1))/\h'=(H.set b (some (.cells (Z1.c r.2)))):=(HD F0) j H k
def yz (f:Z1) (b:af) (g:Int):Option (Int×Z1):=kD F0 f b g
theorem Q0 (a0:Z1) (b:af) (a2:Int):HE a0 b a2=yz a0 b a2:=rfl
def yA (g:af) (f:Bool) (b:Z1):Z1:=(Z1.mk b.Fd g f b.nE)
def CR (f:af) (b:Bool) (g:Z1):Option Z1:=some (yA f b g)
theorem Q1 (a0:af) (b:Bool) (a2:Z1):CR a0 b a2=some (yA a0 b a2):=rfl
theorem Q2 {f:af}{g:Bool}{b:Z1}{c2:Nat}{r:Z1}(i:CR f g b=some r) (H:ai) (j:H c2=some (.cells (Z1.c b))):nx Tryz.prog 183 [.d (.view (af.c f)),.d (.view (sU g)),.d (.view [.ptr c2 0])] H fun v h'=>v=.cF []/\h'=(H.set c2 (some (.cells (Z1.c r)))):=by
 unfold CR yA at i;refine nx.of_wp (fn:=Tryz.f183) (c:=_) Tryz.bI (fun _ _=>Tryz.call183 _ _) Tryz.func183 rfl (n:=11) rfl (rs:=[]) rfl rfl ?_;refine ah.dx (h':=(H.set c2 (some (.cells (Z1.c b))))) (by funext n_; simp only [ai.set]; (repeat' split)<;>simp_all) ?_;refine region ?_;refine S Ld (S Ld (S Ld (S Ld (S NP ?_))));refine s0 (bE (TK rfl) rfl rfl (TK rfl) rfl rfl) rfl ?_
 refine dA (qF (TK rfl) rfl rfl av rfl (Nat.le_of_ble_eq_true rfl) rfl rfl) rfl rfl ?_;refine hq (H.set c2 (some (.cells (Z1.c (Z1.mk b.Fd f b.k_ b.nE))))) ?_;refine S NP ?_;refine s0 (bE (TK rfl) rfl rfl (TK rfl) rfl rfl) rfl ?_;refine dA (fO (TK rfl) rfl rfl av rfl (by repeat (first|exact bJ.zero|apply bJ.succ))) rfl rfl ?_;refine hq (H.set c2 (some (.cells (Z1.c (Z1.mk b.Fd f g b.nE))))) ?_
 refine nil ?_;repeat (first|refine ff ?_|refine fe ?_|refine fc ?_)
 obtain rfl:=oJ i;refine bn.fq (H.set c2 (some (.cells (Z1.c (Z1.mk b.Fd f g b.nE))))) (xs:=[]) rfl ⟨rfl,rfl⟩ ?_;exact(fun _ _ h=>h)
def vV (b:Bs):af:=(af.mk (3:Int) (0:Int) b true ([]) (Sl.nil:Sl Bs))
def CS (b:Bs):Option af:=some (vV b)
theorem Q3 (a0:Bs):CS a0=some (vV a0):=rfl
theorem Q4 {f:Bs}{r:af}(b:CS f=some r) (H:ai) :AC Tryz.prog 167 [.d (.str f)] H fun v h'=>v=.a (.agg (af.c r))/\h'=H:=by
 unfold CS vV at b;refine AC.oW 5 [.cell 2 61] Tryz.call167 Tryz.func167 ?_;refine ag ?_;refine Sl ?_;refine nil ?_;refine ag (S Mv (S BU ?_));refine Sf ?_;refine nil ?_;exact rt b
def Tryz.Q5:Go.Shelf.Ren:=⟨fun|171=>184|243=>191|246=>193|283=>194|284=>195|285=>196|286=>197|129=>199|317=>198|318=>200|319=>201|320=>202|337=>203|338=>204|n=>n,fun|3=>3|9=>9|2=>2|4=>4|171=>197|0=>0|53=>198|37=>196|5=>5|173=>201|212=>205|51=>206|20=>20|213=>207|46=>209|232=>212|233=>213|n=>n,fun|17=>0|18=>1|19=>2|n=>n⟩
theorem Tryz.Q6:Go.Proofs.LaysM.n171 Tryz.prog Tryz.Q5:={
 mixed:=by kernel_rfl
 f129:=Tryz.func199.trans (congrArg some (by kernel_rfl))
 f171:=Tryz.func184.trans (congrArg some (by kernel_rfl))
 f243:=Tryz.func191.trans (congrArg some (by kernel_rfl))
 f246:=Tryz.func193.trans (congrArg some (by kernel_rfl))
 f283:=Tryz.func194.trans (congrArg some (by kernel_rfl))
 f284:=Tryz.func195.trans (congrArg some (by kernel_rfl))
 f285:=Tryz.func196.trans (congrArg some (by kernel_rfl))
 f286:=Tryz.func197.trans (congrArg some (by kernel_rfl))
 f317:=Tryz.func198.trans (congrArg some (by kernel_rfl))
 f318:=Tryz.func200.trans (congrArg some (by kernel_rfl))
 f319:=Tryz.func201.trans (congrArg some (by kernel_rfl))
 f320:=Tryz.func202.trans (congrArg some (by kernel_rfl))
 f337:=Tryz.func203.trans (congrArg some (by kernel_rfl))
 f338:=Tryz.func204.trans (congrArg some (by kernel_rfl))
 t0:=Tryz.underlying0
 a0:=Tryz.isAgg0
 z0:=Tryz.sizeOf0
 v0:=Tryz.zeroValue0
 t2:=Tryz.underlying2
 a2:=Tryz.isAgg2
 z2:=Tryz.sizeOf2
 v2:=Tryz.zeroValue2
 t3:=Tryz.underlying3
 a3:=Tryz.isAgg3
 z3:=Tryz.sizeOf3
 v3:=Tryz.zeroValue3
 t4:=Tryz.underlying4
 a4:=Tryz.isAgg4
 z4:=Tryz.sizeOf4
 v4:=Tryz.zeroValue4
 t5:=Tryz.underlying5
 a5:=Tryz.isAgg5
 z5:=Tryz.sizeOf5
 v5:=Tryz.zeroValue5
 t9:=Tryz.underlying9
 a9:=Tryz.isAgg9
 z9:=Tryz.sizeOf9
 v9:=Tryz.zeroValue9
 t20:=Tryz.underlying20
 a20:=Tryz.isAgg20
 z20:=Tryz.sizeOf20
 v20:=Tryz.zeroValue20
 t37:=Tryz.underlying196
 a37:=Tryz.isAgg196
 z37:=Tryz.sizeOf196
 v37:=Tryz.zeroValue196
 t46:=Tryz.underlying209
 a46:=Tryz.isAgg209
 z46:=Tryz.sizeOf209
 v46:=Tryz.zeroValue209
 t51:=Tryz.underlying206
 a51:=Tryz.isAgg206
 z51:=Tryz.sizeOf206
 v51:=Tryz.zeroValue206
 t53:=Tryz.underlying198
 a53:=Tryz.isAgg198
 z53:=Tryz.sizeOf198
 v53:=Tryz.zeroValue198
 t171:=Tryz.underlying197
 a171:=Tryz.isAgg197
 z171:=Tryz.sizeOf197
 v171:=Tryz.zeroValue197
 t173:=Tryz.underlying201
 a173:=Tryz.isAgg201
 z173:=Tryz.sizeOf201
 v173:=Tryz.zeroValue201
 t212:=Tryz.underlying205
 a212:=Tryz.isAgg205
 z212:=Tryz.sizeOf205
 v212:=Tryz.zeroValue205
 t213:=Tryz.underlying207
 a213:=Tryz.isAgg207
 z213:=Tryz.sizeOf207
 t232:=Tryz.underlying212
 a232:=Tryz.isAgg212
 z232:=Tryz.sizeOf212
 v232:=Tryz.zeroValue212
 t233:=Tryz.underlying213
 a233:=Tryz.isAgg213
 z233:=Tryz.sizeOf213
 v233:=Tryz.zeroValue213
 g17:=by kernel_rfl
 g18:=by kernel_rfl
 g19:=by kernel_rfl
 i0:=by kernel_rfl
 i2:=by kernel_rfl
 i3:=by kernel_rfl
 i4:=by kernel_rfl
 i5:=by kernel_rfl
 i9:=by kernel_rfl
 i20:=by kernel_rfl
 i37:=by kernel_rfl
 i46:=by kernel_rfl
 i51:=by kernel_rfl
 i53:=by kernel_rfl
 i171:=by kernel_rfl
 i173:=by kernel_rfl
 i212:=by kernel_rfl
 i232:=by kernel_rfl
 i233:=by kernel_rfl
 m17:=by kernel_rfl
 m18:=by kernel_rfl
 m19:=by kernel_rfl }
def vW (n:Int):Option Bs:=if -9223372036854775808<=n/\n<=9223372036854775807/\(Lib.itoa n).length<=eW then some (Lib.itoa n) else none
def CT (n:Int):Option Bs:=vW n
theorem Q7 (n:Int):vW n=CT n:=rfl
theorem Q8 {f:Int}{oT:Ab.Obj}{gT:Nat}{r:Bs}(b:vW f=some r) (H:ai) (g:H gT=some oT) (i:fU Tryz.prog oT):AC Tryz.prog 184 [.d (.int .i64 f)] H fun v h'=>v=.a (.d (.str r))/\h'=H:=by
 unfold vW at b
 split at b
 ·rename_i h
  obtain rfl:=oJ b;exact M3 Tryz.Q6 h.1 h.2.1 rfl g i h.2.2
 cases b
def rG (f:Int):Option Bs:=(CT f).bind fun b=>some b
def CU (b:Int):Option Bs:=rG b
theorem Q9 (a0:Int):CU a0=rG a0:=rfl
theorem Q_ {f:Int}{oT:Ab.Obj}{gT:Nat}{r:Bs}(b:CU f=some r) (H:ai) (i:H gT=some oT) (j:fU Tryz.prog oT):AC Tryz.prog 168 [.d (.int .i64 f)] H fun v h'=>v=.a (.d (.str r))/\h'=H:=by
 unfold CU rG at b;refine AC.oW 5 [.tmp 2] Tryz.call168 Tryz.func168 ?_;refine ag (S As (nil ?_));refine ag (S Mv ?_);obtain⟨k,g,b⟩:=qT (Q7 _) b;refine s0 (eu rfl rfl (Q8 (gT:=gT) (oT:=oT) g _ av (by assumption))) rfl ?_;refine S As (nil ?_);exact rt b
def vX (f:Z9) (b:af):Bool:=((f.aa==b.bg))
def yB (f:Z9) (b:af):Option Bool:=some (vX f b)
theorem Ra (a0:Z9) (b:af):yB a0 b=some (vX a0 b):=rfl
theorem Rb {g:Z9}{b:af}{r:Bool}(f:yB g b=some r) (H:ai) :AC Tryz.prog 169 [.agg (Z9.c g),.d (.view (af.c b))] H fun v h'=>v=.a (.d (.bool r))/\h'=H:=by
 unfold yB vX at f;refine AC.oW 9 [.tmp 3] Tryz.call169 Tryz.func169 ?_;refine ag (S BX (S As (nil ?_)));refine ag (S Fv (S Ld (S Fv (S Ld (S BS (S As (nil ?_)))))));exact rt f
def ox (k:Z1) (f:Bs) (b:af):Option (af×Int):=on (fun(m:Bool) (o:af)=>bif (!m) then(some ((af.mk (0:Int) (0:Int) ([]:Bs) true ([]) (Sl.nil:Sl Bs)),(23:Int))) else(some (o,(0:Int)))) fun g=>bif ((f==([73,110,116]:Bs))) then(g (((decide (b.an=(2:Int)))&&(decide ((-2147483648:Int)<=b.bl)))&&(decide (b.bl<(2147483648:Int)))) b) else(bif ((f==([83,116,114,105,110,103]:Bs))) then(g (decide (b.an=(3:Int))) b) else(bif ((f==([66,111,111,108,101,97,110]:Bs))) then(g (decide (b.an=(1:Int))) b) else(bif ((f==([73,68]:Bs))) then(Option.bind (bif (decide (b.an=(2:Int))) then((rG b.bl).bind fun p=>on (vV p) fun q=>some q) else(some b)) fun j=>g (decide (j.an=(3:Int))) j) else(on (bif ((decide (b.an=(3:Int)))&&(!k.k_)) then((af.mk (4:Int) b.bl b.bg b.aD.nl b.aD.l b.aN)) else(b)) fun i=>on (eT k.Fd f) fun r=>on (bif (decide (i.an=(4:Int))) then p6 r.1.aG (fun s=>vX s i) else false) fun t=>bif (!((decide (i.an=(4:Int)))&&t)) then(some ((af.mk (0:Int) (0:Int) ([]:Bs) true ([]) (Sl.nil:Sl Bs)),(23:Int))) else(some (i,(0:Int)))))))
def CV (f:Z1) (b:Bs) (g:af):Option (af×Int):=ox f b g
theorem Rc (a0:Z1) (b:Bs) (a2:af):CV a0 b a2=ox a0 b a2:=rfl
theorem Re {x:Z1}{i:Bs}{f:af}{oT:Ab.Obj}{m gT:Nat}{r:af×Int}(b:CV x i f=some r) (H:ai) (aj:H m=some (.cells (Z1.c x))) (ak:H gT=some oT) (al:fU Tryz.prog oT):AC Tryz.prog 149 [.d (.ptr m 0),.d (.str i),.agg (af.c f)] H fun v h'=>v=.cF [.agg (af.c r.1),.d (.int .i64 r.2)]/\h'=H:=by
 unfold CV ox at b;refine AC.oW 82 [.cell 6 61,.tmp 7] Tryz.call149 Tryz.func149 ?_;refine ag ?_;refine sL (sM rfl (by repeat (first|exact bL.nil|apply bL.cons))) rfl ?_;refine Sl ?_;refine S As (nil ?_);refine ag (S As (nil ?_));obtain⟨y,B,b⟩:=mT b;refine ah.MO (TA 5 (TA 6 kN)) (fun(z:Bool×af)=>[(8,.a (.d (.bool z.1)))]) (fun z=>[af.c z.2,af.c af.zero]) (fun z=>H) (fun z=>(y z.1 z.2)=some r) ?_ ?_
 ·intro am g C;refine ag (S Mv (nil ?_));refine block ?_;refine ag (S BS (S As (nil ?_)));refine cE b (fun E b=>?_) (fun E b=>?_)
  ·refine region ?_;refine S FL (S LL (S BI (S Mv (G0 FL ?_))));refine gC rfl rfl (fun hC=>sW (k:=47) rfl (sJ (TK rfl) rfl rfl rfl rfl)) rfl ?_;refine G1 48 rfl BI ?_;refine S PA (S Mv (G0 FL ?_));refine gC rfl rfl (fun hC=>sW (k:=52) rfl (sJ (TK rfl) rfl rfl rfl rfl)) rfl ?_;refine G1 53 rfl BI ?_;refine S PA (S As (nil ?_));exact g _ ((((decide (f.an=(2:Int)))&&(decide ((-2147483648:Int)<=f.bl)))&&(decide (f.bl<(2147483648:Int)))),f) wA b
  refine ag (S BS (S As (nil ?_)));refine cE b (fun F b=>?_) (fun F b=>?_)
  ·refine region ?_;refine S FL (S LL (S BI (S As (nil ?_))));exact g _ ((decide (f.an=(3:Int))),f) wA b
  refine ag (S BS (S As (nil ?_)));refine cE b (fun G b=>?_) (fun G b=>?_)
  ·refine region ?_;refine S FL (S LL (S BI (S As (nil ?_))));exact g _ ((decide (f.an=(1:Int))),f) wA b
  refine ag (S BS (S As (nil ?_)));refine cE b (fun I b=>?_) (fun I b=>?_)
  ·obtain⟨J,K,b⟩:=b_ b;refine eb (TA 5 (TA 6 kN)) (fun(z:af)=>[]) (fun z=>[af.c z,af.c af.zero]) (fun z=>H) (fun z=>J z=some r) ?_ ?_
   ·intro ao p;refine ag (S FL (S LL (S BI (nil ?_))));refine cO b (fun L b=>?_) (fun L b=>?_)
    ·refine region ?_;refine S FL (S LL ?_);obtain⟨ap,M,b⟩:=qO (Q9 _) b;refine s0 (eu rfl rfl (Q_ (gT:=gT) (oT:=oT) M _ av (by assumption))) rfl ?_;obtain⟨N,O,b⟩:=vO (Q3 _) b;refine Sc rfl rfl (Q4 O) ?_;refine Sf ?_;refine nil ?_;exact p _ N wA b
    refine ah.skip ?_;exact p _ f wA b
   rintro q b;try dsimp only at b
   have b:=ku K b;refine region ?_;refine S FL (S LL (S BI (S As (nil ?_))));exact g _ ((decide (q.an=(3:Int))),q) wA b
  obtain⟨P,Q,b⟩:=bW b;refine eb (TA 0 (TA 1 (TA 5 (TA 6 kN)))) (fun(z:af)=>[]) (fun z=>[af.c z,af.c af.zero]) (fun z=>H) (fun z=>P z=some r) ?_ ?_
  ·intro aq s;refine ag (S FL (S LL (S BI (S Mv (G0 Mv ?_)))));refine G1 16 rfl NP ?_;refine gC rfl rfl (fun hC=>aK (k:=17) rfl (bE (TK rfl) rfl rfl (TK rfl) rfl rfl)) rfl ?_;refine gC rfl rfl (fun hC=>aK (k:=18) rfl (bZ (TK rfl) rfl rfl av rfl)) rfl ?_;refine G1 19 rfl NB ?_;refine S PA (nil ?_);refine cP b (fun R b=>?_) (fun R b=>?_)
   ·refine region ?_;refine S FL ?_;refine aP.cU 0 (af.cu f) rfl (fun j w cs hh hx=>by rw [<- af.jX]; exact hx) ?_;refine Sf ?_;refine aP.cU 0 (af.c (af.mk (4:Int) f.bl f.bg f.aD.nl f.aD.l f.aN)) rfl (fun j w cs hh hx=>by rw [af.jX]; exact hx) ?_;refine nil ?_;exact s _ (af.mk (4:Int) f.bl f.bg f.aD.nl f.aD.l f.aN) wA b
   refine ah.skip ?_;exact s _ f wA b
  rintro U b;try dsimp only at b
  have b:=ku Q b;refine ag (S Mv (S NP ?_));refine s0 (bE (TK rfl) rfl rfl (TK rfl) rfl rfl) rfl ?_;refine s0 (bZ (TK rfl) rfl rfl av rfl) rfl ?_;refine S Mv ?_;obtain⟨W,X,b⟩:=vT (lT _ _) b;refine Sc rfl rfl (kz X) ?_;refine S Mv (S EX (S EX ?_));refine Sl ?_;refine Sf ?_;refine S As (nil ?_);refine bu 9 _ rfl (KA 5 (KA 6 aS.nil)) ?_;refine ah.zZ 5 _ rfl rfl ?_
  refine region ?_;refine S Fv (S Ld (S BI (S Mv (G0 Fv ?_))));refine G1 36 rfl Ld ?_;refine gC rfl rfl (fun hC=>makeFunc rfl) rfl ?_;obtain⟨au,Y,b⟩:=k9 (o:=uh W.1.aG (fun Z=>yB Z U)) (fun _=>(by simp only [Ra,Hy])) b;refine gC rfl rfl (fun hC=>aK (k:=37) rfl (aK (k:=38) rfl (iJ rfl rfl (fun H=>Hx (Y hC) H (fun _ _ hx=>Rb hx _))))) rfl ?_;refine S PA (S As (nil ?_))
  refine C _ ?_;refine ay fun aa t=>?_;refine ag (S Mv (S NB (nil ?_)));refine cE b (fun ab b=>?_) (fun ab b=>?_)
  ·refine ag (S BU ?_);refine Sf ?_;refine S As (nil ?_);exact rt b
  refine sk t ?_;clear t aa;refine ag (S Ld ?_);refine Sf ?_;refine S As (nil ?_);exact rt b
 rintro ⟨aw,ax⟩ b;try dsimp only at b
 rw [B] at b;try dsimp only at b
 refine ay fun ad u=>?_;refine ag (S Mv (S NB (nil ?_)));refine cE b (fun ae b=>?_) (fun ae b=>?_)
 ·refine ag (S BU ?_);refine Sf ?_;refine S As (nil ?_);exact rt b
 refine sk u ?_;clear u ad;refine ag (S LL ?_);refine Sf ?_;refine S As (nil ?_);exact rt b
end Go.Proofs
