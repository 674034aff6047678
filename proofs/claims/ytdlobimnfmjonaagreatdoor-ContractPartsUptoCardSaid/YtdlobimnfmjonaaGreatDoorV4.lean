import Derived.Test.YtdlobimnfmjonaaGreatDoorV3
set_option maxRecDepth 100000
set_option maxHeartbeats 2000000
set_option linter.unusedVariables false
set_option linter.unusedSimpArgs false
namespace Go.Proofs
open Go Go.Ab
open aK an ag dJ fN
attribute [local irreducible] aK aN ag an
variable {au:bS}
def B8 (a0:Z9):Bool:=(((((decide (a0.ai=(0:Int)))&&(decide (a0.bA=(0:Int))))&&((a0.bp==([]:Bs))))&&(decide (((a0.aB.l.length:Nat):Int)=(0:Int))))&&(decide (((a0.aR.l.length:Nat):Int)=(0:Int))))
theorem Wb {a0 r}(b:some (B8 a0)=some r) (H:af) :At 113 [.agg (Z9.c a0)] H (RT (.a (.d (.bool r))) H):=by
 unfold B8 at b;refine AC.oW 28 [.tmp 2] Tryz.call113 Tryz.func113 ?_;refine pq ?_;refine Gk 7 ?_;refine Gk 8 ?_;refine Y3 ?_;refine Gk 12 ?_;refine Gk 13 ?_;refine Y3 ?_;refine bI 17 rfl (fun hC=>dK (TK rfl) rfl rfl (Z9.ej _)) ?_;refine bI 18 rfl (fun hC=>dG Z9.c a0.aB) ?_;refine Gk 19 ?_;refine Y3 ?_;refine Gk 23 ?_
 refine bI 24 rfl (fun hC=>dG aG a0.aR) ?_;refine Gk 25 ?_;refine Y3 ?_;exact rt b
def mI :List Z7->Option (Unit ⊕ Bool)
 | []=>some (Sum.inl ())
 | l::m=>on (l) fun b=>on (eW b.aa) fun f=>aZ (!(!f)) (wV b.av) false fun j=>aZ (!((!f)||(!j))) (sZ b.bf) false fun p=>bif (((!f)||(!j))||(!p)) then(some (Sum.inr false)) else(aZ (b.ck) (gW b.cR) false fun g=>aZ ((b.ck&&!(!g))) (Ep b.cR) false fun k=>on (bif (!(b.ck&&((!g)||(!k)))&&(!b.ck)) then B8 b.cR else false) fun q=>bif ((b.ck&&((!g)||(!k)))||((!b.ck)&&(!q))) then(some (Sum.inr false)) else(mI  (m) ))
def qQ (a0:(Sl Z7)):Option Bool:=bif (decide ((16:Int)<((a0.l.length:Nat):Int))) then(some false) else(Option.bind (mI  a0.l ) fun b=>match b with|Sum.inl _=>(on (()) fun _=>some true)|Sum.inr f=>(some f))
theorem M0 {a0 w0 r}(b:qQ a0=some r) (H:af) :At 67 [.d (Sl.d 10 Z7.c w0 a0)] H (RT (.a (.d (.bool r))) H):=by
 unfold qQ at b;refine AC.oW 59 [.tmp 2] Tryz.call67 Tryz.func67 ?_;refine Y3 ?_;refine ar fun M m=>Y2 ?_;refine aU Z7.c a0 fun N=>Y2 ?_;refine cE b (fun p b=>?_) (fun p b=>?_)
 ·refine Y3 ?_;exact rt b
 refine sk m (aO kN (fun(z:Unit)=>[]) (fun z=>H) (fun z=>(some true)=some r) ?_ ?_)
 ·intro O q;refine Y4 ?_;obtain⟨g,f,b⟩:=bZ b;refine bz (tl [0]) (fun(z:Nat)=>[(3,vi z)]) (fun z=>H) (fun z=>a0.l.length-z) (fun z=>Option.bind (mI  (a0.l.drop z) ) g=some r) 0 b wA ?_;rintro j b P s;refine ar fun Q t=>Y3 ?_;refine aU Z7.c a0 fun R=>Y2 ?_;refine ag.bJ (fun l=>Option.bind (mI  l ) g=some r) b rfl (fun U k u b=>?_) (fun u b=>?_)
  ·rw [mI] at b;refine sk t (ar fun W v=>Y4 ?_);obtain⟨X,w,b⟩:=vO k b;refine S (ix Z7.c j w) (Y4 ?_);refine bC 4 _ rfl (kl [0,3]) ?_;refine ar fun Y y=>Y3 ?_;obtain⟨Z,B,b⟩:=eG b;refine Sc rfl rfl (mF B) (Y3 ?_);refine Gk 23 ?_;obtain⟨aa,C,b⟩:=fz b;refine dP 24 rfl rfl rfl rfl rfl (fun hC=>MZ (C hC)) ?_;refine Gk 25 ?_;refine Y3 ?_
   refine Gk 29 ?_;obtain⟨ab,E,b⟩:=uQ (CI _) b;refine dP 30 rfl rfl rfl rfl rfl (fun hC=>CH (E hC)) ?_;refine Gk 31 ?_;refine Y2 ?_;refine cO b (fun F b=>?_) (fun F b=>?_)
   ·refine Y3 ?_;exact rs (ku f b:)
   refine sk y (Y5 ?_);refine Gk 37 ?_;obtain⟨ad,G,b⟩:=fz b;refine dP 38 rfl rfl rfl rfl rfl (fun hC=>MV (G hC)) ?_;refine Gk 39 ?_;refine Gk 40 ?_;refine Y1 ?_;refine Gk 42 ?_;obtain⟨ae,I,b⟩:=fz b;refine dP 43 rfl rfl rfl rfl rfl (fun hC=>MY (I hC)) ?_;refine Gk 44 ?_;refine bI 41 rfl (fun hC=>we rfl rfl rfl) ?_;refine Y3 ?_;refine Gk 49 ?_;refine Gk 50 ?_
   refine Gk 51 ?_;refine Y1 ?_;refine Gk 53 ?_;obtain⟨ah,J,b⟩:=ee (fun _=>rfl) b;refine dP 54 rfl rfl rfl rfl rfl (fun hC=>Wb (J hC)) ?_;refine Gk 55 ?_;refine bI 52 rfl (fun hC=>kI rfl rfl rfl) ?_;refine Y2 ?_;refine cO b (fun K b=>?_) (fun K b=>?_)
   ·refine Y3 ?_;exact rs (ku f b:)
   refine sk v (Y5 ?_);exact s _ (j+1) wA b (dl k)
  rw [mI] at b;have b:=ku f b;refine ag.exit ?_;obtain⟨ai,L,b⟩:=bW b;exact q _ () wA (ku L b:)
 rintro _ b;refine Y3 ?_;exact rt b
def mJ :List Z6->Option (Unit ⊕ Bool)
 | []=>some (Sum.inl ())
 | g::k=>on (g) fun l=>on (eW l.aa) fun b=>on (bif !(!b) then g else Z6.zero) fun m=>aZ (!(!b)) (qQ m.ay) false fun f=>on (bif !((!b)||(!f)) then g else Z6.zero) fun p=>aZ (!((!b)||(!f))) (wV p.av) false fun j=>on (bif !(((!b)||(!f))||(!j)) then g else Z6.zero) fun q=>aZ (!(((!b)||(!f))||(!j))) (sZ q.bf) false fun r=>bif ((((!b)||(!f))||(!j))||(!r)) then(some (Sum.inr false)) else(mJ  (k) )
def pL (a0:(Sl Z6)):Option Bool:=bif ((decide (((a0.l.length:Nat):Int)<(1:Int)))||(decide ((64:Int)<((a0.l.length:Nat):Int)))) then(some false) else(Option.bind (mJ  a0.l ) fun b=>match b with|Sum.inl _=>(on (()) fun _=>some true)|Sum.inr f=>(some f))
theorem M1 {a0 w0 r}(b:pL a0=some r) (H:af) :At 65 [.d (Sl.d 5 Z6.c w0 a0)] H (RT (.a (.d (.bool r))) H):=by
 unfold pL at b;refine AC.oW 52 [.tmp 2] Tryz.call65 Tryz.func65 ?_;refine Y3 ?_;refine ar fun L m=>Y2 ?_;refine aU Z6.c a0 fun M=>Y3 ?_;refine bI 8 rfl (fun hC=>dG Z6.c a0) ?_;refine Gk 9 ?_;refine Y2 ?_;refine cE b (fun p b=>?_) (fun p b=>?_)
 ·refine Y3 ?_;exact rt b
 refine sk m (aO kN (fun(z:Unit)=>[]) (fun z=>H) (fun z=>(some true)=some r) ?_ ?_)
 ·intro N q;refine Y4 ?_;obtain⟨j,k,b⟩:=bZ b;refine bz (tl [0]) (fun(z:Nat)=>[(3,vi z)]) (fun z=>H) (fun z=>a0.l.length-z) (fun z=>Option.bind (mJ  (a0.l.drop z) ) j=some r) 0 b wA ?_;rintro f b O s;refine ar fun P t=>Y3 ?_;refine aU Z6.c a0 fun Q=>Y2 ?_;refine ag.bJ (fun l=>Option.bind (mJ  l ) j=some r) b rfl (fun R g u b=>?_) (fun u b=>?_)
  ·rw [mJ] at b;refine sk t (ar fun U v=>Y4 ?_);obtain⟨W,w,b⟩:=vO g b;refine S (ix Z6.c f w) (Y2 ?_);obtain⟨X,y,b⟩:=eG b;refine Sc rfl rfl (mF y) (Y4 ?_);obtain⟨Y,B,b⟩:=ee (fun _=>g) b;refine fJ 26 27 rfl rfl (fun hC=>ix Z6.c f (B hC)) ?_;refine Gk 28 ?_;refine Gk 29 ?_;obtain⟨Z,C,b⟩:=fz b
   refine dP 30 rfl rfl rfl rfl rfl (fun hC=>M0 (C hC)) ?_;refine Gk 31 ?_;refine Y4 ?_;obtain⟨aa,E,b⟩:=ee (fun _=>g) b;refine fJ 35 36 rfl rfl (fun hC=>ix Z6.c f (E hC)) ?_;refine Gk 37 ?_;refine Gk 38 ?_;obtain⟨ab,F,b⟩:=fz b;refine dP 39 rfl rfl rfl rfl rfl (fun hC=>MZ (F hC)) ?_;refine Gk 40 ?_;refine Y4 ?_;obtain⟨ad,G,b⟩:=ee (fun _=>g) b
   refine fJ 44 45 rfl rfl (fun hC=>ix Z6.c f (G hC)) ?_;refine Gk 46 ?_;refine Gk 47 ?_;obtain⟨ae,I,b⟩:=uQ (CI _) b;refine dP 48 rfl rfl rfl rfl rfl (fun hC=>CH (I hC)) ?_;refine Gk 49 ?_;refine Y2 ?_;refine cO b (fun J b=>?_) (fun J b=>?_)
   ·refine Y3 ?_;exact rs (ku k b:)
   refine sk v (Y5 ?_);exact s _ (f+1) wA b (dl g)
  rw [mJ] at b;have b:=ku k b;refine ag.exit ?_;obtain⟨ah,K,b⟩:=bW b;exact q _ () wA (ku K b:)
 rintro _ b;refine Y3 ?_;exact rt b
def tc (g:Bool):List Z8->Option (Unit ⊕ Bool)
 | []=>some (Sum.inl ())
 | f::k=>on (f) fun m=>on (eW m.aa) fun b=>on (bif !(!b) then f else Z8.zero) fun p=>aZ (!(!b)) (sZ p.bf) false fun j=>on (bif (!((!b)||(!j))&&g) then f else Z8.zero) fun q=>bif (((!b)||(!j))||(g&&(decide ((0:Int)<((q.bf.l.length:Nat):Int))))) then(some (Sum.inr false)) else(tc g (k) )
def td (a0:(Sl Z8)) (g:Bool):Option Bool:=bif ((decide (((a0.l.length:Nat):Int)<(1:Int)))||(decide ((64:Int)<((a0.l.length:Nat):Int)))) then(some false) else(Option.bind (tc g a0.l ) fun b=>match b with|Sum.inl _=>(on (()) fun _=>some true)|Sum.inr f=>(some f))
theorem M2 {a0 j w0 r}(b:td a0 j=some r) (H:af) :At 66 [.d (Sl.d 2 Z8.c w0 a0),.d (.bool j)] H (RT (.a (.d (.bool r))) H):=by
 unfold td at b;refine AC.oW 48 [.tmp 4] Tryz.call66 Tryz.func66 ?_;refine Y3 ?_;refine ar fun K p=>Y2 ?_;refine aU Z8.c a0 fun L=>Y3 ?_;refine bI 10 rfl (fun hC=>dG Z8.c a0) ?_;refine Gk 11 ?_;refine Y2 ?_;refine cE b (fun q b=>?_) (fun q b=>?_)
 ·refine Y3 ?_;exact rt b
 refine sk p (aO kN (fun(z:Unit)=>[]) (fun z=>H) (fun z=>(some true)=some r) ?_ ?_)
 ·intro M s;refine Y4 ?_;obtain⟨k,m,b⟩:=bZ b;refine bz (tl [0,1]) (fun(z:Nat)=>[(5,vi z)]) (fun z=>H) (fun z=>a0.l.length-z) (fun z=>Option.bind (tc j (a0.l.drop z) ) k=some r) 0 b wA ?_;rintro f b N t;refine ar fun O u=>Y3 ?_;refine aU Z8.c a0 fun P=>Y2 ?_;refine ag.bJ (fun l=>Option.bind (tc j l ) k=some r) b rfl (fun Q g v b=>?_) (fun v b=>?_)
  ·rw [tc] at b;refine sk u (ar fun R w=>Y4 ?_);obtain⟨U,y,b⟩:=vO g b;refine S (ix Z8.c f y) (Y2 ?_);obtain⟨W,B,b⟩:=eG b;refine Sc rfl rfl (mF B) (Y4 ?_);obtain⟨X,C,b⟩:=ee (fun _=>g) b;refine fJ 28 29 rfl rfl (fun hC=>ix Z8.c f (C hC)) ?_;refine Gk 30 ?_;refine Gk 31 ?_;obtain⟨Y,E,b⟩:=uQ (CI _) b
   refine dP 32 rfl rfl rfl rfl rfl (fun hC=>CH (E hC)) ?_;refine Gk 33 ?_;refine Y3 ?_;refine Gk 37 ?_;refine Y2 ?_;obtain⟨F,G,b⟩:=ee (fun _=>g) b;refine fJ 39 40 rfl rfl (fun hC=>ix Z8.c f (G hC)) ?_;refine Gk 41 ?_;refine Gk 42 ?_;refine bI 43 rfl (fun hC=>dG aA.c F.bf) ?_;refine Gk 44 ?_;refine bI 38 rfl (fun hC=>kI rfl rfl rfl) ?_;refine Y2 ?_
   refine cO b (fun I b=>?_) (fun I b=>?_)
   ·refine Y3 ?_;exact rs (ku m b:)
   refine sk w (Y5 ?_);exact t _ (f+1) wA b (dl g)
  rw [tc] at b;have b:=ku m b;refine ag.exit ?_;obtain⟨Z,J,b⟩:=bW b;exact s _ () wA (ku J b:)
 rintro _ b;refine Y3 ?_;exact rt b
def n9 :List Bs->Unit ⊕ Bool
 | []=>Sum.inl ()
 | b::f=>on (b) fun g=>on (eW g) fun j=>bif (!j) then(Sum.inr false) else(n9  (f) )
def lR (a0:ah):Option Bool:=on (eW a0.aa) fun b=>aZ (!(!b)) (sZ a0.bf) false fun x5=>bif (((!b)||(!x5))||(decide ((64:Int)<((a0.aM.l.length:Nat):Int)))) then(some false) else(on (n9  a0.aM.l ) fun f=>match f with|Sum.inl _=>(on (()) fun _=>bif (decide (a0.ai=(1:Int))) then((pL a0.aq).bind fun g=>some ((g&&(decide (((a0.ax.l.length:Nat):Int)=(0:Int))))&&(decide (((a0.aF.l.length:Nat):Int)=(0:Int))))) else(bif (decide (a0.ai=(2:Int))) then(aZ ((decide (((a0.aM.l.length:Nat):Int)=(0:Int)))) (pL a0.aq) false fun j=>some ((((decide (((a0.aM.l.length:Nat):Int)=(0:Int)))&&j)&&(decide (((a0.ax.l.length:Nat):Int)=(0:Int))))&&(decide (((a0.aF.l.length:Nat):Int)=(0:Int))))) else(bif (decide (a0.ai=(3:Int))) then(aZ (((decide (((a0.aM.l.length:Nat):Int)=(0:Int)))&&(decide (((a0.aq.l.length:Nat):Int)=(0:Int))))) (td a0.ax true) false fun k=>some ((((decide (((a0.aM.l.length:Nat):Int)=(0:Int)))&&(decide (((a0.aq.l.length:Nat):Int)=(0:Int))))&&k)&&(decide (((a0.aF.l.length:Nat):Int)=(0:Int))))) else(bif (decide (a0.ai=(4:Int))) then(aZ (((decide (((a0.aM.l.length:Nat):Int)=(0:Int)))&&(decide (((a0.aq.l.length:Nat):Int)=(0:Int))))) (td a0.ax false) false fun m=>some ((((decide (((a0.aM.l.length:Nat):Int)=(0:Int)))&&(decide (((a0.aq.l.length:Nat):Int)=(0:Int))))&&m)&&(decide (((a0.aF.l.length:Nat):Int)=(0:Int))))) else(bif (decide (a0.ai=(5:Int))) then(aZ (((((decide (((a0.aM.l.length:Nat):Int)=(0:Int)))&&(decide (((a0.aq.l.length:Nat):Int)=(0:Int))))&&(decide (((a0.ax.l.length:Nat):Int)=(0:Int))))&&(decide ((0:Int)<((a0.aF.l.length:Nat):Int))))) (qQ a0.aF) false fun p=>some (((((decide (((a0.aM.l.length:Nat):Int)=(0:Int)))&&(decide (((a0.aq.l.length:Nat):Int)=(0:Int))))&&(decide (((a0.ax.l.length:Nat):Int)=(0:Int))))&&(decide ((0:Int)<((a0.aF.l.length:Nat):Int))))&&p)) else(some false))))))|Sum.inr q=>(some q))
theorem Wc {a0 r}(b:lR a0=some r) (H:af) :At 30 [.agg (ah.c a0)] H (RT (.a (.d (.bool r))) H):=by
 unfold lR at b;refine AC.oW 129 [.tmp 2] Tryz.call30 Tryz.func30 ?_;refine Y4 ?_;refine ar fun ad w=>Y3 ?_;obtain⟨ae,y,b⟩:=dQ b;refine Sc rfl rfl (mF y) (Y3 ?_);refine Gk 13 ?_;obtain⟨x5,B,b⟩:=D2 (CI _) b;refine dP 14 rfl rfl rfl rfl rfl (fun hC=>CH (B hC)) ?_;refine Gk 15 ?_;refine Y3 ?_;refine Gk 19 ?_;refine bI 20 rfl (fun hC=>dG aG a0.aM) ?_;refine Gk 21 ?_
 refine Y2 ?_;refine cE b (fun C b=>?_) (fun C b=>?_)
 ·refine Y3 ?_;exact rt b
 refine sk w ?_
 refine aO (tl [1]) (fun(z:Unit)=>[]) (fun z=>H) (fun z=>(bif (decide (a0.ai=(1:Int))) then((pL a0.aq).bind fun g=>some ((g&&(decide (((a0.ax.l.length:Nat):Int)=(0:Int))))&&(decide (((a0.aF.l.length:Nat):Int)=(0:Int))))) else(bif (decide (a0.ai=(2:Int))) then(aZ ((decide (((a0.aM.l.length:Nat):Int)=(0:Int)))) (pL a0.aq) false fun j=>some ((((decide (((a0.aM.l.length:Nat):Int)=(0:Int)))&&j)&&(decide (((a0.ax.l.length:Nat):Int)=(0:Int))))&&(decide (((a0.aF.l.length:Nat):Int)=(0:Int))))) else(bif (decide (a0.ai=(3:Int))) then(aZ (((decide (((a0.aM.l.length:Nat):Int)=(0:Int)))&&(decide (((a0.aq.l.length:Nat):Int)=(0:Int))))) (td a0.ax true) false fun k=>some ((((decide (((a0.aM.l.length:Nat):Int)=(0:Int)))&&(decide (((a0.aq.l.length:Nat):Int)=(0:Int))))&&k)&&(decide (((a0.aF.l.length:Nat):Int)=(0:Int))))) else(bif (decide (a0.ai=(4:Int))) then(aZ (((decide (((a0.aM.l.length:Nat):Int)=(0:Int)))&&(decide (((a0.aq.l.length:Nat):Int)=(0:Int))))) (td a0.ax false) false fun m=>some ((((decide (((a0.aM.l.length:Nat):Int)=(0:Int)))&&(decide (((a0.aq.l.length:Nat):Int)=(0:Int))))&&m)&&(decide (((a0.aF.l.length:Nat):Int)=(0:Int))))) else(bif (decide (a0.ai=(5:Int))) then(aZ (((((decide (((a0.aM.l.length:Nat):Int)=(0:Int)))&&(decide (((a0.aq.l.length:Nat):Int)=(0:Int))))&&(decide (((a0.ax.l.length:Nat):Int)=(0:Int))))&&(decide ((0:Int)<((a0.aF.l.length:Nat):Int))))) (qQ a0.aF) false fun p=>some (((((decide (((a0.aM.l.length:Nat):Int)=(0:Int)))&&(decide (((a0.aq.l.length:Nat):Int)=(0:Int))))&&(decide (((a0.ax.l.length:Nat):Int)=(0:Int))))&&(decide ((0:Int)<((a0.aF.l.length:Nat):Int))))&&p)) else(some false))))))=some r) ?_ ?_
 ·intro aj E;refine Y4 ?_;obtain⟨q,t,b⟩:=bW b;refine bz (tl [1]) (fun(z:Nat)=>[(3,vi z)]) (fun z=>H) (fun z=>a0.aM.l.length-z) (fun z=>q (n9  (a0.aM.l.drop z) )=some r) 0 b wA ?_;rintro u b ak F;refine ar fun al G=>Y4 ?_;refine aU aG a0.aM fun am=>Y2 ?_
  refine ag.bJ (fun l=>q (n9  l )=some r) b rfl (fun ao v I b=>?_) (fun I b=>?_)
  ·rw [n9] at b;refine sk G (ar fun ap J=>Y5 ?_);obtain⟨au,K,b⟩:=vP v b;refine S (ix aG u K) (Y1 ?_);obtain⟨av,L,b⟩:=ff b;refine Sc rfl rfl (mF L) (Y2 ?_);refine cP b (fun M b=>?_) (fun M b=>?_)
   ·refine Y3 ?_;exact rs (ku t b:)
   refine sk J (Y5 ?_);exact F _ (u+1) wA b (dl v)
  rw [n9] at b;have b:=ku t b;refine ag.exit ?_;obtain⟨aw,N,b⟩:=bW b;exact E _ () wA (ku N b:)
 rintro _ b;refine Y3 ?_;refine aN.s0 (sr (f:=aG) (s:=a0.aM) (TK rfl) rfl rfl rfl) rfl ?_;refine Y3 ?_;refine aN.s0 (sr (f:=Z6.c) (s:=a0.aq) (TK rfl) rfl rfl rfl) rfl ?_;refine Y3 ?_;refine aN.s0 (sr (f:=Z8.c) (s:=a0.ax) (TK rfl) rfl rfl rfl) rfl ?_;refine Y3 ?_;refine aN.s0 (sr (f:=Z7.c) (s:=a0.aF) (TK rfl) rfl rfl rfl) rfl ?_;refine Y6 ?_;refine ar fun ay O=>Y9 ?_
 refine cE b (fun P b=>?_) (fun P b=>?_)
 ·refine Y3 ?_;obtain⟨g,Q,b⟩:=aX b;refine Sc rfl rfl (M1 Q) (Y8 ?_);exact rt b
 refine Y4 ?_;refine cE b (fun R b=>?_) (fun R b=>?_)
 ·refine Y4 ?_;refine Gk 71 ?_;obtain⟨j,U,b⟩:=eB b;refine dP 72 rfl rfl rfl rfl rfl (fun hC=>M1 (U hC)) ?_;refine Y9 ?_;exact rt b
 refine Y4 ?_;refine cE b (fun W b=>?_) (fun W b=>?_)
 ·refine Y7 ?_;refine Gk 88 ?_;obtain⟨k,X,b⟩:=eB b;refine dP 89 rfl rfl rfl rfl rfl (fun hC=>M2 (X hC)) ?_;refine Y6 ?_;exact rt b
 refine Y4 ?_;refine cE b (fun Y b=>?_) (fun Y b=>?_)
 ·refine Y7 ?_;refine Gk 102 ?_;obtain⟨m,Z,b⟩:=eB b;refine dP 103 rfl rfl rfl rfl rfl (fun hC=>M2 (Z hC)) ?_;refine Y6 ?_;exact rt b
 refine Y4 ?_;refine cE b (fun aa b=>?_) (fun aa b=>?_)
 ·refine pq ?_;refine Gk 119 ?_;refine bI 120 rfl (fun hC=>dG Z7.c a0.aF) ?_;refine Gk 121 ?_;refine Y3 ?_;refine Gk 125 ?_;obtain⟨p,ab,b⟩:=eB b;refine dP 126 rfl rfl rfl rfl rfl (fun hC=>M0 (ab hC)) ?_;refine Y3 ?_;exact rt b
 refine sk O (Y3 ?_);exact rt b
def nZ :List ah->Option (Unit ⊕ Bool)
 | []=>some (Sum.inl ())
 | b::f=>on (b) fun g=>(lR g).bind fun j=>bif (!j) then(some (Sum.inr false)) else(nZ  (f) )
def tf (a0:ak):Option Bool:=bif ((decide (((a0.aj.l.length:Nat):Int)<(1:Int)))||(decide ((64:Int)<((a0.aj.l.length:Nat):Int)))) then(some false) else(Option.bind (nZ  a0.aj.l ) fun b=>match b with|Sum.inl _=>(on (()) fun _=>some true)|Sum.inr f=>(some f))
theorem Wd {a0 r}(b:tf a0=some r) (H:af) :At 15 [.agg (ak.c a0)] H (RT (.a (.d (.bool r))) H):=by
 unfold tf at b;refine AC.oW 28 [.tmp 2] Tryz.call15 Tryz.func15 ?_;refine Y4 ?_;refine ar fun E m=>Y3 ?_;refine aU ah.c a0.aj fun F=>Y3 ?_;refine Gk 9 ?_;refine bI 10 rfl (fun hC=>dG ah.c a0.aj) ?_;refine Gk 11 ?_;refine Y2 ?_;refine cE b (fun p b=>?_) (fun p b=>?_)
 ·refine Y3 ?_;exact rt b
 refine sk m (aO kN (fun(z:Unit)=>[]) (fun z=>H) (fun z=>(some true)=some r) ?_ ?_)
 ·intro G q;refine Y4 ?_;obtain⟨f,g,b⟩:=bZ b;refine bz (tl [1]) (fun(z:Nat)=>[(3,vi z)]) (fun z=>H) (fun z=>a0.aj.l.length-z) (fun z=>Option.bind (nZ  (a0.aj.l.drop z) ) f=some r) 0 b wA ?_;rintro j b I s;refine ar fun J t=>Y4 ?_;refine aU ah.c a0.aj fun K=>Y2 ?_
  refine ag.bJ (fun l=>Option.bind (nZ  l ) f=some r) b rfl (fun L k u b=>?_) (fun u b=>?_)
  ·rw [nZ] at b;refine sk t (ar fun M v=>Y5 ?_);obtain⟨N,w,b⟩:=vO k b;refine S (ix ah.c j w) (Y1 ?_);obtain⟨O,y,b⟩:=aJ b;refine Sc rfl rfl (Wc y) (Y2 ?_);refine cO b (fun B b=>?_) (fun B b=>?_)
   ·refine Y3 ?_;exact rs (ku g b:)
   refine sk v (Y5 ?_);exact s _ (j+1) wA b (dl k)
  rw [nZ] at b;have b:=ku g b;refine ag.exit ?_;obtain⟨P,C,b⟩:=bW b;exact q _ () wA (ku C b:)
 rintro _ b;refine Y3 ?_;exact rt b
def zf (a0:ak):Option Bool:=(zJ a0).bind fun x3=>aZ ((!x3)) (tf a0) false fun b=>aZ (((!x3)&&b)) (pJ a0) (Sl.nil:Sl Z5) fun x5=>some (((!x3)&&b)&&(decide (((x5.l.length:Nat):Int)=(0:Int))))
theorem Rh {a0 r}(b:zf a0=some r) (H:af) :At 5 [.agg (ak.c a0)] H (RT (.a (.d (.bool r))) H):=by
 unfold zf at b;refine AC.oW 16 [.tmp 2] Tryz.call5 Tryz.func5 ?_;refine Y6 ?_;obtain⟨x3,f,b⟩:=aX b;refine Sc rfl rfl (VW f) (Y3 ?_);obtain⟨k,g,b⟩:=eB b;refine dP 7 rfl rfl rfl rfl rfl (fun hC=>Wd (g hC)) ?_;refine Y3 ?_;obtain⟨x5,j,b⟩:=eB b;refine dP 11 rfl rfl rfl rfl rfl (fun hC=>IZ (j hC)) ?_;refine bI 12 rfl (fun hC=>dG Z5.c x5) ?_;refine Gk 13 ?_
 refine Y3 ?_;exact rt b
def kr (f:Bs):List Bs->Nat->Unit ⊕ Int
 | [],b=>Sum.inl ()
 | g::j,b=>on (g) fun k=>bif ((f==k)) then(Sum.inr ((b:Nat):Int)) else(kr f (j) (b+1) )
def oh (a0:(Sl Bs)) (g:Bs):Int:=on (kr g a0.l 0 ) fun b=>match b with|Sum.inl _=>(on (()) fun _=>(-1:Int))|Sum.inr f=>(f)
theorem M3 {a0 f w0 r}(b:some (oh a0 f)=some r) (H:af) :At 68 [.d (Sl.d 1 aG w0 a0),.d (.str f)] H (RT (.a (.d (.int .i64 r))) H):=by
 unfold oh at b;refine AC.oW 19 [.tmp 4] Tryz.call68 Tryz.func68 ?_;refine Y3 ?_;refine aO kN (fun(z:Unit)=>[]) (fun z=>H) (fun z=>some ((-1:Int))=some r) ?_ ?_
 ·intro B p;refine Y2 ?_;refine aU aG a0 fun C=>Y3 ?_;obtain⟨j,k,b⟩:=dU b;refine bz (tl [0,1,7]) (fun(z:Nat)=>[(8,vi z)]) (fun z=>H) (fun z=>a0.l.length-z) (fun z=>j (kr f (a0.l.drop z) z )=some r) 0 b wA ?_;rintro g b E q;refine Y3 ?_;refine ar fun F s=>?_;refine ag.bJ (fun l=>j (kr f l g )=some r) b rfl (fun G m t b=>?_) (fun t b=>?_)
  ·rw [kr] at b;refine sk s (ar fun I u=>Y9 ?_);obtain⟨J,v,b⟩:=vP m b;refine S (ix aG g v) (Y3 ?_);refine cP b (fun w b=>?_) (fun w b=>?_)
   ·refine Y4 ?_;exact rs (ku k b:)
   refine sk u (Y4 ?_);exact q _ (g+1) wA b (dl m)
  rw [kr] at b;have b:=ku k b;refine ag.exit ?_;obtain⟨K,y,b⟩:=dU b;exact p _ () wA (ku y b:)
 rintro _ b;refine Y3 ?_;exact rt b
def lX (a0:(Sl Bs)) (b:Bs):Bool:=on (oh a0 b) fun x3=>(decide ((0:Int)<=x3))
theorem xQ {a0 f w0 r}(b:some (lX a0 f)=some r) (H:af) :At 33 [.d (Sl.d 1 aG w0 a0),.d (.str f)] H (RT (.a (.d (.bool r))) H):=by
 unfold lX at b;refine AC.oW 9 [.tmp 4] Tryz.call33 Tryz.func33 ?_;refine Y6 ?_;obtain⟨x3,g,b⟩:=ff b;refine Sc rfl rfl (M3 g) (Y3 ?_);exact rt b
def oO (f:Bs):List bT->Unit ⊕ ((Z9×Bool))
 | []=>Sum.inl ()
 | g::j=>on (g) fun b=>bif ((b.aa==f)) then(Sum.inr (b.gr,true)) else(oO f (j) )
def nq (a0:aA) (g:Bs):(Z9×Bool):=on (oO g a0.ay.l ) fun b=>match b with|Sum.inl _=>(on (()) fun _=>((Z9.mk 0 0 [] true [] Sl.nil),false))|Sum.inr f=>(f)
theorem We {a0 f r}(b:some (nq a0 f)=some r) (H:af) :At 70 [.agg (aA.c a0),.d (.str f)] H (RT (.cL [.agg (Z9.c r.1),.d (.bool r.2)]) H):=by
 unfold nq at b;refine AC.oW 23 [.cell 4 72,.tmp 5] Tryz.call70 Tryz.func70 ?_;refine Y5 ?_;refine dS (tl [4]) (fun(z:Z9)=>[]) (fun z=>[Z9.c z]) (fun z=>H) (fun z=>some (((Z9.mk 0 0 [] true [] Sl.nil),false))=some r) ?_ ?_
 ·intro C q;refine Y3 ?_;refine aU bT.c a0.ay fun E=>Y3 ?_;obtain⟨g,j,b⟩:=dU b;refine gz (tl [1,4,9,10]) (fun(z:Nat×Z9)=>[(11,vi z.1)]) (fun z=>[Z9.c z.2]) (fun z=>H) (fun z=>a0.ay.l.length-z.1) (fun z=>g (oO f (a0.ay.l.drop z.1) )=some r) (0,Z9.zero) b wA ?_;rintro ⟨k,m⟩ b F s;refine Y3 ?_;refine ar fun G t=>?_
  refine ag.bJ (fun l=>g (oO f l )=some r) b rfl (fun I p u b=>?_) (fun u b=>?_)
  ·rw [oO] at b;refine sk t (ar fun J v=>Y2 ?_);obtain⟨K,w,b⟩:=vP p b;refine S (ix bT.c k w) (Y4 ?_);refine bC 7 _ rfl (kl [1,4,9,10,11]) ?_;refine Y6 ?_;refine cP b (fun y b=>?_) (fun y b=>?_)
   ·refine Y6 ?_;exact rs (ku j b:)
   refine sk v (Y4 ?_);exact s _ ((k+1),m) wA b (dl p)
  rw [oO] at b;have b:=ku j b;refine ag.exit ?_;obtain⟨L,B,b⟩:=dU b;exact q _ m wA (ku B b:)
 rintro M b;refine Y5 ?_;exact rt b
def lB (j:Bs) (k:Bs):List aA->(Sl Z9)->Option ((Sl Z9))
 | [],b=>some b
 | l::m,b=>on (l) fun f=>on (nq f k) fun g=>Option.bind (bif (g.2&&((f.aa==j))) then((bh 80 b (⟨false,[g.1]⟩:Sl Z9)).bind fun p=>some p) else(some b)) fun q=>lB j k (m) q
def zQ (a0:(Sl aA)) (g:Bs) (j:Bs):Option (Sl Z9):=Option.bind (lB g j a0.l (Sl.nil:Sl Z9)) fun b=>on (b) fun f=>some f
theorem Wf {a0 g j w0 r}(b:zQ a0 g j=some r) (H:af) :At 36 [.d (Sl.d 2 aA.c w0 a0),.d (.str g),.d (.str j)] H (RT (.a (.d (Sl.d 5 Z9.c none r))) H):=by
 unfold zQ at b;refine AC.oW 37 [.tmp 6] Tryz.call36 Tryz.func36 ?_;refine ag.tok 5 fun f L=>?_;refine Y1 ?_;refine s0 (dM (k':=5) rfl) rfl ?_;refine Y4 ?_;refine ag.fe 7 5 f rfl az ?_;refine aO kN (fun(z:(Sl Z9))=>[(7,.a (.d (Sl.d 5 Z9.c (some f) z)))]) (fun z=>(tS H f 5 z)) (fun z=>(some z)=some r) ?_ ?_
 ·intro M u;refine Y2 ?_;refine aU aA.c a0 fun N=>Y3 ?_;obtain⟨k,v,b⟩:=bZ b;refine bz (tl [1,2,12,13]) (fun(z:(Sl Z9)×Nat)=>[(7,.a (.d (Sl.d 5 Z9.c (some f) z.1))),(14,vi z.2)]) (fun z=>(tS H f 5 z.1)) (fun z=>a0.l.length-z.2) (fun z=>Option.bind (lB g j (a0.l.drop z.2) z.1) k=some r) ((Sl.nil:Sl Z9),0) b wA ?_;rintro ⟨m,p⟩ b O w;refine Y3 ?_;refine ar fun P y=>?_
  refine ag.bJ (fun l=>Option.bind (lB g j l m) k=some r) b rfl (fun Q q B b=>?_) (fun B b=>?_)
  ·rw [lB] at b;refine sk y (aO (tl [1,2,12,13,14]) (fun(z:(Sl Z9))=>[(7,.a (.d (Sl.d 5 Z9.c (some f) z)))]) (fun z=>(tS H f 5 z)) (fun z=>Option.bind (lB g j (a0.l.drop (p+1)) z) k=some r) ?_ ?_)
   ·intro R s;refine Y2 ?_;obtain⟨U,C,b⟩:=vO q b;refine S (ix aA.c p C) (Y4 ?_);refine bC 9 _ rfl (kl [1,2,7,12,13,14]) ?_;refine Y3 ?_;obtain⟨W,E,b⟩:=eG b;refine Sc rfl rfl (We E) (Y7 ?_);refine bC 10 _ rfl (kl [1,2,7,9,11,12,13,14]) ?_;refine Y4 ?_;refine Gk 26 ?_;refine Y1 ?_;refine G2 27 28 rfl rfl BS ?_;refine Y2 ?_;obtain⟨X,t,b⟩:=dA b
    refine cO b (fun F b=>?_) (fun F b=>?_)
    ·refine Y4 ?_;obtain⟨G,I,b⟩:=aJ b;refine SH (am Z9.c (TK rfl) rfl (TK rfl) (TK rfl) I) ?_;refine Y2 ?_;exact s _ G wA (ku t b:)
    refine ag.skip ?_;exact s _ m wA (ku t b:)
   rintro J b;refine Y4 ?_;exact w _ (J,(p+1)) wA b (dl q)
  rw [lB] at b;have b:=ku v b;refine ag.exit ?_;obtain⟨Y,K,b⟩:=bW b;exact u _ m wA (ku K b:)
 rintro Z b;refine Y4 ?_;refine ag.eF 6 rfl ?_;refine ry ?_;obtain rfl:=oJ b;refine bU.cH H rfl ⟨rfl,rfl⟩ ?_;exact sy
def mc :List Z9->(Sl Bs)->Option ((Sl Bs))
 | [],b=>some b
 | g::j,b=>on (g) fun f=>on (bif (decide (f.ai=(3:Int))) then lX b f.bp else false) fun k=>Option.bind (bif ((decide (f.ai=(3:Int)))&&(!k)) then((bh 16 b (⟨false,[f.bp]⟩:Sl Bs)).bind fun l=>some l) else(some b)) fun m=>mc  (j) m
def jt (a0:(Sl aA)):Option (Sl Bs):=(zQ a0 ([116,97,103]:Bs) ([110,97,109,101]:Bs)).bind fun x7=>Option.bind (mc  x7.l (Sl.nil:Sl Bs)) fun b=>on (b) fun f=>some f
theorem vD {a0 w0 r}(b:jt a0=some r) (H:af) :At 19 [.d (Sl.d 2 aA.c w0 a0)] H (RT (.a (.d (Sl.d 1 aG none r))) H):=by
 unfold jt at b;refine AC.oW 30 [.tmp 2] Tryz.call19 Tryz.func19 ?_;refine ag.tok 1 fun f K=>?_;refine Y1 ?_;refine s0 (dM (k':=1) rfl) rfl ?_;refine Y4 ?_;refine ag.fe 3 1 f rfl az ?_;refine aO kN (fun(z:(Sl Bs))=>[(3,.a (.d (Sl.d 1 aG (some f) z)))]) (fun z=>(tS H f 1 z)) (fun z=>(some z)=some r) ?_ ?_
 ·intro L s;refine Y2 ?_;obtain⟨x7,t,b⟩:=aX b;refine Sc rfl rfl (Wf t) (aU Z9.c x7 fun M=>Y3 ?_);obtain⟨g,u,b⟩:=bZ b;refine bz (tl [7,8]) (fun(z:(Sl Bs)×Nat)=>[(3,.a (.d (Sl.d 1 aG (some f) z.1))),(9,vi z.2)]) (fun z=>(tS H f 1 z.1)) (fun z=>x7.l.length-z.2) (fun z=>Option.bind (mc  (x7.l.drop z.2) z.1) g=some r) ((Sl.nil:Sl Bs),0) b wA ?_;rintro ⟨j,k⟩ b N v
  refine Y3 ?_;refine ar fun O w=>?_;refine ag.bJ (fun l=>Option.bind (mc  l j) g=some r) b rfl (fun P m y b=>?_) (fun y b=>?_)
  ·rw [mc] at b;refine sk w (aO (tl [7,8,9]) (fun(z:(Sl Bs))=>[(3,.a (.d (Sl.d 1 aG (some f) z)))]) (fun z=>(tS H f 1 z)) (fun z=>Option.bind (mc  (x7.l.drop (k+1)) z) g=some r) ?_ ?_)
   ·intro Q p;refine Y2 ?_;obtain⟨R,B,b⟩:=vO m b;refine S (ix Z9.c k B) (Y4 ?_);refine bC 5 _ rfl (kl [3,7,8,9]) ?_;refine Y7 ?_;refine Gk 18 ?_;obtain⟨U,C,b⟩:=ee (fun _=>rfl) b;refine fS 17 19 rfl rfl rfl rfl rfl rfl (fun hC=>xQ (C hC)) ?_;refine Gk 20 ?_;refine Y2 ?_;obtain⟨W,q,b⟩:=dA b;refine cO b (fun E b=>?_) (fun E b=>?_)
    ·refine Y5 ?_;obtain⟨F,G,b⟩:=aJ b;refine SH (am aG (TK rfl) rfl (TK rfl) (TK rfl) G) ?_;refine Y2 ?_;exact p _ F wA (ku q b:)
    refine ag.skip ?_;exact p _ j wA (ku q b:)
   rintro I b;refine Y4 ?_;exact v _ (I,(k+1)) wA b (dl m)
  rw [mc] at b;have b:=ku u b;refine ag.exit ?_;obtain⟨X,J,b⟩:=bW b;exact s _ j wA (ku J b:)
 rintro Y b;refine Y4 ?_;refine ag.eF 2 rfl ?_;refine ry ?_;obtain rfl:=oJ b;refine bU.cH H rfl ⟨rfl,rfl⟩ ?_;exact sy
def xR  :Option Int:=some (-1:Int)
def xS (a0:(Sl Bs)) (f:(Bs->Option Bool)) :Nat->Nat->Option Int
 | 0,_=>none
 | g+1,b=>bif (decide (((b:Nat):Int)<((a0.l.length:Nat):Int))) then((a0.l[b]?).bind fun j=>(f j).bind fun k=>bif k then(some ((b:Nat):Int)) else((xS a0 f g) (b+1))) else(xR   )
def xT (a0:(Sl Bs)) (b:(Bs->Option Bool)):Option Int:=xS a0 b (a0.l.length+1) 0
theorem M4 {a0 g w0 j r}(b:xT a0 g=some r) (H:af) (p:∀k r,g k=some r->gN Tryz.prog j [.d (.str k)] H (RT (.a (.d (.bool r))) H)):At 69 [.d (Sl.d 1 aG w0 a0),.d j] H (RT (.a (.d (.int .i64 r))) H):=by
 unfold xT at b;refine AC.oW 19 [.tmp 4] Tryz.call69 Tryz.func69 ?_;refine Y3 ?_;refine aO kN (fun(z:Unit)=>[]) (fun z=>H) (fun z=>xR =some r) ?_ ?_
 ·intro C q;refine Y2 ?_;refine aU aG a0 fun E=>Y3 ?_;refine bz (tl [0,1,7]) (fun(z:Nat×Nat)=>[(8,vi z.2)]) (fun z=>H) (fun z=>z.1) (fun z=>xS a0 g z.1 z.2=some r) ((a0.l.length+1),0) b wA ?_;rintro ⟨f,m⟩ b F s;cases f with
  | zero=>cases b
  | succ f =>
    rw [xS] at b;refine Y3 ?_;refine ar fun G t=>?_;refine cE b (fun u b=>?_) (fun u b=>?_)
    ·refine sk t (ar fun I v=>Y9 ?_);obtain⟨J,w,b⟩:=bO b;refine S (ix aG m w) (Y1 ?_);obtain⟨K,y,b⟩:=bO b;refine s0 (mv rfl rfl (p _ _ y)) rfl ?_;refine Y1 ?_;refine cE b (fun B b=>?_) (fun B b=>?_)
     ·refine Y4 ?_;exact rt b
     refine sk v (Y4 ?_);exact s _ (f,(m+1)) wA b (nS _)
    refine ag.exit ?_;exact q _ () wA b
 rintro _ b;unfold xR at b;refine Y3 ?_;exact rt b
def tW (f:(Bs->Bool)):List Bs->Nat->Unit ⊕ Int
 | [],b=>Sum.inl ()
 | g::j,b=>on (g) fun k=>on (f k) fun l=>bif l then(Sum.inr ((b:Nat):Int)) else(tW f (j) (b+1) )
theorem Wg {a0:Sl Bs}{k:Bs->Bool}(g:(Unit ⊕ Int)->Option Int) (m:∀(f:Nat) (b:Nat),xR   =g (Sum.inl ())) (p:∀e:Int,some e=g (Sum.inr e)):∀(f:Nat) (b:Nat),(0<f/\a0.l.length<b+f)->xS a0 (fun q=>some (k q)) f b=g (tW k (a0.l.drop b) b ):=by
 intro f;induction f with
 | zero=>intro b hn; exact absurd hn.1 (by omega)
 | succ f r =>
  intro b hn;rw [xS];by_cases bn:b<a0.l.length
  ·obtain⟨s,j⟩:=Qa bn;rw [Q.mz j,tW];refine QT bn ?_;refine Q.wq j fun t u=>?_;refine Q.wq rfl fun v w=>?_;refine Q.A_ ?_ ?_
   ·all_goals exact p _
   all_goals exact r _ ⟨by omega,by omega⟩
  rw [dL (by omega),tW];refine QF bn ?_;exact m f b
def Cm (a0:(Sl Bs)) (g:(Bs->Bool)):Int:=on (tW g a0.l 0 ) fun b=>match b with|Sum.inl _=>(on (()) fun _=>(-1:Int))|Sum.inr f=>(f)
theorem Wh (a0:(Sl Bs)) (a1:(Bs->Bool)):xT a0 (fun f=>some (a1 f))=some (Cm a0 a1):=by
 unfold xT Cm;refine Q.Bb fun g b=>?_;refine Wg  g ?_ ?_ _ _ ⟨Nat.succ_pos _,by omega⟩
 ·intro m p;refine Qe (b _) ?_;try dsimp only
  refine Q.Bb fun j k=>?_;have l:xR  =j ():=by
   refine Qe (k _) ?_;unfold xR;all_goals rfl
  all_goals exact l
 intro q;refine Qe (b _) ?_;try dsimp only
 all_goals rfl
def Ah (a0:(Sl Bs)) (b:(Bs->Option Bool)):Option Bool:=(xT a0 b).bind fun x3=>some (decide ((0:Int)<=x3))
theorem Wi {a0 j w0 f r}(b:Ah a0 j=some r) (H:af) (k:∀g r,j g=some r->gN Tryz.prog f [.d (.str g)] H (RT (.a (.d (.bool r))) H)):At 34 [.d (Sl.d 1 aG w0 a0),.d f] H (RT (.a (.d (.bool r))) H):=by
 unfold Ah at b;refine AC.oW 9 [.tmp 4] Tryz.call34 Tryz.func34 ?_;refine Y6 ?_;obtain⟨x3,l,b⟩:=bO b;refine s0 (eE rfl rfl (M4 l _ k)) rfl ?_;refine Y3 ?_;exact rt b
def zR (a0:(Sl Bs)) (b:(Bs->Bool)):Bool:=on (Cm a0 b) fun x3=>(decide ((0:Int)<=x3))
theorem Wj (a0:(Sl Bs)) (a1:(Bs->Bool)):Ah a0 (fun b=>some (a1 b))=some (zR a0 a1):=by
 unfold Ah zR;refine Q.wq (Wh _ _) fun x3 f=>?_;all_goals rfl
def zS (a0:Bs) (b:(Sl Bs)):Bool:=on (lX b a0) fun x3=>x3
def CJ (a0:Bs) (b:(Sl Bs)):Option Bool:=some (zS a0 b)
theorem Wk (a0:Bs) (a1:(Sl Bs)):CJ a0 a1=some (zS a0 a1):=rfl
theorem Wl {a0 f r}(b:CJ a0 f=some r) (H:af) :At 35 [.d (.str a0),.d (.view ((fun s=>[Sl.d 1 aG none s]) f))] H (RT (.a (.d (.bool r))) H):=by
 unfold CJ zS at b;refine AC.oW 7 [.tmp 3] Tryz.call35 Tryz.func35 ?_;refine Y6 ?_;obtain⟨x3,g,b⟩:=ff b;refine Sc rfl rfl (xQ g) (Y2 ?_);exact rt b
def tX (a0:(Sl Bs)) (f:(Sl Bs)):Bool:=on (zR a0 (fun b=>zS b f)) fun x3=>x3
theorem F8 {a0 f w0 g r}(b:some (tX a0 f)=some r) (H:af) :At 18 [.d (Sl.d 1 aG w0 a0),.d (Sl.d 1 aG g f)] H (RT (.a (.d (.bool r))) H):=by
 unfold tX at b;refine AC.oW 8 [.tmp 4] Tryz.call18 Tryz.func18 ?_;refine Y1 ?_;refine aK.eF 1 rfl ?_;refine Y5 ?_;refine s0 (makeFunc rfl) rfl ?_;obtain⟨x3,j,b⟩:=vP (o:=Ah a0 (fun k=>CJ k f)) (by simp only [Wk,Wj]) b;refine s0 (j6 rfl rfl (fun H=>Wi j H (fun _ _ hx=>Wl hx _))) rfl ?_;refine Y2 ?_;exact rt b
def qY (a0:(Sl Bs)):Option (Sl Bs):=bif a0.nl then(some (Sl.nil:Sl Bs)) else((bh 16 (⟨false,[]⟩:Sl Bs) a0).bind fun x7=>some x7)
def CK (a0:(Sl Bs)):Option (Sl Bs):=qY a0
theorem M5 {a0 w0 r}(b:CK a0=some r) (H:af) :At 37 [.d (Sl.d 1 aG w0 a0)] H (RT (.a (.d (Sl.d 1 aG none r))) H):=by
 unfold CK qY at b;refine AC.oW 8 [.tmp 2] Tryz.call37 Tryz.func37 ?_;refine Y1 ?_;refine s0 (dM (k':=1) rfl) rfl ?_;refine Y1 ?_;refine ar fun l g=>Y2 ?_;refine s0 (Dz (TK rfl) rfl rfl) rfl ?_;refine Y1 ?_;refine cE b (fun j b=>?_) (fun j b=>?_)
 ·refine Y1 ?_;refine s0 (dM (k':=1) rfl) rfl ?_;refine Y1 ?_;exact rt b
 refine sk g (Y1 ?_);refine s0 (uE (TK rfl) rfl (TK rfl) rfl rfl rfl rfl rfl rfl) rfl ?_;refine Y1 ?_;obtain⟨x7,k,b⟩:=aX b;refine s0 (yN (f:=aG) (TK rfl) rfl (TK rfl) (TK rfl) ⟨_,rfl⟩ rfl rfl (by decide) rfl rfl rfl (by intro q h; cases h<;>decide) rfl rfl k) rfl ?_;refine Y2 ?_;exact rt b
theorem Wm {a0:Sl Bs}{w0:Option Nat}{b:Nat}{r:Sl Bs}(g:CK a0=some r) (H:af) (p:H b=some (.arr 1 [])) :At 37 [.d (Sl.d 1 aG w0 a0)] H (RT (.a (.d (.arr 1 b r.nl r.l.length))) (H.set b (some (.arr 1 (r.l.map aG))))):=by
 unfold CK qY at g;refine AC.oW 8 [.tmp 2] Tryz.call37 Tryz.func37 ?_;refine hz (H.set b (some (.arr 1 []))) (Y1 ?_);refine s0 (dM (k':=1) rfl) rfl ?_;refine aK.A7 2 1 b rfl az ?_;refine Y1 ?_;refine ar fun q j=>Y2 ?_;refine s0 (Dz (TK rfl) rfl rfl) rfl ?_;refine Y1 ?_;refine cE g (fun k g=>?_) (fun k g=>?_)
 ·refine Y1 ?_;refine s0 (dM (k':=1) rfl) rfl ?_;refine aK.A7 2 1 b rfl az ?_;refine Y1 ?_;exact rt g
 refine sk j (Y1 ?_);refine s0 (uE (TK rfl) rfl (TK rfl) rfl rfl rfl rfl rfl rfl) rfl ?_;refine aK.Po 5 1 b rfl az ?_;refine Y1 ?_;obtain⟨x7,m,g⟩:=aX g;refine sH (DG (f:=aG) (s:=(⟨false,[]⟩:Sl Bs)) (TK rfl) rfl (TK rfl) (TK rfl) ⟨_,rfl⟩ rfl rfl rfl rfl rfl rfl az (by first|rfl|simp [Sl.HR,Sl.nil,H9]) rfl m) rfl ?_;refine hq (H.set b (some (.arr 1 (x7.l.map aG)))) (Y2 ?_)
 exact rt g
def oy (f:Z9->Option Z9):List Z9->(Sl Z9)->Option ((Sl Z9))
 | [],b=>some b
 | g::j,b=>on (g) fun k=>(f k).bind fun l=>(bh 80 b (⟨false,[l]⟩:Sl Z9)).bind fun m=>oy f (j) m
mutual
def lc:Nat->Z9->Option Z9
 | 0,_=>none
 | n+1,a0=>((xe n) a0.aB).bind fun x3=>(qY a0.aR).bind fun x5=>some (Z9.mk a0.ai a0.bA a0.bp x3.nl x3.l x5)
def xe:Nat->(Sl Z9)->Option (Sl Z9)
 | 0,_=>none
 | n+1,a0=>Option.bind (oy (lc n) a0.l (Sl.nil:Sl Z9)) fun b=>on (b) fun f=>some f
end
def CL (n:Nat):Prop:=∀{a0:Z9}   {r:Z9},lc n a0=some r->∀(H:af),At 71 [.agg (Z9.c a0)] H (RT (.a (.agg (Z9.c r))) H)
def CM (n:Nat):Prop:=∀{a0:(Sl Z9)}{w0:Option Nat}  {r:(Sl Z9)},xe n a0=some r->∀(H:af),At 114 [.d (Sl.d 5 Z9.c w0 a0)] H (RT (.a (.d (Sl.d 5 Z9.c none r))) H)
theorem Wn (n:Nat) (m:CL (au:=au) n) (f:CM (au:=au) n):CL (au:=au) (n+1):=by
 intro a0   r b H;rw [lc] at b;refine AC.oW 12 [.cell 2 72] Tryz.call71 Tryz.func71 ?_;refine Y1 ?_;refine sL (wu rfl) rfl ?_;refine Y4 ?_;refine aK.cU 0 (Z9.cu a0) rfl (fun j w cs hh hx=>by rw [<- Z9.mC]; exact hx) ?_;refine Y1 ?_;obtain⟨x3,g,b⟩:=aX b;refine Sc rfl rfl (f g) (Y2 ?_)
 refine aK.cU 0 (Z9.c (Z9.mk a0.ai a0.bA a0.bp x3.nl x3.l a0.aR)) rfl (fun j w cs hh hx=>by rw [Z9.mC]; exact hx) ?_;refine Y4 ?_;obtain⟨x5,k,b⟩:=aX b;refine Sc rfl rfl (M5 k) (Y1 ?_);refine aK.cU 0 (Z9.cu (Z9.mk a0.ai a0.bA a0.bp x3.nl x3.l a0.aR)) rfl (fun j w cs hh hx=>by rw [<- Z9.mC]; exact hx) ?_;refine Y1 ?_
 refine aK.cU 0 (Z9.c (Z9.mk a0.ai a0.bA a0.bp x3.nl x3.l x5)) rfl (fun j w cs hh hx=>by rw [Z9.mC]; exact hx) ?_;refine Y5 ?_;exact rt b
theorem Wo (n:Nat) (p:CL (au:=au) n) (G:CM (au:=au) n):CM (au:=au) (n+1):=by
 intro a0 w0  r b H;rw [xe] at b;refine AC.oW 19 [.tmp 2] Tryz.call114 Tryz.func114 ?_;refine ag.tok 5 fun f I=>?_;refine Y1 ?_;refine s0 (dM (k':=5) rfl) rfl ?_;refine Y4 ?_;refine ag.fe 3 5 f rfl az ?_;refine aO kN (fun(z:(Sl Z9))=>[(3,.a (.d (Sl.d 5 Z9.c (some f) z)))]) (fun z=>(tS H f 5 z)) (fun z=>(some z)=some r) ?_ ?_
 ·intro J q;refine Y2 ?_;refine aU Z9.c a0 fun K=>Y3 ?_;obtain⟨g,s,b⟩:=bZ b;refine bz (tl [6,7]) (fun(z:(Sl Z9)×Nat)=>[(3,.a (.d (Sl.d 5 Z9.c (some f) z.1))),(8,vi z.2)]) (fun z=>(tS H f 5 z.1)) (fun z=>a0.l.length-z.2) (fun z=>Option.bind (oy (lc n) (a0.l.drop z.2) z.1) g=some r) ((Sl.nil:Sl Z9),0) b wA ?_;rintro ⟨j,k⟩ b L t;refine Y3 ?_;refine ar fun M u=>?_
  refine ag.bJ (fun l=>Option.bind (oy (lc n) l j) g=some r) b rfl (fun N m v b=>?_) (fun v b=>?_)
  ·rw [oy] at b;refine sk u (ar fun O w=>Y2 ?_);obtain⟨P,y,b⟩:=vO m b;refine S (ix Z9.c k y) (Y4 ?_);refine bC 5 _ rfl (kl [3,6,7,8]) ?_;refine Y3 ?_;obtain⟨Q,B,b⟩:=aJ b;refine Sc rfl rfl (p B) (Y1 ?_);obtain⟨C,E,b⟩:=aJ b;refine SH (am Z9.c (TK rfl) rfl (TK rfl) (TK rfl) E) ?_;refine Y2 ?_;refine w _ ?_;refine Y4 ?_
   exact t _ (C,(k+1)) wA b (dl m)
  rw [oy] at b;have b:=ku s b;refine ag.exit ?_;obtain⟨R,F,b⟩:=bW b;exact q _ j wA (ku F b:)
 rintro U b;refine Y4 ?_;refine ag.eF 2 rfl ?_;refine ry ?_;obtain rfl:=oJ b;refine bU.cH H rfl ⟨rfl,rfl⟩ ?_;exact sy
theorem Ai:∀(n:Nat),(CL (au:=au) n)/\(CM (au:=au) n)
 | 0=>⟨fun b=>by first|cases b|(rw [lc] at b; cases b),fun b=>by first|cases b|(rw [xe] at b; cases b)⟩
 | n+1=>⟨Wn n (Ai n).1 (Ai n).2,Wo n (Ai n).1 (Ai n).2⟩
def Wp (a0:Z9):Option Z9:=lc F0 a0
theorem Aj {a0 r}(b:Wp a0=some r) (H:af) :At 71 [.agg (Z9.c a0)] H (RT (.a (.agg (Z9.c r))) H):=(Ai F0).1 b H 
def q6 (a0:Z9):Option Z9:=lc F0 a0
def rB :List bT->aA->Option (aA)
 | [],b=>some b
 | g::j,b=>on (g) fun f=>(q6 f.gr).bind fun k=>(bh 96 b.ay (⟨false,[(bT.mk f.aa k)]⟩:Sl bT)).bind fun l=>rB  (j) (aA.mk b.aa l)
def oG :List aA->(Sl aA)->Option ((Sl aA))
 | [],b=>some b
 | g::j,b=>on (g) fun f=>Option.bind (rB  f.ay.l (aA.mk f.aa Sl.nil)) fun k=>on (k) fun m=>(bh 40 b (⟨false,[m]⟩:Sl aA)).bind fun p=>on (p) fun q=>oG  (j) q
def rC (a0:(Sl aA)):Option (Sl aA):=Option.bind (oG  a0.l (Sl.nil:Sl aA)) fun b=>on (b) fun f=>some f
theorem ul {a0 w0 r}(b:rC a0=some r) (H:af) :At 38 [.d (Sl.d 2 aA.c w0 a0)] H (RT (.a (.d (Sl.d 2 aA.c none r))) H):=by
 unfold rC at b;refine AC.oW 43 [.tmp 2] Tryz.call38 Tryz.func38 ?_;refine ag.tok 2 fun g av=>?_;refine Y1 ?_;refine s0 (dM (k':=2) rfl) rfl ?_;refine Y4 ?_;refine ag.fe 3 2 g rfl az ?_;refine aO kN (fun(z:(Sl aA))=>[(3,.a (.d (Sl.d 2 aA.c (some g) z)))]) (fun z=>(tS H g 2 z)) (fun z=>(some z)=some r) ?_ ?_
 ·intro aw J;refine Y2 ?_;refine aU aA.c a0 fun ax=>Y3 ?_;obtain⟨p,K,b⟩:=bZ b;refine bz (tl [9,10]) (fun(z:(Sl aA)×Nat)=>[(3,.a (.d (Sl.d 2 aA.c (some g) z.1))),(11,vi z.2)]) (fun z=>(tS H g 2 z.1)) (fun z=>a0.l.length-z.2) (fun z=>Option.bind (oG  (a0.l.drop z.2) z.1) p=some r) ((Sl.nil:Sl aA),0) b wA ?_;rintro ⟨m,q⟩ b aB L;refine Y3 ?_;refine ar fun aC M=>?_
  refine ag.bJ (fun l=>Option.bind (oG  l m) p=some r) b rfl (fun aD E N b=>?_) (fun N b=>?_)
  ·rw [oG] at b;refine sk M (aO (tl [9,10,11]) (fun(z:(Sl aA))=>[(3,.a (.d (Sl.d 2 aA.c (some g) z)))]) (fun z=>(tS H g 2 z)) (fun z=>Option.bind (oG  (a0.l.drop (q+1)) z) p=some r) ?_ ?_)
   ·intro aE O;refine Y2 ?_;obtain⟨s,P,b⟩:=vO E b;refine S (ix aA.c q P) (Y4 ?_);refine bC 5 _ rfl (kl [3,9,10,11]) ?_;refine Y5 ?_;refine aK.tok 6 fun k v=>?_;obtain⟨Q,v⟩:=af.eA v;refine aK.cU 0 _ rfl (fun j w cs hh hx=>tok_cell 1 6 6 hh (t:=k) az hx rfl) ?_;refine Y1 ?_
    refine aK.cU 0 _ rfl (fun j w cs hh hx=>tok_cell 1 6 6 hh (t:=k) az hx rfl) ?_;refine Y1 ?_;refine dS (tl [3,6,9,10,11]) (fun(z:aA)=>[]) (fun z=>[(aG z.aa++[Sl.d 6 bT.c (some k) z.ay])]) (fun z=>(tS (tS H g 2 m) k 6 z.ay)) (fun z=>Option.bind ((bh 40 m (⟨false,[z]⟩:Sl aA)).bind fun u=>on (u) fun y=>oG  (a0.l.drop (q+1)) y) p=some r) ?_ ?_
    ·intro aF R;refine Y3 ?_;refine aU bT.c s.ay fun aH=>Y3 ?_;obtain⟨F,U,b⟩:=dA b
     refine gz (tl [3,6,9,10,11,19,20]) (fun(z:Nat×aA)=>[(21,vi z.1)]) (fun z=>[(aG z.2.aa++[Sl.d 6 bT.c (some k) z.2.ay])]) (fun z=>(tS (tS H g 2 m) k 6 z.2.ay)) (fun z=>s.ay.l.length-z.1) (fun z=>Option.bind (rB  (s.ay.l.drop z.1) z.2) F=some r) (0,(aA.mk s.aa Sl.nil)) b wA ?_;rintro ⟨G,B⟩ b aI W;refine Y3 ?_;refine ar fun aL X=>?_
     refine ag.bJ (fun l=>Option.bind (rB  l B) F=some r) b rfl (fun aM I Y b=>?_) (fun Y b=>?_)
     ·rw [rB] at b;refine sk X (ar fun aP Z=>Y2 ?_);obtain⟨aR,ab,b⟩:=vO I b;refine S (ix bT.c G ab) (Y4 ?_);refine bC 8 _ rfl (kl [3,6,9,10,11,19,20,21]) ?_;refine ag.draw rfl ?_;refine Y6 ?_;obtain⟨aS,ad,b⟩:=aJ b;refine cF rfl rfl (Aj ad) (Y2 ?_);obtain⟨ae,ah,b⟩:=aJ b
      refine aN.sH (jy (f:=bT.c) (TK rfl) rfl (TK rfl) (TK rfl) ⟨_,rfl⟩ rfl rfl (by decide) rfl rfl rfl rfl az rfl ah) rfl ?_;refine Y1 ?_;refine aN.iT (mr (TK rfl) rfl rfl rfl rfl (by repeat (first|exact bE.zero|apply bE.succ)) (by repeat (first|exact bE.zero|apply bE.succ))) ?_;refine Y1 ?_;refine Z _ ?_;refine Y4 ?_;exact W _ ((G+1),(aA.mk B.aa ae)) wA b (dl I)
     rw [rB] at b;have b:=ku U b;refine ag.exit ?_;obtain⟨aV,ai,b⟩:=iy b;exact R _ B wA (ku ai b:)
    rintro aj b;refine ag.cU 0 _ rfl (fun j w cs hh hx=>kH 1 hx rfl) ?_;refine Y4 ?_;obtain⟨u,ak,b⟩:=aJ b;refine SH (am aA.c (TK rfl) rfl (TK rfl) (TK rfl) ak) ?_;refine hq (tS (tS H g 2 u) k 6 aj.ay) (Y2 ?_);obtain⟨aW,al,b⟩:=iy b;have b:=ku al b
    exact O _ u (cC.toFA (by(intro ao aX C); (have ap:ao≠k:=fun aq=>by rw [aq] at C; simp [af.set,v,Q] at C); (rw [<- C]); (simp only [af.set,if_neg ap]); (first|done|rfl))) b
   rintro y b;refine Y4 ?_;exact L _ (y,(q+1)) wA b (dl E)
  rw [oG] at b;have b:=ku K b;refine ag.exit ?_;obtain⟨aY,au,b⟩:=bW b;exact J _ m wA (ku au b:)
 rintro aZ b;refine Y4 ?_;refine ag.eF 2 rfl ?_;refine ry ?_;obtain rfl:=oJ b;refine bU.cH H rfl ⟨rfl,rfl⟩ ?_;exact sy
def pM (a0:(Sl Int)):Option (Sl Int):=bif a0.nl then(some (Sl.nil:Sl Int)) else((bh 8 (⟨false,[]⟩:Sl Int) a0).bind fun x7=>some x7)
theorem Ak {a0 w0 r}(b:pM a0=some r) (H:af) :At 42 [.d (Sl.d 1 (bL .i64) w0 a0)] H (RT (.a (.d (Sl.d 1 (bL .i64) none r))) H):=by
 unfold pM at b;refine AC.oW 8 [.tmp 2] Tryz.call42 Tryz.func42 ?_;refine Y1 ?_;refine s0 (dM (k':=1) rfl) rfl ?_;refine Y1 ?_;refine ar fun l g=>Y2 ?_;refine s0 (Dz (TK rfl) rfl rfl) rfl ?_;refine Y1 ?_;refine cE b (fun j b=>?_) (fun j b=>?_)
 ·refine Y1 ?_;refine s0 (dM (k':=1) rfl) rfl ?_;refine Y1 ?_;exact rt b
 refine sk g (Y1 ?_);refine s0 (uE (TK rfl) rfl (TK rfl) rfl rfl rfl rfl rfl rfl) rfl ?_;refine Y1 ?_;obtain⟨x7,k,b⟩:=aX b;refine s0 (yN (f:=(bL .i64)) (TK rfl) rfl (TK rfl) (TK rfl) ⟨_,rfl⟩ rfl rfl (by decide) rfl rfl rfl (by intro q h; cases h<;>decide) rfl rfl k) rfl ?_;refine Y2 ?_;exact rt b
def mb :List Z7->(Sl Z7)->Option ((Sl Z7))
 | [],f=>some f
 | g::j,f=>on (g) fun b=>(pM b.av.aH).bind fun k=>(q6 b.cR).bind fun l=>(rC b.bf).bind fun m=>(bh 168 f (⟨false,[(Z7.mk b.aa (aL.mk b.av.aa k) b.ck l m)]⟩:Sl Z7)).bind fun p=>mb  (j) p
def vq (a0:(Sl Z7)):Option (Sl Z7):=Option.bind (mb  a0.l (Sl.nil:Sl Z7)) fun b=>on (b) fun f=>some f
def CN (a0:(Sl Z7)):Option (Sl Z7):=vq a0
theorem M6 {a0 w0 r}(b:CN a0=some r) (H:af) :At 39 [.d (Sl.d 10 Z7.c w0 a0)] H (RT (.a (.d (Sl.d 10 Z7.c none r))) H):=by
 unfold CN vq at b;refine AC.oW 32 [.tmp 2] Tryz.call39 Tryz.func39 ?_;refine ag.tok 10 fun f L=>?_;refine Y1 ?_;refine s0 (dM (k':=10) rfl) rfl ?_;refine Y4 ?_;refine ag.fe 3 10 f rfl az ?_;refine aO kN (fun(z:(Sl Z7))=>[(3,.a (.d (Sl.d 10 Z7.c (some f) z)))]) (fun z=>(tS H f 10 z)) (fun z=>(some z)=some r) ?_ ?_
 ·intro M q;refine Y2 ?_;refine aU Z7.c a0 fun N=>Y3 ?_;obtain⟨j,s,b⟩:=bZ b;refine bz (tl [6,7]) (fun(z:(Sl Z7)×Nat)=>[(3,.a (.d (Sl.d 10 Z7.c (some f) z.1))),(8,vi z.2)]) (fun z=>(tS H f 10 z.1)) (fun z=>a0.l.length-z.2) (fun z=>Option.bind (mb  (a0.l.drop z.2) z.1) j=some r) ((Sl.nil:Sl Z7),0) b wA ?_;rintro ⟨k,m⟩ b O t;refine Y3 ?_;refine ar fun P u=>?_
  refine ag.bJ (fun l=>Option.bind (mb  l k) j=some r) b rfl (fun Q p v b=>?_) (fun v b=>?_)
  ·rw [mb] at b;refine sk u (ar fun R w=>Y2 ?_);obtain⟨g,y,b⟩:=vO p b;refine S (ix Z7.c m y) (Y8 ?_);obtain⟨B,C,b⟩:=aJ b;refine Sc rfl rfl (Ak C) (Y7 ?_);obtain⟨E,F,b⟩:=aJ b;refine Sc rfl rfl (Aj F) (Y1 ?_)
   refine iT (Hs (xs':=Z7.c (Z7.mk g.aa (aL.mk g.av.aa B) g.ck E g.bf)) (TK rfl) rfl rfl rfl rfl (Nat.le_of_ble_eq_true rfl) rfl (by repeat (first|exact bE.zero|apply bE.succ))) ?_;refine Y4 ?_;obtain⟨U,G,b⟩:=aJ b;refine Sc rfl rfl (ul G) (Y7 ?_);obtain⟨I,J,b⟩:=aJ b;refine SH (am Z7.c (TK rfl) rfl (TK rfl) (TK rfl) J) ?_;refine Y2 ?_
   refine w _ ?_;refine Y4 ?_;exact t _ (I,(m+1)) wA b (dl p)
  rw [mb] at b;have b:=ku s b;refine ag.exit ?_;obtain⟨W,K,b⟩:=bW b;exact q _ k wA (ku K b:)
 rintro X b;refine Y4 ?_;refine ag.eF 2 rfl ?_;refine ry ?_;obtain rfl:=oJ b;refine bU.cH H rfl ⟨rfl,rfl⟩ ?_;exact sy
def nr (a0:Z2) (b:(Sl Bs)):Bool:=on (tX b a0.Iz) fun x3=>on (bif ((!x3)&&!(decide (((a0.yV.l.length:Nat):Int)=(0:Int)))) then tX b a0.yV else false) fun f=>((!x3)&&((decide (((a0.yV.l.length:Nat):Int)=(0:Int)))||f))
theorem CO {a0 f g r}(b:some (nr a0 f)=some r) (H:af) :At 40 [.agg (Z2.c a0),.d (Sl.d 1 aG g f)] H (RT (.a (.d (.bool r))) H):=by
 unfold nr at b;refine AC.oW 22 [.tmp 4] Tryz.call40 Tryz.func40 ?_;refine Y8 ?_;obtain⟨x3,j,b⟩:=ff b;refine Sc rfl rfl (F8 j) (Y3 ?_);refine Gk 11 ?_;refine bI 12 rfl (fun hC=>dG aG a0.yV) ?_;refine Gk 13 ?_;refine Gk 14 ?_;refine Y2 ?_;refine Gk 17 ?_;obtain⟨l,k,b⟩:=iX (fun _=>rfl) b;refine fS 16 18 rfl rfl rfl rfl rfl rfl (fun hC=>F8 (k hC)) ?_
 refine bI 15 rfl (fun hC=>we rfl rfl rfl) ?_;refine Y3 ?_;exact rt b
def Tryz.Wq:Go.Shelf.Ren:=⟨fun|4=>72|n=>n,fun|22=>25|25=>9|3=>3|4=>4|9=>9|20=>20|0=>0|n=>n,fun|n=>n⟩
theorem Tryz.Ws:Go.Proofs.Lays8.n4 Tryz.prog Tryz.Wq:={
 mixed:=by kernel_rfl
 f4:=⟨Tryz.f72.name,by decide,Tryz.func72.trans (congrArg some (by kernel_rfl))⟩
 t0:=Tryz.underlying0
 a0:=Tryz.isAgg0
 z0:=Tryz.sizeOf0
 v0:=Tryz.zeroValue0
 t3:=Tryz.underlying3
 a3:=Tryz.isAgg3
 z3:=Tryz.sizeOf3
 v3:=Tryz.zeroValue3
 t4:=Tryz.underlying4
 a4:=Tryz.isAgg4
 z4:=Tryz.sizeOf4
 v4:=Tryz.zeroValue4
 t9:=Tryz.underlying9
 a9:=Tryz.isAgg9
 z9:=Tryz.sizeOf9
 v9:=Tryz.zeroValue9
 t20:=Tryz.underlying20
 a20:=Tryz.isAgg20
 z20:=Tryz.sizeOf20
 v20:=Tryz.zeroValue20
 t22:=Tryz.underlying25
 a22:=Tryz.isAgg25
 z22:=Tryz.sizeOf25
 v22:=Tryz.zeroValue25 }
def zT (n:Int):Option (Sl Bs):=if 0<=n/\n.toNat*16<=cA/\n.toNat<=cA then some ⟨decide (n=0),[]⟩ else none
theorem Wt {n:Int}{f:Nat}{r:Sl Bs}(b:zT n=some r) (H:af):At 72 [.d (.slice f none true []),.d (.int .i64 n)] H fun v h'=>∃tk,H tk=none/\v=.a (.d (Sl.d 1 aG (some tk) r))/\h'=H.set tk (some (.tok 1 r.l.length)):=by
 unfold zT at b
 split at b
 ·rename_i h
  obtain rfl:=oJ b;exact PM Tryz.Ws (TK rfl) rfl rfl (by decide) h.1 h.2.1 h.2.2 rfl aG H
 cases b
def Cq  (b:(Sl Bs)):Option (Sl Bs):=some b
def zU (a0:(Sl (Sl Bs))) :Nat->(Sl Bs)->Nat->Option (Sl Bs)
 | 0,_,_=>none
 | g+1,f,b=>bif (decide (((b:Nat):Int)<((a0.l.length:Nat):Int))) then((a0.l[b]?).bind fun j=>(bh 16 f j).bind fun k=>(zU a0 g) k (b+1)) else(Cq   f)
def Cp (a0:(Sl (Sl Bs)))  (b:Int):Option (Sl Bs):=(zT b).bind fun f=>zU a0 (a0.l.length+1) f 0
def Co (b:Nat) (f:Int->Nat->Option (Sl Bs)) (g:Int):Option (Sl Bs):=f g (b+1)
def vu (a0:(Sl (Sl Bs))) :Nat->Int->Nat->Option (Sl Bs)
 | 0,_,_=>none
 | j+1,f,b=>bif (decide (((b:Nat):Int)<((a0.l.length:Nat):Int))) then((a0.l[b]?).bind fun k=>(cN f ((k.l.length:Nat):Int)).bind fun g=>bif (decide (g<(0:Int))) then(none) else(Co b ((vu a0 j)) g)) else(Cp a0  f)
def Cn (a0:(Sl (Sl Bs))):Option (Sl Bs):=vu a0 (a0.l.length+1) (0:Int) 0
theorem CP {a0 w0 r}(b:Cn a0=some r) (H:af) :At 41 [.d (Sl.d 1 (fun s=>[Sl.d 1 aG none s]) w0 a0)] H (RT (.a (.d (Sl.d 1 aG none r))) H):=by
 unfold Cn at b;refine AC.oW 36 [.tmp 2] Tryz.call41 Tryz.func41 ?_;refine Y1 ?_;refine s0 (dM (k':=1) rfl) rfl ?_;refine Y4 ?_;refine aO (tl [0]) (fun(z:Int)=>[(3,.a (.d (.int .i64 z)))]) (fun z=>H) (fun z=>Cp a0 z=some r) ?_ ?_
 ·intro Z p;refine Y2 ?_;refine aU (fun s=>[Sl.d 1 aG none s]) a0 fun aa=>Y3 ?_;refine bz (tl [0,9,10]) (fun(z:Nat×Int×Nat)=>[(3,.a (.d (.int .i64 z.2.1))),(11,vi z.2.2)]) (fun z=>H) (fun z=>z.1) (fun z=>vu a0 z.1 z.2.1 z.2.2=some r) ((a0.l.length+1),(0:Int),0) b wA ?_;rintro ⟨f,q,j⟩ b ab t;cases f with
  | zero=>cases b
  | succ f =>
    rw [vu] at b;refine Y3 ?_;refine ar fun ad u=>?_;refine cE b (fun v b=>?_) (fun v b=>?_)
    ·refine sk u (aO (tl [0,9,10,11]) (fun(z:Int)=>[(3,.a (.d (.int .i64 z)))]) (fun z=>H) (fun z=>Co j ((vu a0 f)) z=some r) ?_ ?_)
     ·intro ae w;refine Y2 ?_;obtain⟨y,B,b⟩:=bO b;refine S (ix (fun s=>[Sl.d 1 aG none s]) j B) (Y6 ?_);refine aU aG y fun ah=>?_;obtain⟨C,E,b⟩:=bO b;refine S (fp E) (Y6 ?_);refine cE b (fun F b=>?_) (fun F b=>?_)
      ·cases b
      refine ag.skip ?_;exact w _ C wA b
     rintro G b;unfold Co at b;refine Y4 ?_;exact t _ (f,G,(j+1)) wA b (nS _)
    refine ag.exit ?_;exact p _ q wA b
 rintro ai b;unfold Cp at b;refine Y2 ?_;obtain⟨I,J,b⟩:=bO b;refine sE (dm.call rfl rfl (Wt J _)) rfl (fun _ _ _ ⟨⟨g,aj,K,L⟩,M⟩=>?_);subst K L M;refine Y2 ?_;refine aO kN (fun(z:(Sl Bs))=>[(6,.a (.d (Sl.d 1 aG (some g) z)))]) (fun z=>(tS H g 1 z)) (fun z=>Cq z=some r) ?_ ?_
 ·intro ak N;refine Y2 ?_;refine aU (fun s=>[Sl.d 1 aG none s]) a0 fun al=>Y3 ?_;refine bz (tl [25,26]) (fun(z:Nat×(Sl Bs)×Nat)=>[(6,.a (.d (Sl.d 1 aG (some g) z.2.1))),(27,vi z.2.2)]) (fun z=>(tS H g 1 z.2.1)) (fun z=>z.1) (fun z=>zU a0 z.1 z.2.1 z.2.2=some r) ((a0.l.length+1),I,0) b wA ?_;rintro ⟨k,O,m⟩ b ao P;cases k with
  | zero=>cases b
  | succ k =>
    rw [zU] at b;refine Y3 ?_;refine ar fun ap Q=>?_;refine cE b (fun R b=>?_) (fun R b=>?_)
    ·refine sk Q (ar fun aq U=>Y2 ?_);obtain⟨au,W,b⟩:=bO b;refine S (ix (fun s=>[Sl.d 1 aG none s]) m W) (Y6 ?_);obtain⟨X,Y,b⟩:=bO b;refine SH (am aG (TK rfl) rfl (TK rfl) (TK rfl) Y) ?_;refine Y2 ?_;refine U _ ?_;refine Y4 ?_;exact P _ (k,X,(m+1)) wA b (nS _)
    refine ag.exit ?_;exact N _ O wA b
 rintro av b;unfold Cq at b;refine Y4 ?_;refine ag.eF 2 rfl ?_;refine ry ?_;obtain rfl:=oJ b;refine bU.cH H rfl ⟨rfl,rfl⟩ ?_;exact sy
def xw (a0:(Sl (Sl Bs))):Option (Sl Bs):=Cn a0
def jF (a0:Z2) (x3:(Sl Bs)):List Z6->ah->Option (ah)
 | [],b=>some b
 | g::j,b=>on (g) fun f=>(jt f.bf).bind fun k=>(xw (⟨false,[x3,k]⟩:Sl (Sl Bs))).bind fun l=>on (nr a0 l) fun m=>Option.bind (bif m then((pM f.av.aH).bind fun p=>(rC f.bf).bind fun q=>(vq f.ay).bind fun r=>(bh 104 b.aq (⟨false,[(Z6.mk f.aa r (aL.mk f.av.aa p) q)]⟩:Sl Z6)).bind fun s=>some (ah.mk b.ai b.aa b.aM b.bf s b.ax b.aF)) else(some b)) fun t=>jF a0 x3 (j) t
def gG (a0:Z2) (f:ah) (x3:(Sl Bs)):List Z8->ah->Option (ah)
 | [],b=>some b
 | j::k,b=>on (j) fun g=>aZ (!(!decide (f.ai=(4:Int)))) (jt g.bf) (Sl.nil:Sl Bs) fun l=>aZ (!(!decide (f.ai=(4:Int)))) (xw (⟨false,[x3,l]⟩:Sl (Sl Bs))) (Sl.nil:Sl Bs) fun m=>on (bif !(!decide (f.ai=(4:Int))) then nr a0 m else false) fun p=>Option.bind (bif ((!decide (f.ai=(4:Int)))||p) then((rC g.bf).bind fun q=>(bh 40 b.ax (⟨false,[(Z8.mk g.aa q)]⟩:Sl Z8)).bind fun r=>some (ah.mk b.ai b.aa b.aM b.bf b.aq r b.aF)) else(some b)) fun s=>gG a0 f x3 (k) s
def zV (a0:Z2) (b:ah):Option ah:=(jt b.bf).bind fun x3=>(qY b.aM).bind fun x5=>(rC b.bf).bind fun f=>(vq b.aF).bind fun x7=>Option.bind (jF a0 x3 b.aq.l (ah.mk b.ai b.aa x5 f Sl.nil Sl.nil x7)) fun g=>on (g) fun j=>Option.bind (gG a0 b x3 b.ax.l j) fun k=>on (k) fun m=>some m
def p_ (a0:Z2) (b:ah):Option ah:=zV a0 b
theorem Wu {a0 g r}(b:p_ a0 g=some r) (H:af) :At 20 [.agg (Z2.c a0),.agg (ah.c g)] H (RT (.a (.agg (ah.c r))) H):=by
 unfold p_ zV at b;refine AC.oW 97 [.cell 4 40] Tryz.call20 Tryz.func20 ?_;refine Y8 ?_;obtain⟨x3,M,b⟩:=aX b;refine Sc rfl rfl (vD M) (Y9 ?_);obtain⟨x5,N,b⟩:=aX b;refine cF rfl rfl (M5 N) (Y2 ?_);obtain⟨O,P,b⟩:=aX b;refine cF rfl rfl (ul P) (Y2 ?_);obtain⟨x7,Q,b⟩:=aX b;refine cF rfl rfl (M6 Q) (Y4 ?_);refine ag.tok 5 fun k a2=>?_
 refine ag.cU 1 _ rfl (fun j w cs hh hx=>tok_cell 4 5 5 hh (t:=k) az hx rfl) ?_;refine ag.tok 2 fun m C=>?_;obtain⟨a3,C⟩:=af.eA C;refine ag.cU 1 _ rfl (fun j w cs hh hx=>tok_cell 5 2 2 hh (t:=m) az hx rfl) ?_
 refine dS (tl [2,3,4,5,6]) (fun(z:ah)=>[]) (fun z=>[ah.c ah.zero,((bL .i64) z.ai++aG z.aa++(fun s=>[Sl.d 1 aG none s]) z.aM++(fun s=>[Sl.d 2 aA.c none s]) z.bf++[Sl.d 5 Z6.c (some k) z.aq]++[Sl.d 2 Z8.c (some m) z.ax]++(fun s=>[Sl.d 10 Z7.c none s]) z.aF)]) (fun z=>(tS (tS H k 5 z.aq) m 2 z.ax)) (fun z=>(Option.bind (gG a0 g x3 g.ax.l z) fun p=>on (p) fun E=>some E)=some r) ?_ ?_
 ·intro a4 R;refine Y3 ?_;refine aU Z6.c g.aq fun a5=>Y3 ?_;obtain⟨u,U,b⟩:=bZ b
  refine gz (tl [2,3,4,5,6,29,30]) (fun(z:Nat×ah)=>[(31,vi z.1)]) (fun z=>[ah.c ah.zero,((bL .i64) z.2.ai++aG z.2.aa++(fun s=>[Sl.d 1 aG none s]) z.2.aM++(fun s=>[Sl.d 2 aA.c none s]) z.2.bf++[Sl.d 5 Z6.c (some k) z.2.aq]++[Sl.d 2 Z8.c (some m) z.2.ax]++(fun s=>[Sl.d 10 Z7.c none s]) z.2.aF)]) (fun z=>(tS (tS H k 5 z.2.aq) m 2 z.2.ax)) (fun z=>g.aq.l.length-z.1) (fun z=>Option.bind (jF a0 x3 (g.aq.l.drop z.1) z.2) u=some r) (0,(ah.mk g.ai g.aa x5 O Sl.nil Sl.nil x7)) b wA ?_
  rintro ⟨v,q⟩ b a6 W;refine Y3 ?_;refine ar fun a7 X=>?_;refine ag.bJ (fun l=>Option.bind (jF a0 x3 l q) u=some r) b rfl (fun a8 F Y b=>?_) (fun Y b=>?_)
  ·rw [jF] at b;refine sk X ?_
   refine dS (tl [2,3,4,5,6,29,30,31]) (fun(z:ah)=>[]) (fun z=>[ah.c ah.zero,((bL .i64) z.ai++aG z.aa++(fun s=>[Sl.d 1 aG none s]) z.aM++(fun s=>[Sl.d 2 aA.c none s]) z.bf++[Sl.d 5 Z6.c (some k) z.aq]++[Sl.d 2 Z8.c (some m) z.ax]++(fun s=>[Sl.d 10 Z7.c none s]) z.aF)]) (fun z=>(tS (tS H k 5 z.aq) m 2 z.ax)) (fun z=>Option.bind (jF a0 x3 (g.aq.l.drop (v+1)) z) u=some r) ?_ ?_
   ·intro a9 G;refine Y2 ?_;obtain⟨a_,Z,b⟩:=vO F b;refine S (ix Z6.c v Z) (Y9 ?_);obtain⟨a',ab,b⟩:=aJ b;refine cF rfl rfl (vD ab) (Y1 ?_);obtain⟨ba,ad,b⟩:=aJ b;refine cF rfl rfl (CP ad) ?_;obtain⟨bb,ae,b⟩:=eG b;refine cF rfl rfl (CO ae) (Y1 ?_);obtain⟨bc,I,b⟩:=dA b;refine cO b (fun aj b=>?_) (fun aj b=>?_)
    ·refine Y4 ?_;obtain⟨bd,ak,b⟩:=aJ b;refine Sc rfl rfl (Ak ak) (Y7 ?_);obtain⟨be,al,b⟩:=aJ b;refine Sc rfl rfl (ul al) (Y6 ?_);obtain⟨bg,ao,b⟩:=aJ b;refine Sc rfl rfl (M6 ao) (Y8 ?_);obtain⟨ap,au,b⟩:=aJ b;refine SH (am Z6.c (TK rfl) rfl (TK rfl) (TK rfl) au) ?_;refine Y3 ?_
     exact G _ (ah.mk q.ai q.aa q.aM q.bf ap q.ax q.aF) wA (ku I b:)
    refine ag.skip ?_;exact G _ q wA (ku I b:)
   rintro av b;refine Y4 ?_;exact W _ ((v+1),av) wA b (dl F)
  rw [jF] at b;have b:=ku U b;refine ag.exit ?_;obtain⟨bh,aw,b⟩:=bW b;exact R _ q wA (ku aw b:)
 rintro ay b;refine dS (tl [4,6]) (fun(z:ah)=>[]) (fun z=>[ah.c ah.zero,((bL .i64) z.ai++aG z.aa++(fun s=>[Sl.d 1 aG none s]) z.aM++(fun s=>[Sl.d 2 aA.c none s]) z.bf++[Sl.d 5 Z6.c (some k) z.aq]++[Sl.d 2 Z8.c (some m) z.ax]++(fun s=>[Sl.d 10 Z7.c none s]) z.aF)]) (fun z=>(tS (tS H k 5 z.aq) m 2 z.ax)) (fun z=>(some z)=some r) ?_ ?_
 ·intro bi aB;refine Y3 ?_;refine aU Z8.c g.ax fun bj=>Y3 ?_;obtain⟨y,aC,b⟩:=bZ b
  refine gz (tl [2,3,4,5,6,65,66]) (fun(z:Nat×ah)=>[(67,vi z.1)]) (fun z=>[ah.c ah.zero,((bL .i64) z.2.ai++aG z.2.aa++(fun s=>[Sl.d 1 aG none s]) z.2.aM++(fun s=>[Sl.d 2 aA.c none s]) z.2.bf++[Sl.d 5 Z6.c (some k) z.2.aq]++[Sl.d 2 Z8.c (some m) z.2.ax]++(fun s=>[Sl.d 10 Z7.c none s]) z.2.aF)]) (fun z=>(tS (tS H k 5 z.2.aq) m 2 z.2.ax)) (fun z=>g.ax.l.length-z.1) (fun z=>Option.bind (gG a0 g x3 (g.ax.l.drop z.1) z.2) y=some r) (0,ay) b wA ?_
  rintro ⟨B,p⟩ b bk aD;refine Y3 ?_;refine ar fun bl aE=>?_;refine ag.bJ (fun l=>Option.bind (gG a0 g x3 l p) y=some r) b rfl (fun bm J aH b=>?_) (fun aH b=>?_)
  ·rw [gG] at b;refine sk aE ?_
   refine dS (tl [2,3,4,5,6,65,66,67]) (fun(z:ah)=>[]) (fun z=>[ah.c ah.zero,((bL .i64) z.ai++aG z.aa++(fun s=>[Sl.d 1 aG none s]) z.aM++(fun s=>[Sl.d 2 aA.c none s]) z.bf++[Sl.d 5 Z6.c (some k) z.aq]++[Sl.d 2 Z8.c (some m) z.ax]++(fun s=>[Sl.d 10 Z7.c none s]) z.aF)]) (fun z=>(tS (tS H k 5 z.aq) m 2 z.ax)) (fun z=>Option.bind (gG a0 g x3 (g.ax.l.drop (B+1)) z) y=some r) ?_ ?_
   ·intro bn K;refine Y2 ?_;obtain⟨bo,aI,b⟩:=vO J b;refine S (ix Z8.c B aI) (Y4 ?_);refine bC 10 _ rfl (kl [2,3,4,5,6,65,66,67]) ?_;refine Y8 ?_;refine cm 77 ?_;obtain⟨bp,aL,b⟩:=fz b;refine mB 78 rfl rfl rfl rfl rfl (fun hC=>vD (aL hC)) ?_;refine gq 76 79 rfl rfl (fun hC=>buildSlice (TK rfl) rfl (TK rfl) rfl rfl rfl rfl rfl rfl) ?_;obtain⟨bq,aO,b⟩:=fz b
    refine mB 80 rfl rfl rfl rfl rfl (fun hC=>CP (aO hC)) ?_;obtain⟨br,aP,b⟩:=ee (fun _=>rfl) b;refine sD 75 81 rfl rfl rfl rfl rfl rfl (fun hC=>CO (aP hC)) ?_;refine Y2 ?_;obtain⟨bs,L,b⟩:=dA b;refine cO b (fun aR b=>?_) (fun aR b=>?_)
    ·refine ag.draw rfl ?_;refine Y6 ?_;obtain⟨bt,aS,b⟩:=aJ b;refine cF rfl rfl (ul aS) (Y2 ?_);obtain⟨aV,aW,b⟩:=aJ b;refine aN.sH (jy (f:=Z8.c) (TK rfl) rfl (TK rfl) (TK rfl) ⟨_,rfl⟩ rfl rfl (by decide) rfl rfl rfl rfl az rfl aW) rfl ?_;refine Y1 ?_
     refine aN.iT (mr (TK rfl) rfl rfl rfl rfl (by repeat (first|exact bE.zero|apply bE.succ)) (by repeat (first|exact bE.zero|apply bE.succ))) ?_;refine Y1 ?_;exact K _ (ah.mk p.ai p.aa p.aM p.bf p.aq aV p.aF) wA (ku L b:)
    refine ag.skip ?_;exact K _ p wA (ku L b:)
   rintro aY b;refine Y4 ?_;exact aD _ ((B+1),aY) wA b (dl J)
  rw [gG] at b;have b:=ku aC b;refine ag.exit ?_;obtain⟨bu,aZ,b⟩:=bW b;exact aB _ p wA (ku aZ b:)
 rintro E b;refine ar fun bv a1=>ag.cU 1 _ rfl (fun j w cs hh hx=>kH 4 hx rfl) ?_;refine ag.cU 1 _ rfl (fun j w cs hh hx=>kH 5 hx rfl) ?_;refine Y4 ?_;refine a1 _ ?_;exact rs b
def lT (f:Bs):List ah->Unit ⊕ ((ah×Bool))
 | []=>Sum.inl ()
 | g::j=>on (g) fun b=>bif ((b.aa==f)) then(Sum.inr (b,true)) else(lT f (j) )
def fA (a0:ak) (g:Bs):(ah×Bool):=on (lT g a0.aj.l ) fun b=>match b with|Sum.inl _=>(on (()) fun _=>((ah.mk 0 [] Sl.nil Sl.nil Sl.nil Sl.nil Sl.nil),false))|Sum.inr f=>(f)
def Al (a0:ak) (b:Bs):Option (ah×Bool):=some (fA a0 b)
theorem JR (a0:ak) (a1:Bs):Al a0 a1=some (fA a0 a1):=rfl
theorem oP {a0 f r}(b:Al a0 f=some r) (H:af) :At 32 [.agg (ak.c a0),.d (.str f)] H (RT (.cL [.agg (ah.c r.1),.d (.bool r.2)]) H):=by
 unfold Al fA at b;refine AC.oW 22 [.cell 4 40,.tmp 5] Tryz.call32 Tryz.func32 ?_;refine Y5 ?_;refine dS (tl [4]) (fun(z:ah)=>[]) (fun z=>[ah.c z]) (fun z=>H) (fun z=>some (((ah.mk 0 [] Sl.nil Sl.nil Sl.nil Sl.nil Sl.nil),false))=some r) ?_ ?_
 ·intro C q;refine Y3 ?_;refine aU ah.c a0.aj fun E=>Y3 ?_;obtain⟨g,j,b⟩:=dU b;refine gz (tl [1,4,9,10]) (fun(z:Nat×ah)=>[(11,vi z.1)]) (fun z=>[ah.c z.2]) (fun z=>H) (fun z=>a0.aj.l.length-z.1) (fun z=>g (lT f (a0.aj.l.drop z.1) )=some r) (0,ah.zero) b wA ?_;rintro ⟨k,m⟩ b F s;refine Y3 ?_;refine ar fun G t=>?_
  refine ag.bJ (fun l=>g (lT f l )=some r) b rfl (fun I p u b=>?_) (fun u b=>?_)
  ·rw [lT] at b;refine sk t (ar fun J v=>Y2 ?_);obtain⟨K,w,b⟩:=vP p b;refine S (ix ah.c k w) (Y4 ?_);refine bC 7 _ rfl (kl [1,4,9,10,11]) ?_;refine Y6 ?_;refine cP b (fun y b=>?_) (fun y b=>?_)
   ·refine Y5 ?_;exact rs (ku j b:)
   refine sk v (Y4 ?_);exact s _ ((k+1),m) wA b (dl p)
  rw [lT] at b;have b:=ku j b;refine ag.exit ?_;obtain⟨L,B,b⟩:=dU b;exact q _ m wA (ku B b:)
 rintro M b;refine Y5 ?_;exact rt b
def fU (a0:Z4) (b:Bool) (f:Int) (g:Bs):Option Z4:=bif b then((bh 24 a0.bK (⟨false,[(Z5.mk f g)]⟩:Sl Z5)).bind fun x3=>some (Z4.mk a0.Fd x3)) else(some a0)
theorem mg {a0 g j k c0 b r}(f:fU a0 g j k=some r) (H:af) (b7:H c0=some (.cells (Z4.cg (some b) a0))) (s:H b=some (.tok 2 a0.bK.l.length)):At 79 [.d (.ptr c0 0),.d (.bool g),.d (.int .i64 j),.d (.str k)] H (RT (.cL []) (((tS H b 2 r.bK).set c0 (some (.cells (Z4.cg (some b) r)))))):=by
 unfold fU at f;refine AC.oW 21 [] Tryz.call79 Tryz.func79 ?_;have t:c0≠b:=fun m=>by subst m; simp_all
 refine hz ((tS H b 2 a0.bK).set c0 (some (.cells (Z4.cg (some b) a0)))) (Y3 ?_);refine cE f (fun p f=>?_) (fun p f=>?_)
 ·refine pq ?_;obtain⟨x3,q,f⟩:=aX f;refine SH (am Z5.c (TK rfl) rfl (TK rfl) (TK rfl) q) ?_;refine Y2 ?_;refine dB (gw (TK rfl) rfl rfl az rfl (by repeat (first|exact bE.zero|apply bE.succ))) rfl rfl ?_;refine hq ((tS H b 2 x3).set c0 (some (.cells (Z4.cg (some b) (Z4.mk a0.Fd x3))))) (Y1 ?_);repeat (first|refine fQ ?_|refine fP ?_|refine fO ?_)
  obtain rfl:=oJ f;refine bU.gj ((tS H b 2 x3).set c0 (some (.cells (Z4.cg (some b) (Z4.mk a0.Fd x3))))) (xs:=[]) rfl ⟨rfl,rfl⟩ ?_;exact(fun _ _ h=>h)
 refine ag.skip ?_;repeat (first|refine fQ ?_|refine fP ?_|refine fO ?_)
 obtain rfl:=oJ f;refine bU.gj ((tS H b 2 a0.bK).set c0 (some (.cells (Z4.cg (some b) a0)))) (xs:=[]) rfl ⟨rfl,rfl⟩ ?_;exact(fun _ _ h=>h)
def cV (a0:Bs):Bool:=(((((a0==([73,110,116]:Bs)))||((a0==([83,116,114,105,110,103]:Bs))))||((a0==([66,111,111,108,101,97,110]:Bs))))||((a0==([73,68]:Bs))))
theorem vE {a0 r}(b:some (cV a0)=some r) (H:af) :At 120 [.d (.str a0)] H (RT (.a (.d (.bool r))) H):=by
 unfold cV at b;refine AC.oW 17 [.tmp 2] Tryz.call120 Tryz.func120 ?_;refine Y8 ?_;refine Gk 6 ?_;refine Y3 ?_;refine Gk 10 ?_;refine Y3 ?_;refine Gk 14 ?_;refine Y3 ?_;exact rt b
def pP :List UInt8->Unit ⊕ Bool
 | []=>Sum.inl ()
 | f::g=>on (f) fun b=>bif (!(((((decide ((97:Int)<=((b.toNat:Nat):Int)))&&(decide (((b.toNat:Nat):Int)<=(122:Int))))||((decide ((65:Int)<=((b.toNat:Nat):Int)))&&(decide (((b.toNat:Nat):Int)<=(90:Int)))))||((decide ((48:Int)<=((b.toNat:Nat):Int)))&&(decide (((b.toNat:Nat):Int)<=(57:Int)))))||(decide (((b.toNat:Nat):Int)=(95:Int))))) then(Sum.inr false) else(pP  (g) )
def u0 (a0:Bs):Option Bool:=aZ (!(((a0==([]:Bs)))||(decide ((64:Int)<((a0.length:Nat):Int))))) (a0[0]?) (0:UInt8) fun b=>aZ ((!(((a0==([]:Bs)))||(decide ((64:Int)<((a0.length:Nat):Int))))&&(decide ((48:Int)<=((b.toNat:Nat):Int))))) (a0[0]?) (0:UInt8) fun x5=>bif ((((a0==([]:Bs)))||(decide ((64:Int)<((a0.length:Nat):Int))))||((decide ((48:Int)<=((b.toNat:Nat):Int)))&&(decide (((x5.toNat:Nat):Int)<=(57:Int))))) then(some false) else(on (pP  a0 ) fun f=>match f with|Sum.inl _=>(on (()) fun _=>some true)|Sum.inr g=>(some g))
theorem F9 {a0 r}(b:u0 a0=some r) (H:af) :At 122 [.d (.str a0)] H (RT (.a (.d (.bool r))) H):=by
 unfold u0 at b;refine AC.oW 58 [.tmp 2] Tryz.call122 Tryz.func122 ?_;refine Y3 ?_;refine ar fun F m=>Y5 ?_;refine bI 8 rfl (fun hC=>AO (TK rfl) rfl rfl rfl) ?_;refine Gk 9 ?_;refine Y3 ?_;obtain⟨G,p,b⟩:=eB b;refine bI 13 rfl (fun hC=>su (n:=0) (TK rfl) rfl rfl rfl (p hC)) ?_;refine Gk 14 ?_;refine Gk 15 ?_;refine Y1 ?_;obtain⟨x5,q,b⟩:=eB b
 refine bI 17 rfl (fun hC=>su (n:=0) (TK rfl) rfl rfl rfl (q hC)) ?_;refine Gk 18 ?_;refine bI 16 rfl (fun hC=>kI rfl rfl rfl) ?_;refine Y2 ?_;refine cE b (fun s b=>?_) (fun s b=>?_)
 ·refine Y3 ?_;exact rt b
 refine sk m (aO kN (fun(z:Unit)=>[]) (fun z=>H) (fun z=>(some true)=some r) ?_ ?_)
 ·intro I t;refine Y2 ?_;refine uI (TK rfl) rfl rfl rfl rfl fun J=>?_;refine Y3 ?_;obtain⟨f,g,b⟩:=bW b;refine bz (tl [0,23]) (fun(z:Nat)=>[(24,vi z)]) (fun z=>H) (fun z=>a0.length-z) (fun z=>f (pP  (a0.drop z) )=some r) 0 b wA ?_;rintro j b K u;refine Y3 ?_;refine ar fun L v=>?_
  refine ag.bJ (fun l=>f (pP  l )=some r) b rfl (fun M k w b=>?_) (fun w b=>?_)
  ·rw [pP] at b;refine sk v (ar fun N y=>Y8 ?_);obtain⟨O,B,b⟩:=vP k b;refine s0 (su (n:=j) (TK rfl) rfl rfl rfl B) rfl ?_;refine Y7 ?_;refine Gk 33 ?_;refine Y3 ?_;refine Gk 37 ?_;refine Gk 38 ?_;refine Y1 ?_;refine Gk 40 ?_;refine bI 39 rfl (fun hC=>kI rfl rfl rfl) ?_;refine Y3 ?_;refine Gk 45 ?_;refine Gk 46 ?_;refine Y1 ?_;refine Gk 48 ?_
   refine bI 47 rfl (fun hC=>kI rfl rfl rfl) ?_;refine Y3 ?_;refine Gk 53 ?_;refine Y3 ?_;refine cP b (fun C b=>?_) (fun C b=>?_)
   ·refine Y3 ?_;exact rs (ku g b:)
   refine sk y (Y4 ?_);exact u _ (j+1) wA b (dl k)
  rw [pP] at b;have b:=ku g b;refine ag.exit ?_;obtain⟨P,E,b⟩:=bW b;exact t _ () wA (ku E b:)
 rintro _ b;refine Y3 ?_;exact rt b
def BC (a0:Bs) (b:Bs):Bool:=on (bif (decide (((b.length:Nat):Int)<=((a0.length:Nat):Int))) then(List.take (b.length) a0) else([]:Bs)) fun x5=>((decide (((b.length:Nat):Int)<=((a0.length:Nat):Int)))&&((x5==b)))
theorem Wv {a0 f r}(b:some (BC a0 f)=some r) (H:af) :At 183 [.d (.str a0),.d (.str f)] H (RT (.a (.d (.bool r))) H):=by
 unfold BC at b;refine AC.oW 18 [.tmp 4] Tryz.call183 Tryz.func183 ?_;refine Y5 ?_;refine uI (TK rfl) rfl rfl rfl rfl fun j=>?_;refine Y1 ?_;refine uI (TK rfl) rfl rfl rfl rfl fun k=>?_;refine Y4 ?_;refine bI 12 rfl (fun hC=>AO (TK rfl) rfl rfl rfl) ?_;obtain⟨x5,g,b⟩:=iX (fun hc=>Q.P7 (by simp at hc; omega)) b
 refine fJ 11 13 rfl rfl (fun hC=>Pb (l:=none) (r:=(some ((f.length:Nat):Int))) (TK rfl) rfl rfl trivial rfl (by simp) (g hC)) ?_;refine Y1 ?_;refine G2 14 15 rfl rfl BS ?_;refine Y3 ?_;exact rt b
def BB (a0:Bs) (b:Bs):Bool:=on (BC a0 b) fun x3=>x3
theorem Ww {a0 f r}(b:some (BB a0 f)=some r) (H:af) :At 151 [.d (.str a0),.d (.str f)] H (RT (.a (.d (.bool r))) H):=by
 unfold BB at b;refine AC.oW 8 [.tmp 4] Tryz.call151 Tryz.func151 ?_;refine Y6 ?_;obtain⟨x3,g,b⟩:=ff b;refine Sc rfl rfl (Wv g) (Y2 ?_);exact rt b
def kg (a0:Bs):Bool:=on (BB a0 ([95,95]:Bs)) fun x3=>x3
theorem F_ {a0 r}(b:some (kg a0)=some r) (H:af) :At 123 [.d (.str a0)] H (RT (.a (.d (.bool r))) H):=by
 unfold kg at b;refine AC.oW 5 [.tmp 2] Tryz.call123 Tryz.func123 ?_;refine Y5 ?_;obtain⟨x3,f,b⟩:=ff b;refine Sc rfl rfl (Ww f) (Y2 ?_);exact rt b
end Go.Proofs
