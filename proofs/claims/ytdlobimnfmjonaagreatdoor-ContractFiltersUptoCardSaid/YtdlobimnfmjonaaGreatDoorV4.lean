import Derived.Test.YtdlobimnfmjonaaGreatDoorV3
set_option maxRecDepth 100000
set_option maxHeartbeats 2000000
set_option linter.unusedVariables false
set_option linter.unusedSimpArgs false
namespace Go.Proofs
open Go Go.Ab
open aJ aq ah dN fT
attribute [local irreducible] aJ aN ah aq
variable {av:bR}
def BL (a0:Z9):Bool:=(((((decide (a0.ak=(0:Int)))&&(decide (a0.bz=(0:Int))))&&((a0.br==([]:Bs))))&&(decide (((a0.aG.l.length:Nat):Int)=(0:Int))))&&(decide (((a0.aW.l.length:Nat):Int)=(0:Int))))
theorem VU {a0 r}(b:some (BL a0)=some r) (H:af) :AC Tryz.prog 113 [.agg (Z9.c a0)] H (RT (.a (.d (.bool r))) H):=by
 unfold BL at b;refine AC.oW 28 [.tmp 2] Tryz.call113 Tryz.func113 ?_;refine oI ?_;refine Gk 7 ?_;refine Gk 8 ?_;refine Y3 ?_;refine Gk 12 ?_;refine Gk 13 ?_;refine Y3 ?_;refine bG 17 rfl (fun hC=>dU (TK rfl) rfl rfl (congrArg (fun x=>some (A.d x)) (Z9.eN _))) ?_;refine bG 18 rfl (fun hC=>dK Z9.c a0.aG) ?_;refine Gk 19 ?_;refine Y3 ?_;refine Gk 23 ?_
 refine bG 24 rfl (fun hC=>dK aB a0.aW) ?_;refine Gk 25 ?_;refine Y3 ?_;exact rt b
def mh :List Z7->Option (Unit ⊕ Bool)
 | []=>some (Sum.inl ())
 | l::m=>on (l) fun b=>on (ff b.aa) fun f=>aY (!(!f)) (wq b.ax) false fun j=>aY (!((!f)||(!j))) (sF b.aM) false fun p=>bif (((!f)||(!j))||(!p)) then(some (Sum.inr false)) else(aY (b.b_) (gN b.dm) false fun g=>aY ((b.b_&&!(!g))) (D8 b.dm) false fun k=>on (bif (!(b.b_&&((!g)||(!k)))&&(!b.b_)) then BL b.dm else false) fun q=>bif ((b.b_&&((!g)||(!k)))||((!b.b_)&&(!q))) then(some (Sum.inr false)) else(mh  (m) ))
def qv (a0:(Sl Z7)):Option Bool:=bif (decide ((16:Int)<((a0.l.length:Nat):Int))) then(some false) else(Option.bind (mh  a0.l ) fun b=>match b with|Sum.inl _=>(on (()) fun _=>some true)|Sum.inr f=>(some f))
theorem Mz {a0 w0 r}(b:qv a0=some r) (H:af) :AC Tryz.prog 67 [.d (Sl.d 10 Z7.c w0 a0)] H (RT (.a (.d (.bool r))) H):=by
 unfold qv at b;refine AC.oW 59 [.tmp 2] Tryz.call67 Tryz.func67 ?_;refine Y3 ?_;refine ar fun M m=>Y2 ?_;refine aT Z7.c a0 fun N=>Y2 ?_;refine cE b (fun p b=>?_) (fun p b=>?_)
 ·refine Y3 ?_;exact rt b
 refine sk m (aR kN (fun(z:Unit)=>[]) (fun z=>H) (fun z=>(some true)=some r) ?_ ?_)
 ·intro O q;refine Y4 ?_;obtain⟨g,f,b⟩:=bZ b;refine bD (tl [0]) (fun(z:Nat)=>[(3,vi z)]) (fun z=>H) (fun z=>a0.l.length-z) (fun z=>Option.bind (mh  (a0.l.drop z) ) g=some r) 0 b wA ?_;rintro j b P s;refine ar fun Q t=>Y3 ?_;refine aT Z7.c a0 fun R=>Y2 ?_;refine ah.bL (fun l=>Option.bind (mh  l ) g=some r) b rfl (fun U k u b=>?_) (fun u b=>?_)
  ·rw [mh] at b;refine sk t (ar fun W v=>Y4 ?_);obtain⟨X,w,b⟩:=vO k b;refine S (ix Z7.c j w) (Y4 ?_);refine bx 4 _ rfl (kl [0,3]) ?_;refine ar fun Y y=>Y3 ?_;obtain⟨Z,B,b⟩:=vO rfl b;refine Sc rfl rfl (mb B) (Y3 ?_);refine Gk 23 ?_;obtain⟨aa,C,b⟩:=e8 rfl b;refine dQ 24 rfl rfl rfl rfl rfl (fun hC=>My (C hC)) ?_;refine Gk 25 ?_;refine Y3 ?_
   refine Gk 29 ?_;obtain⟨ab,E,b⟩:=e8 (Cs _) b;refine dQ 30 rfl rfl rfl rfl rfl (fun hC=>Cr (E hC)) ?_;refine Gk 31 ?_;refine Y2 ?_;refine cO b (fun F b=>?_) (fun F b=>?_)
   ·refine Y3 ?_;exact rs (ku f b:)
   refine sk y (Y5 ?_);refine Gk 37 ?_;obtain⟨ad,G,b⟩:=e8 rfl b;refine dQ 38 rfl rfl rfl rfl rfl (fun hC=>Mu (G hC)) ?_;refine Gk 39 ?_;refine Gk 40 ?_;refine Y1 ?_;refine Gk 42 ?_;obtain⟨ae,I,b⟩:=e8 rfl b;refine dQ 43 rfl rfl rfl rfl rfl (fun hC=>Mx (I hC)) ?_;refine Gk 44 ?_;refine bG 41 rfl (fun hC=>um rfl rfl rfl) ?_;refine Y3 ?_;refine Gk 49 ?_;refine Gk 50 ?_
   refine Gk 51 ?_;refine Y1 ?_;refine Gk 53 ?_;obtain⟨ag,J,b⟩:=ej (fun _=>rfl) b;refine dQ 54 rfl rfl rfl rfl rfl (fun hC=>VU (J hC)) ?_;refine Gk 55 ?_;refine bG 52 rfl (fun hC=>kr rfl rfl rfl) ?_;refine Y2 ?_;refine cO b (fun K b=>?_) (fun K b=>?_)
   ·refine Y3 ?_;exact rs (ku f b:)
   refine sk v (Y5 ?_);exact s _ (j+1) wA b (dl k)
  rw [mh] at b;have b:=ku f b;refine ah.exit ?_;obtain⟨ai,L,b⟩:=bW b;exact q _ () wA (ku L b:)
 rintro _ b;refine Y3 ?_;exact rt b
def mi :List Z6->Option (Unit ⊕ Bool)
 | []=>some (Sum.inl ())
 | g::k=>on (g) fun l=>on (ff l.aa) fun b=>on (bif !(!b) then g else Z6.zero) fun m=>aY (!(!b)) (qv m.az) false fun f=>on (bif !((!b)||(!f)) then g else Z6.zero) fun p=>aY (!((!b)||(!f))) (wq p.ax) false fun j=>on (bif !(((!b)||(!f))||(!j)) then g else Z6.zero) fun q=>aY (!(((!b)||(!f))||(!j))) (sF q.aM) false fun r=>bif ((((!b)||(!f))||(!j))||(!r)) then(some (Sum.inr false)) else(mi  (k) )
def oU (a0:(Sl Z6)):Option Bool:=bif ((decide (((a0.l.length:Nat):Int)<(1:Int)))||(decide ((64:Int)<((a0.l.length:Nat):Int)))) then(some false) else(Option.bind (mi  a0.l ) fun b=>match b with|Sum.inl _=>(on (()) fun _=>some true)|Sum.inr f=>(some f))
theorem MA {a0 w0 r}(b:oU a0=some r) (H:af) :AC Tryz.prog 65 [.d (Sl.d 5 Z6.c w0 a0)] H (RT (.a (.d (.bool r))) H):=by
 unfold oU at b;refine AC.oW 52 [.tmp 2] Tryz.call65 Tryz.func65 ?_;refine Y3 ?_;refine ar fun L m=>Y2 ?_;refine aT Z6.c a0 fun M=>Y3 ?_;refine bG 8 rfl (fun hC=>dK Z6.c a0) ?_;refine Gk 9 ?_;refine Y2 ?_;refine cE b (fun p b=>?_) (fun p b=>?_)
 ·refine Y3 ?_;exact rt b
 refine sk m (aR kN (fun(z:Unit)=>[]) (fun z=>H) (fun z=>(some true)=some r) ?_ ?_)
 ·intro N q;refine Y4 ?_;obtain⟨j,k,b⟩:=bZ b;refine bD (tl [0]) (fun(z:Nat)=>[(3,vi z)]) (fun z=>H) (fun z=>a0.l.length-z) (fun z=>Option.bind (mi  (a0.l.drop z) ) j=some r) 0 b wA ?_;rintro f b O s;refine ar fun P t=>Y3 ?_;refine aT Z6.c a0 fun Q=>Y2 ?_;refine ah.bL (fun l=>Option.bind (mi  l ) j=some r) b rfl (fun R g u b=>?_) (fun u b=>?_)
  ·rw [mi] at b;refine sk t (ar fun U v=>Y4 ?_);obtain⟨W,w,b⟩:=vO g b;refine S (ix Z6.c f w) (Y2 ?_);obtain⟨X,y,b⟩:=vO rfl b;refine Sc rfl rfl (mb y) (Y4 ?_);obtain⟨Y,B,b⟩:=ej (fun _=>g) b;refine e9 26 27 rfl rfl (fun hC=>ix Z6.c f (B hC)) ?_;refine Gk 28 ?_;refine Gk 29 ?_;obtain⟨Z,C,b⟩:=e8 rfl b
   refine dQ 30 rfl rfl rfl rfl rfl (fun hC=>Mz (C hC)) ?_;refine Gk 31 ?_;refine Y4 ?_;obtain⟨aa,E,b⟩:=ej (fun _=>g) b;refine e9 35 36 rfl rfl (fun hC=>ix Z6.c f (E hC)) ?_;refine Gk 37 ?_;refine Gk 38 ?_;obtain⟨ab,F,b⟩:=e8 rfl b;refine dQ 39 rfl rfl rfl rfl rfl (fun hC=>My (F hC)) ?_;refine Gk 40 ?_;refine Y4 ?_;obtain⟨ad,G,b⟩:=ej (fun _=>g) b
   refine e9 44 45 rfl rfl (fun hC=>ix Z6.c f (G hC)) ?_;refine Gk 46 ?_;refine Gk 47 ?_;obtain⟨ae,I,b⟩:=e8 (Cs _) b;refine dQ 48 rfl rfl rfl rfl rfl (fun hC=>Cr (I hC)) ?_;refine Gk 49 ?_;refine Y2 ?_;refine cO b (fun J b=>?_) (fun J b=>?_)
   ·refine Y3 ?_;exact rs (ku k b:)
   refine sk v (Y5 ?_);exact s _ (f+1) wA b (dl g)
  rw [mi] at b;have b:=ku k b;refine ah.exit ?_;obtain⟨ag,K,b⟩:=bW b;exact q _ () wA (ku K b:)
 rintro _ b;refine Y3 ?_;exact rt b
def sG (g:Bool):List Z8->Option (Unit ⊕ Bool)
 | []=>some (Sum.inl ())
 | f::k=>on (f) fun m=>on (ff m.aa) fun b=>on (bif !(!b) then f else Z8.zero) fun p=>aY (!(!b)) (sF p.aM) false fun j=>on (bif (!((!b)||(!j))&&g) then f else Z8.zero) fun q=>bif (((!b)||(!j))||(g&&(decide ((0:Int)<((q.aM.l.length:Nat):Int))))) then(some (Sum.inr false)) else(sG g (k) )
def sI (a0:(Sl Z8)) (g:Bool):Option Bool:=bif ((decide (((a0.l.length:Nat):Int)<(1:Int)))||(decide ((64:Int)<((a0.l.length:Nat):Int)))) then(some false) else(Option.bind (sG g a0.l ) fun b=>match b with|Sum.inl _=>(on (()) fun _=>some true)|Sum.inr f=>(some f))
theorem MB {a0 j w0 r}(b:sI a0 j=some r) (H:af) :AC Tryz.prog 66 [.d (Sl.d 2 Z8.c w0 a0),.d (.bool j)] H (RT (.a (.d (.bool r))) H):=by
 unfold sI at b;refine AC.oW 48 [.tmp 4] Tryz.call66 Tryz.func66 ?_;refine Y3 ?_;refine ar fun K p=>Y2 ?_;refine aT Z8.c a0 fun L=>Y3 ?_;refine bG 10 rfl (fun hC=>dK Z8.c a0) ?_;refine Gk 11 ?_;refine Y2 ?_;refine cE b (fun q b=>?_) (fun q b=>?_)
 ·refine Y3 ?_;exact rt b
 refine sk p (aR kN (fun(z:Unit)=>[]) (fun z=>H) (fun z=>(some true)=some r) ?_ ?_)
 ·intro M s;refine Y4 ?_;obtain⟨k,m,b⟩:=bZ b;refine bD (tl [0,1]) (fun(z:Nat)=>[(5,vi z)]) (fun z=>H) (fun z=>a0.l.length-z) (fun z=>Option.bind (sG j (a0.l.drop z) ) k=some r) 0 b wA ?_;rintro f b N t;refine ar fun O u=>Y3 ?_;refine aT Z8.c a0 fun P=>Y2 ?_;refine ah.bL (fun l=>Option.bind (sG j l ) k=some r) b rfl (fun Q g v b=>?_) (fun v b=>?_)
  ·rw [sG] at b;refine sk u (ar fun R w=>Y4 ?_);obtain⟨U,y,b⟩:=vO g b;refine S (ix Z8.c f y) (Y2 ?_);obtain⟨W,B,b⟩:=vO rfl b;refine Sc rfl rfl (mb B) (Y4 ?_);obtain⟨X,C,b⟩:=ej (fun _=>g) b;refine e9 28 29 rfl rfl (fun hC=>ix Z8.c f (C hC)) ?_;refine Gk 30 ?_;refine Gk 31 ?_;obtain⟨Y,E,b⟩:=e8 (Cs _) b
   refine dQ 32 rfl rfl rfl rfl rfl (fun hC=>Cr (E hC)) ?_;refine Gk 33 ?_;refine Y3 ?_;refine Gk 37 ?_;refine Y2 ?_;obtain⟨F,G,b⟩:=ej (fun _=>g) b;refine e9 39 40 rfl rfl (fun hC=>ix Z8.c f (G hC)) ?_;refine Gk 41 ?_;refine Gk 42 ?_;refine bG 43 rfl (fun hC=>dK aD.c F.aM) ?_;refine Gk 44 ?_;refine bG 38 rfl (fun hC=>kr rfl rfl rfl) ?_;refine Y2 ?_
   refine cO b (fun I b=>?_) (fun I b=>?_)
   ·refine Y3 ?_;exact rs (ku m b:)
   refine sk w (Y5 ?_);exact t _ (f+1) wA b (dl g)
  rw [sG] at b;have b:=ku m b;refine ah.exit ?_;obtain⟨Z,J,b⟩:=bW b;exact s _ () wA (ku J b:)
 rintro _ b;refine Y3 ?_;exact rt b
def nC :List Bs->Unit ⊕ Bool
 | []=>Sum.inl ()
 | b::f=>on (b) fun g=>on (ff g) fun j=>bif (!j) then(Sum.inr false) else(nC  (f) )
def lq (a0:ag):Option Bool:=on (ff a0.aa) fun b=>aY (!(!b)) (sF a0.aM) false fun x5=>bif (((!b)||(!x5))||(decide ((64:Int)<((a0.aH.l.length:Nat):Int)))) then(some false) else(on (nC  a0.aH.l ) fun f=>match f with|Sum.inl _=>(on (()) fun _=>bif (decide (a0.ak=(1:Int))) then((oU a0.an).bind fun g=>some ((g&&(decide (((a0.au.l.length:Nat):Int)=(0:Int))))&&(decide (((a0.ay.l.length:Nat):Int)=(0:Int))))) else(bif (decide (a0.ak=(2:Int))) then(aY ((decide (((a0.aH.l.length:Nat):Int)=(0:Int)))) (oU a0.an) false fun j=>some ((((decide (((a0.aH.l.length:Nat):Int)=(0:Int)))&&j)&&(decide (((a0.au.l.length:Nat):Int)=(0:Int))))&&(decide (((a0.ay.l.length:Nat):Int)=(0:Int))))) else(bif (decide (a0.ak=(3:Int))) then(aY (((decide (((a0.aH.l.length:Nat):Int)=(0:Int)))&&(decide (((a0.an.l.length:Nat):Int)=(0:Int))))) (sI a0.au true) false fun k=>some ((((decide (((a0.aH.l.length:Nat):Int)=(0:Int)))&&(decide (((a0.an.l.length:Nat):Int)=(0:Int))))&&k)&&(decide (((a0.ay.l.length:Nat):Int)=(0:Int))))) else(bif (decide (a0.ak=(4:Int))) then(aY (((decide (((a0.aH.l.length:Nat):Int)=(0:Int)))&&(decide (((a0.an.l.length:Nat):Int)=(0:Int))))) (sI a0.au false) false fun m=>some ((((decide (((a0.aH.l.length:Nat):Int)=(0:Int)))&&(decide (((a0.an.l.length:Nat):Int)=(0:Int))))&&m)&&(decide (((a0.ay.l.length:Nat):Int)=(0:Int))))) else(bif (decide (a0.ak=(5:Int))) then(aY (((((decide (((a0.aH.l.length:Nat):Int)=(0:Int)))&&(decide (((a0.an.l.length:Nat):Int)=(0:Int))))&&(decide (((a0.au.l.length:Nat):Int)=(0:Int))))&&(decide ((0:Int)<((a0.ay.l.length:Nat):Int))))) (qv a0.ay) false fun p=>some (((((decide (((a0.aH.l.length:Nat):Int)=(0:Int)))&&(decide (((a0.an.l.length:Nat):Int)=(0:Int))))&&(decide (((a0.au.l.length:Nat):Int)=(0:Int))))&&(decide ((0:Int)<((a0.ay.l.length:Nat):Int))))&&p)) else(some false))))))|Sum.inr q=>(some q))
theorem VV {a0 r}(b:lq a0=some r) (H:af) :AC Tryz.prog 30 [.agg (ag.c a0)] H (RT (.a (.d (.bool r))) H):=by
 unfold lq at b;refine AC.oW 129 [.tmp 2] Tryz.call30 Tryz.func30 ?_;refine Y4 ?_;refine ar fun ad w=>Y3 ?_;obtain⟨ae,y,b⟩:=vT rfl b;refine Sc rfl rfl (mb y) (Y3 ?_);refine Gk 13 ?_;obtain⟨x5,B,b⟩:=eE (Cs _) b;refine dQ 14 rfl rfl rfl rfl rfl (fun hC=>Cr (B hC)) ?_;refine Gk 15 ?_;refine Y3 ?_;refine Gk 19 ?_;refine bG 20 rfl (fun hC=>dK aB a0.aH) ?_;refine Gk 21 ?_
 refine Y2 ?_;refine cE b (fun C b=>?_) (fun C b=>?_)
 ·refine Y3 ?_;exact rt b
 refine sk w ?_
 refine aR (tl [1]) (fun(z:Unit)=>[]) (fun z=>H) (fun z=>(bif (decide (a0.ak=(1:Int))) then((oU a0.an).bind fun g=>some ((g&&(decide (((a0.au.l.length:Nat):Int)=(0:Int))))&&(decide (((a0.ay.l.length:Nat):Int)=(0:Int))))) else(bif (decide (a0.ak=(2:Int))) then(aY ((decide (((a0.aH.l.length:Nat):Int)=(0:Int)))) (oU a0.an) false fun j=>some ((((decide (((a0.aH.l.length:Nat):Int)=(0:Int)))&&j)&&(decide (((a0.au.l.length:Nat):Int)=(0:Int))))&&(decide (((a0.ay.l.length:Nat):Int)=(0:Int))))) else(bif (decide (a0.ak=(3:Int))) then(aY (((decide (((a0.aH.l.length:Nat):Int)=(0:Int)))&&(decide (((a0.an.l.length:Nat):Int)=(0:Int))))) (sI a0.au true) false fun k=>some ((((decide (((a0.aH.l.length:Nat):Int)=(0:Int)))&&(decide (((a0.an.l.length:Nat):Int)=(0:Int))))&&k)&&(decide (((a0.ay.l.length:Nat):Int)=(0:Int))))) else(bif (decide (a0.ak=(4:Int))) then(aY (((decide (((a0.aH.l.length:Nat):Int)=(0:Int)))&&(decide (((a0.an.l.length:Nat):Int)=(0:Int))))) (sI a0.au false) false fun m=>some ((((decide (((a0.aH.l.length:Nat):Int)=(0:Int)))&&(decide (((a0.an.l.length:Nat):Int)=(0:Int))))&&m)&&(decide (((a0.ay.l.length:Nat):Int)=(0:Int))))) else(bif (decide (a0.ak=(5:Int))) then(aY (((((decide (((a0.aH.l.length:Nat):Int)=(0:Int)))&&(decide (((a0.an.l.length:Nat):Int)=(0:Int))))&&(decide (((a0.au.l.length:Nat):Int)=(0:Int))))&&(decide ((0:Int)<((a0.ay.l.length:Nat):Int))))) (qv a0.ay) false fun p=>some (((((decide (((a0.aH.l.length:Nat):Int)=(0:Int)))&&(decide (((a0.an.l.length:Nat):Int)=(0:Int))))&&(decide (((a0.au.l.length:Nat):Int)=(0:Int))))&&(decide ((0:Int)<((a0.ay.l.length:Nat):Int))))&&p)) else(some false))))))=some r) ?_ ?_
 ·intro ai E;refine Y4 ?_;obtain⟨q,t,b⟩:=bW b;refine bD (tl [1]) (fun(z:Nat)=>[(3,vi z)]) (fun z=>H) (fun z=>a0.aH.l.length-z) (fun z=>q (nC  (a0.aH.l.drop z) )=some r) 0 b wA ?_;rintro u b aj F;refine ar fun al G=>Y4 ?_;refine aT aB a0.aH fun am=>Y2 ?_
  refine ah.bL (fun l=>q (nC  l )=some r) b rfl (fun ao v I b=>?_) (fun I b=>?_)
  ·rw [nC] at b;refine sk G (ar fun ap J=>Y5 ?_);obtain⟨av,K,b⟩:=vP v b;refine S (ix aB u K) (Y1 ?_);obtain⟨aw,L,b⟩:=vP rfl b;refine Sc rfl rfl (mb L) (Y2 ?_);refine cP b (fun M b=>?_) (fun M b=>?_)
   ·refine Y3 ?_;exact rs (ku t b:)
   refine sk J (Y5 ?_);exact F _ (u+1) wA b (dl v)
  rw [nC] at b;have b:=ku t b;refine ah.exit ?_;obtain⟨ax,N,b⟩:=bW b;exact E _ () wA (ku N b:)
 rintro _ b;refine Y3 ?_;refine aN.s0 (rO (f:=aB) (s:=a0.aH) (TK rfl) rfl rfl rfl) rfl ?_;refine Y3 ?_;refine aN.s0 (rO (f:=Z6.c) (s:=a0.an) (TK rfl) rfl rfl rfl) rfl ?_;refine Y3 ?_;refine aN.s0 (rO (f:=Z8.c) (s:=a0.au) (TK rfl) rfl rfl rfl) rfl ?_;refine Y3 ?_;refine aN.s0 (rO (f:=Z7.c) (s:=a0.ay) (TK rfl) rfl rfl rfl) rfl ?_;refine Y6 ?_;refine ar fun az O=>Y9 ?_
 refine cE b (fun P b=>?_) (fun P b=>?_)
 ·refine Y3 ?_;obtain⟨g,Q,b⟩:=qT rfl b;refine Sc rfl rfl (MA Q) (Y8 ?_);exact rt b
 refine Y4 ?_;refine cE b (fun R b=>?_) (fun R b=>?_)
 ·refine Y4 ?_;refine Gk 71 ?_;obtain⟨j,U,b⟩:=eE rfl b;refine dQ 72 rfl rfl rfl rfl rfl (fun hC=>MA (U hC)) ?_;refine Y9 ?_;exact rt b
 refine Y4 ?_;refine cE b (fun W b=>?_) (fun W b=>?_)
 ·refine Y7 ?_;refine Gk 88 ?_;obtain⟨k,X,b⟩:=eE rfl b;refine dQ 89 rfl rfl rfl rfl rfl (fun hC=>MB (X hC)) ?_;refine Y6 ?_;exact rt b
 refine Y4 ?_;refine cE b (fun Y b=>?_) (fun Y b=>?_)
 ·refine Y7 ?_;refine Gk 102 ?_;obtain⟨m,Z,b⟩:=eE rfl b;refine dQ 103 rfl rfl rfl rfl rfl (fun hC=>MB (Z hC)) ?_;refine Y6 ?_;exact rt b
 refine Y4 ?_;refine cE b (fun aa b=>?_) (fun aa b=>?_)
 ·refine oI ?_;refine Gk 119 ?_;refine bG 120 rfl (fun hC=>dK Z7.c a0.ay) ?_;refine Gk 121 ?_;refine Y3 ?_;refine Gk 125 ?_;obtain⟨p,ab,b⟩:=eE rfl b;refine dQ 126 rfl rfl rfl rfl rfl (fun hC=>Mz (ab hC)) ?_;refine Y3 ?_;exact rt b
 refine sk O (Y3 ?_);exact rt b
def nA :List ag->Option (Unit ⊕ Bool)
 | []=>some (Sum.inl ())
 | b::f=>on (b) fun g=>(lq g).bind fun j=>bif (!j) then(some (Sum.inr false)) else(nA  (f) )
def sJ (a0:ai):Option Bool:=bif ((decide (((a0.aj.l.length:Nat):Int)<(1:Int)))||(decide ((64:Int)<((a0.aj.l.length:Nat):Int)))) then(some false) else(Option.bind (nA  a0.aj.l ) fun b=>match b with|Sum.inl _=>(on (()) fun _=>some true)|Sum.inr f=>(some f))
theorem VW {a0 r}(b:sJ a0=some r) (H:af) :AC Tryz.prog 15 [.agg (ai.c a0)] H (RT (.a (.d (.bool r))) H):=by
 unfold sJ at b;refine AC.oW 28 [.tmp 2] Tryz.call15 Tryz.func15 ?_;refine Y4 ?_;refine ar fun E m=>Y3 ?_;refine aT ag.c a0.aj fun F=>Y3 ?_;refine Gk 9 ?_;refine bG 10 rfl (fun hC=>dK ag.c a0.aj) ?_;refine Gk 11 ?_;refine Y2 ?_;refine cE b (fun p b=>?_) (fun p b=>?_)
 ·refine Y3 ?_;exact rt b
 refine sk m (aR kN (fun(z:Unit)=>[]) (fun z=>H) (fun z=>(some true)=some r) ?_ ?_)
 ·intro G q;refine Y4 ?_;obtain⟨f,g,b⟩:=bZ b;refine bD (tl [1]) (fun(z:Nat)=>[(3,vi z)]) (fun z=>H) (fun z=>a0.aj.l.length-z) (fun z=>Option.bind (nA  (a0.aj.l.drop z) ) f=some r) 0 b wA ?_;rintro j b I s;refine ar fun J t=>Y4 ?_;refine aT ag.c a0.aj fun K=>Y2 ?_
  refine ah.bL (fun l=>Option.bind (nA  l ) f=some r) b rfl (fun L k u b=>?_) (fun u b=>?_)
  ·rw [nA] at b;refine sk t (ar fun M v=>Y5 ?_);obtain⟨N,w,b⟩:=vO k b;refine S (ix ag.c j w) (Y1 ?_);obtain⟨O,y,b⟩:=qO rfl b;refine Sc rfl rfl (VV y) (Y2 ?_);refine cO b (fun B b=>?_) (fun B b=>?_)
   ·refine Y3 ?_;exact rs (ku g b:)
   refine sk v (Y5 ?_);exact s _ (j+1) wA b (dl k)
  rw [nA] at b;have b:=ku g b;refine ah.exit ?_;obtain⟨P,C,b⟩:=bW b;exact q _ () wA (ku C b:)
 rintro _ b;refine Y3 ?_;exact rt b
def yP (a0:ai):Option Bool:=(zj a0).bind fun x3=>aY ((!x3)) (sJ a0) false fun b=>aY (((!x3)&&b)) (wQ a0) (Sl.nil:Sl Z5) fun x5=>some (((!x3)&&b)&&(decide (((x5.l.length:Nat):Int)=(0:Int))))
theorem QV {a0 r}(b:yP a0=some r) (H:af) :AC Tryz.prog 5 [.agg (ai.c a0)] H (RT (.a (.d (.bool r))) H):=by
 unfold yP at b;refine AC.oW 16 [.tmp 2] Tryz.call5 Tryz.func5 ?_;refine Y6 ?_;obtain⟨x3,f,b⟩:=qT rfl b;refine Sc rfl rfl (VE f) (Y3 ?_);obtain⟨k,g,b⟩:=eE rfl b;refine dQ 7 rfl rfl rfl rfl rfl (fun hC=>VW (g hC)) ?_;refine Y3 ?_;obtain⟨x5,j,b⟩:=eE rfl b;refine dQ 11 rfl rfl rfl rfl rfl (fun hC=>Mq (j hC)) ?_;refine bG 12 rfl (fun hC=>dK Z5.c x5) ?_;refine Gk 13 ?_
 refine Y3 ?_;exact rt b
def jZ (f:Bs):List Bs->Nat->Unit ⊕ Int
 | [],b=>Sum.inl ()
 | g::j,b=>on (g) fun k=>bif ((f==k)) then(Sum.inr ((b:Nat):Int)) else(jZ f (j) (b+1) )
def nJ (a0:(Sl Bs)) (g:Bs):Int:=on (jZ g a0.l 0 ) fun b=>match b with|Sum.inl _=>(on (()) fun _=>(-1:Int))|Sum.inr f=>(f)
theorem MC {a0 f w0 r}(b:some (nJ a0 f)=some r) (H:af) :AC Tryz.prog 68 [.d (Sl.d 1 aB w0 a0),.d (.str f)] H (RT (.a (.d (.int .i64 r))) H):=by
 unfold nJ at b;refine AC.oW 19 [.tmp 4] Tryz.call68 Tryz.func68 ?_;refine Y3 ?_;refine aR kN (fun(z:Unit)=>[]) (fun z=>H) (fun z=>some ((-1:Int))=some r) ?_ ?_
 ·intro B p;refine Y2 ?_;refine aT aB a0 fun C=>Y3 ?_;obtain⟨j,k,b⟩:=dX b;refine bD (tl [0,1,7]) (fun(z:Nat)=>[(8,vi z)]) (fun z=>H) (fun z=>a0.l.length-z) (fun z=>j (jZ f (a0.l.drop z) z )=some r) 0 b wA ?_;rintro g b E q;refine Y3 ?_;refine ar fun F s=>?_;refine ah.bL (fun l=>j (jZ f l g )=some r) b rfl (fun G m t b=>?_) (fun t b=>?_)
  ·rw [jZ] at b;refine sk s (ar fun I u=>Y9 ?_);obtain⟨J,v,b⟩:=vP m b;refine S (ix aB g v) (Y3 ?_);refine cP b (fun w b=>?_) (fun w b=>?_)
   ·refine Y4 ?_;exact rs (ku k b:)
   refine sk u (Y4 ?_);exact q _ (g+1) wA b (dl m)
  rw [jZ] at b;have b:=ku k b;refine ah.exit ?_;obtain⟨K,y,b⟩:=dX b;exact p _ () wA (ku y b:)
 rintro _ b;refine Y3 ?_;exact rt b
def lE (a0:(Sl Bs)) (b:Bs):Bool:=on (nJ a0 b) fun x3=>(decide ((0:Int)<=x3))
theorem xm {a0 f w0 r}(b:some (lE a0 f)=some r) (H:af) :AC Tryz.prog 33 [.d (Sl.d 1 aB w0 a0),.d (.str f)] H (RT (.a (.d (.bool r))) H):=by
 unfold lE at b;refine AC.oW 9 [.tmp 4] Tryz.call33 Tryz.func33 ?_;refine Y6 ?_;obtain⟨x3,g,b⟩:=vP rfl b;refine Sc rfl rfl (MC g) (Y3 ?_);exact rt b
def tw (f:Bs):List bU->Unit ⊕ ((Z9×Bool))
 | []=>Sum.inl ()
 | g::j=>on (g) fun b=>bif ((b.aa==f)) then(Sum.inr (b.ir,true)) else(tw f (j) )
def tA (a0:aD) (g:Bs):(Z9×Bool):=on (tw g a0.az.l ) fun b=>match b with|Sum.inl _=>(on (()) fun _=>((Z9.mk 0 0 [] true [] Sl.nil),false))|Sum.inr f=>(f)
theorem VX {a0 f r}(b:some (tA a0 f)=some r) (H:af) :AC Tryz.prog 70 [.agg (aD.c a0),.d (.str f)] H (RT (.cI [.agg (Z9.c r.1),.d (.bool r.2)]) H):=by
 unfold tA at b;refine AC.oW 23 [.cell 4 72,.tmp 5] Tryz.call70 Tryz.func70 ?_;refine Y5 ?_;refine cT (tl [4]) (fun(z:Z9)=>[]) (fun z=>[Z9.c z]) (fun z=>H) (fun z=>some (((Z9.mk 0 0 [] true [] Sl.nil),false))=some r) ?_ ?_
 ·intro C q;refine Y3 ?_;refine aT bU.c a0.az fun E=>Y3 ?_;obtain⟨g,j,b⟩:=dX b;refine eZ (tl [1,4,9,10]) (fun(z:Nat×Z9)=>[(11,vi z.1)]) (fun z=>[Z9.c z.2]) (fun z=>H) (fun z=>a0.az.l.length-z.1) (fun z=>g (tw f (a0.az.l.drop z.1) )=some r) (0,Z9.zero) b wA ?_;rintro ⟨k,m⟩ b F s;refine Y3 ?_;refine ar fun G t=>?_
  refine ah.bL (fun l=>g (tw f l )=some r) b rfl (fun I p u b=>?_) (fun u b=>?_)
  ·rw [tw] at b;refine sk t (ar fun J v=>Y2 ?_);obtain⟨K,w,b⟩:=vP p b;refine S (ix bU.c k w) (Y4 ?_);refine bx 7 _ rfl (kl [1,4,9,10,11]) ?_;refine Y6 ?_;refine cP b (fun y b=>?_) (fun y b=>?_)
   ·refine Y6 ?_;exact rs (ku j b:)
   refine sk v (Y4 ?_);exact s _ ((k+1),m) wA b (dl p)
  rw [tw] at b;have b:=ku j b;refine ah.exit ?_;obtain⟨L,B,b⟩:=dX b;exact q _ m wA (ku B b:)
 rintro M b;refine Y5 ?_;exact rt b
def oc (j:Bs) (k:Bs):List aD->(Sl Z9)->Option ((Sl Z9))
 | [],b=>some b
 | l::m,b=>on (l) fun f=>on (tA f k) fun g=>Option.bind (bif (g.2&&((f.aa==j))) then((bf 80 b (⟨false,[g.1]⟩:Sl Z9)).bind fun p=>some p) else(some b)) fun q=>oc j k (m) q
def wR (a0:(Sl aD)) (g:Bs) (j:Bs):Option (Sl Z9):=Option.bind (oc g j a0.l (Sl.nil:Sl Z9)) fun b=>on (b) fun f=>some f
theorem VY {a0 g j w0 r}(b:wR a0 g j=some r) (H:af) :AC Tryz.prog 36 [.d (Sl.d 2 aD.c w0 a0),.d (.str g),.d (.str j)] H (RT (.a (.d (Sl.d 5 Z9.c none r))) H):=by
 unfold wR at b;refine AC.oW 37 [.tmp 6] Tryz.call36 Tryz.func36 ?_;refine ah.tok 5 fun f L=>?_;refine Y1 ?_;refine s0 (di (k':=5) rfl) rfl ?_;refine Y4 ?_;refine ah.fK 7 5 f rfl aA ?_;refine aR kN (fun(z:(Sl Z9))=>[(7,.a (.d (Sl.d 5 Z9.c (some f) z)))]) (fun z=>(tS H f 5 z)) (fun z=>(some z)=some r) ?_ ?_
 ·intro M u;refine Y2 ?_;refine aT aD.c a0 fun N=>Y3 ?_;obtain⟨k,v,b⟩:=bZ b;refine bD (tl [1,2,12,13]) (fun(z:(Sl Z9)×Nat)=>[(7,.a (.d (Sl.d 5 Z9.c (some f) z.1))),(14,vi z.2)]) (fun z=>(tS H f 5 z.1)) (fun z=>a0.l.length-z.2) (fun z=>Option.bind (oc g j (a0.l.drop z.2) z.1) k=some r) ((Sl.nil:Sl Z9),0) b wA ?_;rintro ⟨m,p⟩ b O w;refine Y3 ?_;refine ar fun P y=>?_
  refine ah.bL (fun l=>Option.bind (oc g j l m) k=some r) b rfl (fun Q q B b=>?_) (fun B b=>?_)
  ·rw [oc] at b;refine sk y (aR (tl [1,2,12,13,14]) (fun(z:(Sl Z9))=>[(7,.a (.d (Sl.d 5 Z9.c (some f) z)))]) (fun z=>(tS H f 5 z)) (fun z=>Option.bind (oc g j (a0.l.drop (p+1)) z) k=some r) ?_ ?_)
   ·intro R s;refine Y2 ?_;obtain⟨U,C,b⟩:=vO q b;refine S (ix aD.c p C) (Y4 ?_);refine bx 9 _ rfl (kl [1,2,7,12,13,14]) ?_;refine Y3 ?_;obtain⟨W,E,b⟩:=vO rfl b;refine Sc rfl rfl (VX E) (Y7 ?_);refine bx 10 _ rfl (kl [1,2,7,9,11,12,13,14]) ?_;refine Y4 ?_;refine Gk 26 ?_;refine Y1 ?_;refine G2 27 28 rfl rfl BS ?_;refine Y2 ?_;obtain⟨X,t,b⟩:=cM b
    refine cO b (fun F b=>?_) (fun F b=>?_)
    ·refine Y4 ?_;obtain⟨G,I,b⟩:=qO rfl b;refine SH (am Z9.c (TK rfl) rfl (TK rfl) (TK rfl) I) ?_;refine Y2 ?_;exact s _ G wA (ku t b:)
    refine ah.skip ?_;exact s _ m wA (ku t b:)
   rintro J b;refine Y4 ?_;exact w _ (J,(p+1)) wA b (dl q)
  rw [oc] at b;have b:=ku v b;refine ah.exit ?_;obtain⟨Y,K,b⟩:=bW b;exact u _ m wA (ku K b:)
 rintro Z b;refine Y4 ?_;refine ah.dV 6 rfl ?_;refine ry ?_;obtain rfl:=oJ b;refine bH.b9 H rfl ⟨rfl,rfl⟩ ?_;exact sy
def qY :List Z9->(Sl Bs)->Option ((Sl Bs))
 | [],b=>some b
 | g::j,b=>on (g) fun f=>on (bif (decide (f.ak=(3:Int))) then lE b f.br else false) fun k=>Option.bind (bif ((decide (f.ak=(3:Int)))&&(!k)) then((bf 16 b (⟨false,[f.br]⟩:Sl Bs)).bind fun l=>some l) else(some b)) fun m=>qY  (j) m
def j8 (a0:(Sl aD)):Option (Sl Bs):=(wR a0 ([116,97,103]:Bs) ([110,97,109,101]:Bs)).bind fun x7=>Option.bind (qY  x7.l (Sl.nil:Sl Bs)) fun b=>on (b) fun f=>some f
theorem vc {a0 w0 r}(b:j8 a0=some r) (H:af) :AC Tryz.prog 19 [.d (Sl.d 2 aD.c w0 a0)] H (RT (.a (.d (Sl.d 1 aB none r))) H):=by
 unfold j8 at b;refine AC.oW 30 [.tmp 2] Tryz.call19 Tryz.func19 ?_;refine ah.tok 1 fun f K=>?_;refine Y1 ?_;refine s0 (di (k':=1) rfl) rfl ?_;refine Y4 ?_;refine ah.fK 3 1 f rfl aA ?_;refine aR kN (fun(z:(Sl Bs))=>[(3,.a (.d (Sl.d 1 aB (some f) z)))]) (fun z=>(tS H f 1 z)) (fun z=>(some z)=some r) ?_ ?_
 ·intro L s;refine Y2 ?_;obtain⟨x7,t,b⟩:=qT rfl b;refine Sc rfl rfl (VY t) (aT Z9.c x7 fun M=>Y3 ?_);obtain⟨g,u,b⟩:=bZ b;refine bD (tl [7,8]) (fun(z:(Sl Bs)×Nat)=>[(3,.a (.d (Sl.d 1 aB (some f) z.1))),(9,vi z.2)]) (fun z=>(tS H f 1 z.1)) (fun z=>x7.l.length-z.2) (fun z=>Option.bind (qY  (x7.l.drop z.2) z.1) g=some r) ((Sl.nil:Sl Bs),0) b wA ?_;rintro ⟨j,k⟩ b N v
  refine Y3 ?_;refine ar fun O w=>?_;refine ah.bL (fun l=>Option.bind (qY  l j) g=some r) b rfl (fun P m y b=>?_) (fun y b=>?_)
  ·rw [qY] at b;refine sk w (aR (tl [7,8,9]) (fun(z:(Sl Bs))=>[(3,.a (.d (Sl.d 1 aB (some f) z)))]) (fun z=>(tS H f 1 z)) (fun z=>Option.bind (qY  (x7.l.drop (k+1)) z) g=some r) ?_ ?_)
   ·intro Q p;refine Y2 ?_;obtain⟨R,B,b⟩:=vO m b;refine S (ix Z9.c k B) (Y4 ?_);refine bx 5 _ rfl (kl [3,7,8,9]) ?_;refine Y7 ?_;refine Gk 18 ?_;obtain⟨U,C,b⟩:=ej (fun _=>rfl) b;refine fE 17 19 rfl rfl rfl rfl rfl rfl (fun hC=>xm (C hC)) ?_;refine Gk 20 ?_;refine Y2 ?_;obtain⟨W,q,b⟩:=cM b;refine cO b (fun E b=>?_) (fun E b=>?_)
    ·refine Y5 ?_;obtain⟨F,G,b⟩:=qO rfl b;refine SH (am aB (TK rfl) rfl (TK rfl) (TK rfl) G) ?_;refine Y2 ?_;exact p _ F wA (ku q b:)
    refine ah.skip ?_;exact p _ j wA (ku q b:)
   rintro I b;refine Y4 ?_;exact v _ (I,(k+1)) wA b (dl m)
  rw [qY] at b;have b:=ku u b;refine ah.exit ?_;obtain⟨X,J,b⟩:=bW b;exact s _ j wA (ku J b:)
 rintro Y b;refine Y4 ?_;refine ah.dV 2 rfl ?_;refine ry ?_;obtain rfl:=oJ b;refine bH.b9 H rfl ⟨rfl,rfl⟩ ?_;exact sy
def xo  :Option Int:=some (-1:Int)
def xq (a0:(Sl Bs)) (f:(Bs->Option Bool)) :Nat->Nat->Option Int
 | 0,_=>none
 | g+1,b=>bif (decide (((b:Nat):Int)<((a0.l.length:Nat):Int))) then((a0.l[b]?).bind fun j=>(f j).bind fun k=>bif k then(some ((b:Nat):Int)) else((xq a0 f g) (b+1))) else(xo   )
def xu (a0:(Sl Bs)) (b:(Bs->Option Bool)):Option Int:=xq a0 b (a0.l.length+1) 0
theorem MD {a0 g w0 j r}(b:xu a0 g=some r) (H:af) (p:∀k r,g k=some r->gL Tryz.prog j [.d (.str k)] H fun v h'=>v=.a (.d (.bool r))/\h'=H):AC Tryz.prog 69 [.d (Sl.d 1 aB w0 a0),.d j] H (RT (.a (.d (.int .i64 r))) H):=by
 unfold xu at b;refine AC.oW 19 [.tmp 4] Tryz.call69 Tryz.func69 ?_;refine Y3 ?_;refine aR kN (fun(z:Unit)=>[]) (fun z=>H) (fun z=>xo =some r) ?_ ?_
 ·intro E q;refine Y2 ?_;refine aT aB a0 fun F=>Y3 ?_;refine bD (tl [0,1,7]) (fun(z:Nat×Nat)=>[(8,vi z.2)]) (fun z=>H) (fun z=>z.1) (fun z=>xq a0 g z.1 z.2=some r) ((a0.l.length+1),0) b wA ?_;rintro ⟨f,m⟩ b G s;cases f with
  | zero=>cases b
  | succ f =>
    rw [xq] at b;refine Y3 ?_;refine ar fun I t=>?_;refine cE b (fun u b=>?_) (fun u b=>?_)
    ·refine sk t (ar fun J w=>Y9 ?_);obtain⟨K,y,b⟩:=bO b;refine S (ix aB m y) (Y1 ?_);obtain⟨L,B,b⟩:=bO b;refine s0 (lZ rfl rfl (p _ _ B)) rfl ?_;refine Y1 ?_;refine cE b (fun C b=>?_) (fun C b=>?_)
     ·refine Y4 ?_;exact rt b
     refine sk w (Y4 ?_);exact s _ (f,(m+1)) wA b (nS _)
    refine ah.exit ?_;exact q _ () wA b
 rintro _ b;unfold xo at b;refine Y3 ?_;exact rt b
def tE (f:(Bs->Bool)):List Bs->Nat->Unit ⊕ Int
 | [],b=>Sum.inl ()
 | g::j,b=>on (g) fun k=>on (f k) fun l=>bif l then(Sum.inr ((b:Nat):Int)) else(tE f (j) (b+1) )
theorem VZ {a0:Sl Bs}{k:Bs->Bool}(g:(Unit ⊕ Int)->Option Int) (m:∀(f:Nat) (b:Nat),xo   =g (Sum.inl ())) (p:∀e:Int,some e=g (Sum.inr e)):∀(f:Nat) (b:Nat),(0<f/\a0.l.length<b+f)->xq a0 (fun q=>some (k q)) f b=g (tE k (a0.l.drop b) b ):=by
 intro f;induction f with
 | zero=>intro b hn; exact absurd hn.1 (by omega)
 | succ f r =>
  intro b hn;rw [xq];by_cases bl:b<a0.l.length
  ·obtain⟨s,j⟩:=Qa bl;rw [Q.nr j,tE];refine QT bl ?_;refine Q.vM j fun t u=>?_;refine Q.vM rfl fun v w=>?_;refine Q.AM ?_ ?_
   ·all_goals exact p _
   all_goals exact r _ ⟨by omega,by omega⟩
  rw [dL (by omega),tE];refine QF bl ?_;exact m f b
def B5 (a0:(Sl Bs)) (g:(Bs->Bool)):Int:=on (tE g a0.l 0 ) fun b=>match b with|Sum.inl _=>(on (()) fun _=>(-1:Int))|Sum.inr f=>(f)
theorem V0 (a0:(Sl Bs)) (a1:(Bs->Bool)):xu a0 (fun f=>some (a1 f))=some (B5 a0 a1):=by
 unfold xu B5;refine Q.AP fun g b=>?_;refine VZ  g ?_ ?_ _ _ ⟨Nat.succ_pos _,by omega⟩
 ·intro m p;refine Qe (b _) ?_;try dsimp only
  refine Q.AP fun j k=>?_;have l:xo  =j ():=by
   refine Qe (k _) ?_;unfold xo;all_goals rfl
  all_goals exact l
 intro q;refine Qe (b _) ?_;try dsimp only
 all_goals rfl
def zK (a0:(Sl Bs)) (b:(Bs->Option Bool)):Option Bool:=(xu a0 b).bind fun x3=>some (decide ((0:Int)<=x3))
theorem V1 {a0 j w0 f r}(b:zK a0 j=some r) (H:af) (k:∀g r,j g=some r->gL Tryz.prog f [.d (.str g)] H fun v h'=>v=.a (.d (.bool r))/\h'=H):AC Tryz.prog 34 [.d (Sl.d 1 aB w0 a0),.d f] H (RT (.a (.d (.bool r))) H):=by
 unfold zK at b;refine AC.oW 9 [.tmp 4] Tryz.call34 Tryz.func34 ?_;refine Y6 ?_;obtain⟨x3,l,b⟩:=bO b;refine s0 (eY rfl rfl (MD l _ k)) rfl ?_;refine Y3 ?_;exact rt b
def zu (a0:(Sl Bs)) (b:(Bs->Bool)):Bool:=on (B5 a0 b) fun x3=>(decide ((0:Int)<=x3))
theorem V2 (a0:(Sl Bs)) (a1:(Bs->Bool)):zK a0 (fun b=>some (a1 b))=some (zu a0 a1):=by
 unfold zK zu;refine Q.vM (V0 _ _) fun x3 f=>?_;all_goals rfl
def zw (a0:Bs) (b:(Sl Bs)):Bool:=on (lE b a0) fun x3=>x3
def Ct (a0:Bs) (b:(Sl Bs)):Option Bool:=some (zw a0 b)
theorem V3 (a0:Bs) (a1:(Sl Bs)):Ct a0 a1=some (zw a0 a1):=rfl
theorem V4 {a0 f r}(b:Ct a0 f=some r) (H:af) :AC Tryz.prog 35 [.d (.str a0),.d (.view ((fun s=>[Sl.d 1 aB none s]) f))] H (RT (.a (.d (.bool r))) H):=by
 unfold Ct zw at b;refine AC.oW 7 [.tmp 3] Tryz.call35 Tryz.func35 ?_;refine Y6 ?_;obtain⟨x3,g,b⟩:=vP rfl b;refine Sc rfl rfl (xm g) (Y2 ?_);exact rt b
def tF (a0:(Sl Bs)) (f:(Sl Bs)):Bool:=on (zu a0 (fun b=>zw b f)) fun x3=>x3
theorem FG {a0 f w0 g r}(b:some (tF a0 f)=some r) (H:af) :AC Tryz.prog 18 [.d (Sl.d 1 aB w0 a0),.d (Sl.d 1 aB g f)] H (RT (.a (.d (.bool r))) H):=by
 unfold tF at b;refine AC.oW 8 [.tmp 4] Tryz.call18 Tryz.func18 ?_;refine Y1 ?_;refine aJ.dV 1 rfl ?_;refine Y5 ?_;refine s0 (makeFunc rfl) rfl ?_;obtain⟨x3,j,b⟩:=vP (o:=zK a0 (fun k=>Ct k f)) (by simp only [V3,V2]) b;refine s0 (jQ rfl rfl (fun H=>V1 j H (fun _ _ hx=>V4 hx _))) rfl ?_;refine Y2 ?_;exact rt b
def qC (a0:(Sl Bs)):Option (Sl Bs):=bif a0.nl then(some (Sl.nil:Sl Bs)) else((bf 16 (⟨false,[]⟩:Sl Bs) a0).bind fun x7=>some x7)
def Cu (a0:(Sl Bs)):Option (Sl Bs):=qC a0
theorem ME {a0 w0 r}(b:Cu a0=some r) (H:af) :AC Tryz.prog 37 [.d (Sl.d 1 aB w0 a0)] H (RT (.a (.d (Sl.d 1 aB none r))) H):=by
 unfold Cu qC at b;refine AC.oW 8 [.tmp 2] Tryz.call37 Tryz.func37 ?_;refine Y1 ?_;refine s0 (di (k':=1) rfl) rfl ?_;refine Y1 ?_;refine ar fun l g=>Y2 ?_;refine s0 (Dk (TK rfl) rfl rfl) rfl ?_;refine Y1 ?_;refine cE b (fun j b=>?_) (fun j b=>?_)
 ·refine Y1 ?_;refine s0 (di (k':=1) rfl) rfl ?_;refine Y1 ?_;exact rt b
 refine sk g (Y1 ?_);refine s0 (uf (TK rfl) rfl (TK rfl) rfl rfl rfl rfl rfl rfl) rfl ?_;refine Y1 ?_;obtain⟨x7,k,b⟩:=qT rfl b;refine s0 (yg (f:=aB) (TK rfl) rfl (TK rfl) (TK rfl) ⟨_,rfl⟩ rfl rfl (by decide) rfl rfl rfl (by intro q h; cases h<;>decide) rfl rfl k) rfl ?_;refine Y2 ?_;exact rt b
theorem V5 {a0:Sl Bs}{w0:Option Nat}{b:Nat}{r:Sl Bs}(g:Cu a0=some r) (H:af) (p:H b=some (.arr 1 [])) :AC Tryz.prog 37 [.d (Sl.d 1 aB w0 a0)] H fun v h'=>v=.a (.d (.arr 1 b r.nl r.l.length))/\h'=H.set b (some (.arr 1 (r.l.map aB))):=by
 unfold Cu qC at g;refine AC.oW 8 [.tmp 2] Tryz.call37 Tryz.func37 ?_;refine hz (H.set b (some (.arr 1 []))) (Y1 ?_);refine s0 (di (k':=1) rfl) rfl ?_;refine aJ.AJ 2 1 b rfl aA ?_;refine Y1 ?_;refine ar fun q j=>Y2 ?_;refine s0 (Dk (TK rfl) rfl rfl) rfl ?_;refine Y1 ?_;refine cE g (fun k g=>?_) (fun k g=>?_)
 ·refine Y1 ?_;refine s0 (di (k':=1) rfl) rfl ?_;refine aJ.AJ 2 1 b rfl aA ?_;refine Y1 ?_;exact rt g
 refine sk j (Y1 ?_);refine s0 (uf (TK rfl) rfl (TK rfl) rfl rfl rfl rfl rfl rfl) rfl ?_;refine aJ.OW 5 1 b rfl aA ?_;refine Y1 ?_;obtain⟨x7,m,g⟩:=qT rfl g;refine sH (Ds (f:=aB) (s:=(⟨false,[]⟩:Sl Bs)) (TK rfl) rfl (TK rfl) (TK rfl) ⟨_,rfl⟩ rfl rfl rfl rfl rfl rfl aA (by first|rfl|simp [Sl.Hq,Sl.nil,HC]) rfl m) rfl ?_;refine hq (H.set b (some (.arr 1 (x7.l.map aB)))) (Y2 ?_)
 exact rt g
def nU (f:Z9->Option Z9):List Z9->(Sl Z9)->Option ((Sl Z9))
 | [],b=>some b
 | g::j,b=>on (g) fun k=>(f k).bind fun l=>(bf 80 b (⟨false,[l]⟩:Sl Z9)).bind fun m=>nU f (j) m
mutual
def kL:Nat->Z9->Option Z9
 | 0,_=>none
 | n+1,a0=>((wH n) a0.aG).bind fun x3=>(qC a0.aW).bind fun x5=>some (Z9.mk a0.ak a0.bz a0.br x3.nl x3.l x5)
def wH:Nat->(Sl Z9)->Option (Sl Z9)
 | 0,_=>none
 | n+1,a0=>Option.bind (nU (kL n) a0.l (Sl.nil:Sl Z9)) fun b=>on (b) fun f=>some f
end
def Cv (n:Nat):Prop:=∀{a0:Z9}   {r:Z9},kL n a0=some r->∀(H:af),AC Tryz.prog 71 [.agg (Z9.c a0)] H fun v h'=>v=.a (.agg (Z9.c r))/\h'=H
def Cw (n:Nat):Prop:=∀{a0:(Sl Z9)}{w0:Option Nat}  {r:(Sl Z9)},wH n a0=some r->∀(H:af),AC Tryz.prog 114 [.d (Sl.d 5 Z9.c w0 a0)] H fun v h'=>v=.a (.d (Sl.d 5 Z9.c none r))/\h'=H
theorem V6 (n:Nat) (m:Cv (av:=av) n) (f:Cw (av:=av) n):Cv (av:=av) (n+1):=by
 intro a0   r b H;rw [kL] at b;refine AC.oW 12 [.cell 2 72] Tryz.call71 Tryz.func71 ?_;refine Y1 ?_;refine sL (vz rfl (by repeat (first|exact ee.nil|apply ee.cons))) rfl ?_;refine Y4 ?_;refine aJ.cq 0 (Z9.cu a0) rfl (fun j w cs hh hx=>by rw [<- Z9.l8]; exact hx) ?_;refine Y1 ?_;obtain⟨x3,g,b⟩:=qT rfl b;refine Sc rfl rfl (f g) (Y2 ?_)
 refine aJ.cq 0 (Z9.c (Z9.mk a0.ak a0.bz a0.br x3.nl x3.l a0.aW)) rfl (fun j w cs hh hx=>by rw [Z9.l8]; exact hx) ?_;refine Y4 ?_;obtain⟨x5,k,b⟩:=qT rfl b;refine Sc rfl rfl (ME k) (Y1 ?_);refine aJ.cq 0 (Z9.cu (Z9.mk a0.ak a0.bz a0.br x3.nl x3.l a0.aW)) rfl (fun j w cs hh hx=>by rw [<- Z9.l8]; exact hx) ?_;refine Y1 ?_
 refine aJ.cq 0 (Z9.c (Z9.mk a0.ak a0.bz a0.br x3.nl x3.l x5)) rfl (fun j w cs hh hx=>by rw [Z9.l8]; exact hx) ?_;refine Y5 ?_;exact rt b
theorem V7 (n:Nat) (p:Cv (av:=av) n) (G:Cw (av:=av) n):Cw (av:=av) (n+1):=by
 intro a0 w0  r b H;rw [wH] at b;refine AC.oW 19 [.tmp 2] Tryz.call114 Tryz.func114 ?_;refine ah.tok 5 fun f I=>?_;refine Y1 ?_;refine s0 (di (k':=5) rfl) rfl ?_;refine Y4 ?_;refine ah.fK 3 5 f rfl aA ?_;refine aR kN (fun(z:(Sl Z9))=>[(3,.a (.d (Sl.d 5 Z9.c (some f) z)))]) (fun z=>(tS H f 5 z)) (fun z=>(some z)=some r) ?_ ?_
 ·intro J q;refine Y2 ?_;refine aT Z9.c a0 fun K=>Y3 ?_;obtain⟨g,s,b⟩:=bZ b;refine bD (tl [6,7]) (fun(z:(Sl Z9)×Nat)=>[(3,.a (.d (Sl.d 5 Z9.c (some f) z.1))),(8,vi z.2)]) (fun z=>(tS H f 5 z.1)) (fun z=>a0.l.length-z.2) (fun z=>Option.bind (nU (kL n) (a0.l.drop z.2) z.1) g=some r) ((Sl.nil:Sl Z9),0) b wA ?_;rintro ⟨j,k⟩ b L t;refine Y3 ?_;refine ar fun M u=>?_
  refine ah.bL (fun l=>Option.bind (nU (kL n) l j) g=some r) b rfl (fun N m v b=>?_) (fun v b=>?_)
  ·rw [nU] at b;refine sk u (ar fun O w=>Y2 ?_);obtain⟨P,y,b⟩:=vO m b;refine S (ix Z9.c k y) (Y4 ?_);refine bx 5 _ rfl (kl [3,6,7,8]) ?_;refine Y3 ?_;obtain⟨Q,B,b⟩:=qO rfl b;refine Sc rfl rfl (p B) (Y1 ?_);obtain⟨C,E,b⟩:=qO rfl b;refine SH (am Z9.c (TK rfl) rfl (TK rfl) (TK rfl) E) ?_;refine Y2 ?_;refine w _ ?_;refine Y4 ?_
   exact t _ (C,(k+1)) wA b (dl m)
  rw [nU] at b;have b:=ku s b;refine ah.exit ?_;obtain⟨R,F,b⟩:=bW b;exact q _ j wA (ku F b:)
 rintro U b;refine Y4 ?_;refine ah.dV 2 rfl ?_;refine ry ?_;obtain rfl:=oJ b;refine bH.b9 H rfl ⟨rfl,rfl⟩ ?_;exact sy
theorem zL:∀(n:Nat),(Cv (av:=av) n)/\(Cw (av:=av) n)
 | 0=>⟨fun b=>by first|cases b|(rw [kL] at b; cases b),fun b=>by first|cases b|(rw [wH] at b; cases b)⟩
 | n+1=>⟨V6 n (zL n).1 (zL n).2,V7 n (zL n).1 (zL n).2⟩
def V8 (a0:Z9):Option Z9:=kL F0 a0
theorem zM {a0 r}(b:V8 a0=some r) (H:af) :AC Tryz.prog 71 [.agg (Z9.c a0)] H fun v h'=>v=.a (.agg (Z9.c r))/\h'=H:=(zL F0).1 b H 
def qE (a0:Z9):Option Z9:=kL F0 a0
def qV :List bU->aD->Option (aD)
 | [],b=>some b
 | g::j,b=>on (g) fun f=>(qE f.ir).bind fun k=>(bf 96 b.az (⟨false,[(bU.mk f.aa k)]⟩:Sl bU)).bind fun l=>qV  (j) (aD.mk b.aa l)
def nZ :List aD->(Sl aD)->Option ((Sl aD))
 | [],b=>some b
 | g::j,b=>on (g) fun f=>Option.bind (qV  f.az.l (aD.mk f.aa Sl.nil)) fun k=>on (k) fun m=>(bf 40 b (⟨false,[m]⟩:Sl aD)).bind fun p=>on (p) fun q=>nZ  (j) q
def qW (a0:(Sl aD)):Option (Sl aD):=Option.bind (nZ  a0.l (Sl.nil:Sl aD)) fun b=>on (b) fun f=>some f
theorem tP {a0 w0 r}(b:qW a0=some r) (H:af) :AC Tryz.prog 38 [.d (Sl.d 2 aD.c w0 a0)] H (RT (.a (.d (Sl.d 2 aD.c none r))) H):=by
 unfold qW at b;refine AC.oW 43 [.tmp 2] Tryz.call38 Tryz.func38 ?_;refine ah.tok 2 fun g av=>?_;refine Y1 ?_;refine s0 (di (k':=2) rfl) rfl ?_;refine Y4 ?_;refine ah.fK 3 2 g rfl aA ?_;refine aR kN (fun(z:(Sl aD))=>[(3,.a (.d (Sl.d 2 aD.c (some g) z)))]) (fun z=>(tS H g 2 z)) (fun z=>(some z)=some r) ?_ ?_
 ·intro aw K;refine Y2 ?_;refine aT aD.c a0 fun ax=>Y3 ?_;obtain⟨p,L,b⟩:=bZ b;refine bD (tl [9,10]) (fun(z:(Sl aD)×Nat)=>[(3,.a (.d (Sl.d 2 aD.c (some g) z.1))),(11,vi z.2)]) (fun z=>(tS H g 2 z.1)) (fun z=>a0.l.length-z.2) (fun z=>Option.bind (nZ  (a0.l.drop z.2) z.1) p=some r) ((Sl.nil:Sl aD),0) b wA ?_;rintro ⟨m,q⟩ b ay M;refine Y3 ?_;refine ar fun aC N=>?_
  refine ah.bL (fun l=>Option.bind (nZ  l m) p=some r) b rfl (fun aE E O b=>?_) (fun O b=>?_)
  ·rw [nZ] at b;refine sk N (aR (tl [9,10,11]) (fun(z:(Sl aD))=>[(3,.a (.d (Sl.d 2 aD.c (some g) z)))]) (fun z=>(tS H g 2 z)) (fun z=>Option.bind (nZ  (a0.l.drop (q+1)) z) p=some r) ?_ ?_)
   ·intro aF P;refine Y2 ?_;obtain⟨s,Q,b⟩:=vO E b;refine S (ix aD.c q Q) (Y4 ?_);refine bx 5 _ rfl (kl [3,9,10,11]) ?_;refine Y5 ?_;refine aJ.tok 6 fun k v=>?_;obtain⟨R,v⟩:=af.dW v;refine aJ.cq 0 _ rfl (fun j w cs hh hx=>tok_cell 1 6 6 hh (t:=k) aA hx rfl) ?_;refine Y1 ?_
    refine aJ.cq 0 _ rfl (fun j w cs hh hx=>tok_cell 1 6 6 hh (t:=k) aA hx rfl) ?_;refine Y1 ?_;refine cT (tl [3,6,9,10,11]) (fun(z:aD)=>[]) (fun z=>[(aB z.aa++[Sl.d 6 bU.c (some k) z.az])]) (fun z=>(tS (tS H g 2 m) k 6 z.az)) (fun z=>Option.bind ((bf 40 m (⟨false,[z]⟩:Sl aD)).bind fun u=>on (u) fun y=>nZ  (a0.l.drop (q+1)) y) p=some r) ?_ ?_
    ·intro aG U;refine Y3 ?_;refine aT bU.c s.az fun aH=>Y3 ?_;obtain⟨F,W,b⟩:=cM b
     refine eZ (tl [3,6,9,10,11,19,20]) (fun(z:Nat×aD)=>[(21,vi z.1)]) (fun z=>[(aB z.2.aa++[Sl.d 6 bU.c (some k) z.2.az])]) (fun z=>(tS (tS H g 2 m) k 6 z.2.az)) (fun z=>s.az.l.length-z.1) (fun z=>Option.bind (qV  (s.az.l.drop z.1) z.2) F=some r) (0,(aD.mk s.aa Sl.nil)) b wA ?_;rintro ⟨G,B⟩ b aI X;refine Y3 ?_;refine ar fun aK Y=>?_
     refine ah.bL (fun l=>Option.bind (qV  l B) F=some r) b rfl (fun aL I Z b=>?_) (fun Z b=>?_)
     ·rw [qV] at b;refine sk Y (ar fun aM ab=>Y2 ?_);obtain⟨aP,ad,b⟩:=vO I b;refine S (ix bU.c G ad) (Y4 ?_);refine bx 8 _ rfl (kl [3,6,9,10,11,19,20,21]) ?_;refine ah.draw rfl ?_;refine Y6 ?_;obtain⟨aQ,ae,b⟩:=qO rfl b;refine cH rfl rfl (zM ae) (Y2 ?_);obtain⟨J,ag,b⟩:=qO rfl b
      refine aN.sH (iM (f:=bU.c) (TK rfl) rfl (TK rfl) (TK rfl) ⟨_,rfl⟩ rfl rfl (by decide) rfl rfl rfl rfl aA rfl ag) rfl ?_;refine aN.Dh (tS (tS H g 2 m) k 6 J) ?_;refine Y1 ?_;refine aN.gD (jC (TK rfl) rfl rfl rfl rfl (by repeat (first|exact bn.zero|apply bn.succ)) (by repeat (first|exact bn.zero|apply bn.succ))) ?_;refine Y1 ?_;refine ab _ ?_;refine Y4 ?_
      exact X _ ((G+1),(aD.mk B.aa J)) wA b (dl I)
     rw [qV] at b;have b:=ku W b;refine ah.exit ?_;obtain⟨aU,ai,b⟩:=gM b;exact U _ B wA (ku ai b:)
    rintro aj b;refine ah.cq 0 _ rfl (fun j w cs hh hx=>iE 1 hx rfl) ?_;refine Y4 ?_;obtain⟨u,ak,b⟩:=qO rfl b;refine SH (am aD.c (TK rfl) rfl (TK rfl) (TK rfl) ak) ?_;refine hq (tS (tS H g 2 u) k 6 aj.az) (Y2 ?_);obtain⟨aV,al,b⟩:=gM b;have b:=ku al b
    exact P _ u (ck.toFA (by(intro an aW C); (have ao:an≠k:=fun ap=>by rw [ap] at C; simp [af.set,v,R] at C); (rw [<- C]); (simp only [af.set,if_neg ao]); (first|done|rfl))) b
   rintro y b;refine Y4 ?_;exact M _ (y,(q+1)) wA b (dl E)
  rw [nZ] at b;have b:=ku L b;refine ah.exit ?_;obtain⟨aX,au,b⟩:=bW b;exact K _ m wA (ku au b:)
 rintro aY b;refine Y4 ?_;refine ah.dV 2 rfl ?_;refine ry ?_;obtain rfl:=oJ b;refine bH.b9 H rfl ⟨rfl,rfl⟩ ?_;exact sy
def oV (a0:(Sl Int)):Option (Sl Int):=bif a0.nl then(some (Sl.nil:Sl Int)) else((bf 8 (⟨false,[]⟩:Sl Int) a0).bind fun x7=>some x7)
theorem zN {a0 w0 r}(b:oV a0=some r) (H:af) :AC Tryz.prog 42 [.d (Sl.d 1 (bI .i64) w0 a0)] H (RT (.a (.d (Sl.d 1 (bI .i64) none r))) H):=by
 unfold oV at b;refine AC.oW 8 [.tmp 2] Tryz.call42 Tryz.func42 ?_;refine Y1 ?_;refine s0 (di (k':=1) rfl) rfl ?_;refine Y1 ?_;refine ar fun l g=>Y2 ?_;refine s0 (Dk (TK rfl) rfl rfl) rfl ?_;refine Y1 ?_;refine cE b (fun j b=>?_) (fun j b=>?_)
 ·refine Y1 ?_;refine s0 (di (k':=1) rfl) rfl ?_;refine Y1 ?_;exact rt b
 refine sk g (Y1 ?_);refine s0 (uf (TK rfl) rfl (TK rfl) rfl rfl rfl rfl rfl rfl) rfl ?_;refine Y1 ?_;obtain⟨x7,k,b⟩:=qT rfl b;refine s0 (yg (f:=(bI .i64)) (TK rfl) rfl (TK rfl) (TK rfl) ⟨_,rfl⟩ rfl rfl (by decide) rfl rfl rfl (by intro q h; cases h<;>decide) rfl rfl k) rfl ?_;refine Y2 ?_;exact rt b
def lN :List Z7->(Sl Z7)->Option ((Sl Z7))
 | [],f=>some f
 | g::j,f=>on (g) fun b=>(oV b.ax.aK).bind fun k=>(qE b.dm).bind fun l=>(qW b.aM).bind fun m=>(bf 168 f (⟨false,[(Z7.mk b.aa (aL.mk b.ax.aa k) b.b_ l m)]⟩:Sl Z7)).bind fun p=>lN  (j) p
def u4 (a0:(Sl Z7)):Option (Sl Z7):=Option.bind (lN  a0.l (Sl.nil:Sl Z7)) fun b=>on (b) fun f=>some f
def Cx (a0:(Sl Z7)):Option (Sl Z7):=u4 a0
theorem MF {a0 w0 r}(b:Cx a0=some r) (H:af) :AC Tryz.prog 39 [.d (Sl.d 10 Z7.c w0 a0)] H (RT (.a (.d (Sl.d 10 Z7.c none r))) H):=by
 unfold Cx u4 at b;refine AC.oW 32 [.tmp 2] Tryz.call39 Tryz.func39 ?_;refine ah.tok 10 fun f L=>?_;refine Y1 ?_;refine s0 (di (k':=10) rfl) rfl ?_;refine Y4 ?_;refine ah.fK 3 10 f rfl aA ?_;refine aR kN (fun(z:(Sl Z7))=>[(3,.a (.d (Sl.d 10 Z7.c (some f) z)))]) (fun z=>(tS H f 10 z)) (fun z=>(some z)=some r) ?_ ?_
 ·intro M q;refine Y2 ?_;refine aT Z7.c a0 fun N=>Y3 ?_;obtain⟨j,s,b⟩:=bZ b;refine bD (tl [6,7]) (fun(z:(Sl Z7)×Nat)=>[(3,.a (.d (Sl.d 10 Z7.c (some f) z.1))),(8,vi z.2)]) (fun z=>(tS H f 10 z.1)) (fun z=>a0.l.length-z.2) (fun z=>Option.bind (lN  (a0.l.drop z.2) z.1) j=some r) ((Sl.nil:Sl Z7),0) b wA ?_;rintro ⟨k,m⟩ b O t;refine Y3 ?_;refine ar fun P u=>?_
  refine ah.bL (fun l=>Option.bind (lN  l k) j=some r) b rfl (fun Q p v b=>?_) (fun v b=>?_)
  ·rw [lN] at b;refine sk u (ar fun R w=>Y2 ?_);obtain⟨g,y,b⟩:=vO p b;refine S (ix Z7.c m y) (Y8 ?_);obtain⟨B,C,b⟩:=qO rfl b;refine Sc rfl rfl (zN C) (Y7 ?_);obtain⟨E,F,b⟩:=qO rfl b;refine Sc rfl rfl (zM F) (Y1 ?_)
   refine gD (GS (xs':=Z7.c (Z7.mk g.aa (aL.mk g.ax.aa B) g.b_ E g.aM)) (TK rfl) rfl rfl rfl rfl (Nat.le_of_ble_eq_true rfl) rfl (by repeat (first|exact bn.zero|apply bn.succ))) ?_;refine Y4 ?_;obtain⟨U,G,b⟩:=qO rfl b;refine Sc rfl rfl (tP G) (Y7 ?_);obtain⟨I,J,b⟩:=qO rfl b;refine SH (am Z7.c (TK rfl) rfl (TK rfl) (TK rfl) J) ?_;refine Y2 ?_
   refine w _ ?_;refine Y4 ?_;exact t _ (I,(m+1)) wA b (dl p)
  rw [lN] at b;have b:=ku s b;refine ah.exit ?_;obtain⟨W,K,b⟩:=bW b;exact q _ k wA (ku K b:)
 rintro X b;refine Y4 ?_;refine ah.dV 2 rfl ?_;refine ry ?_;obtain rfl:=oJ b;refine bH.b9 H rfl ⟨rfl,rfl⟩ ?_;exact sy
def mN (a0:Z2) (b:(Sl Bs)):Bool:=on (tF b a0.H6) fun x3=>on (bif ((!x3)&&!(decide (((a0.yx.l.length:Nat):Int)=(0:Int)))) then tF b a0.yx else false) fun f=>((!x3)&&((decide (((a0.yx.l.length:Nat):Int)=(0:Int)))||f))
theorem Cy {a0 f g r}(b:some (mN a0 f)=some r) (H:af) :AC Tryz.prog 40 [.agg (Z2.c a0),.d (Sl.d 1 aB g f)] H (RT (.a (.d (.bool r))) H):=by
 unfold mN at b;refine AC.oW 22 [.tmp 4] Tryz.call40 Tryz.func40 ?_;refine Y8 ?_;obtain⟨x3,j,b⟩:=vP rfl b;refine Sc rfl rfl (FG j) (Y3 ?_);refine Gk 11 ?_;refine bG 12 rfl (fun hC=>dK aB a0.yx) ?_;refine Gk 13 ?_;refine Gk 14 ?_;refine Y2 ?_;refine Gk 17 ?_;obtain⟨l,k,b⟩:=jU (fun _=>rfl) b;refine fE 16 18 rfl rfl rfl rfl rfl rfl (fun hC=>FG (k hC)) ?_
 refine bG 15 rfl (fun hC=>um rfl rfl rfl) ?_;refine Y3 ?_;exact rt b
def Tryz.V9:Go.Shelf.Ren:=⟨fun|4=>72|n=>n,fun|22=>25|25=>9|3=>3|4=>4|9=>9|20=>20|0=>0|n=>n,fun|n=>n⟩
theorem Tryz.V_:Go.Proofs.Lays8.n4 Tryz.prog Tryz.V9:={
 mixed:=by kernel_rfl
 f4:=⟨Tryz.f72.name,by decide,Tryz.func72.trans (congrArg some (by kernel_rfl))⟩
 t0:=Tryz.underlying0
 a0:=Tryz.isAgg0
 z0:=Tryz.sizeOf0
 v0:=Tryz.zeroValue0
 t3:=Tryz.underlying3
 a3:=Tryz.isAgg3
 z3:=Tryz.sizeOf3
 v3:=Tryz.zeroValue3
 t4:=Tryz.underlying4
 a4:=Tryz.isAgg4
 z4:=Tryz.sizeOf4
 v4:=Tryz.zeroValue4
 t9:=Tryz.underlying9
 a9:=Tryz.isAgg9
 z9:=Tryz.sizeOf9
 v9:=Tryz.zeroValue9
 t20:=Tryz.underlying20
 a20:=Tryz.isAgg20
 z20:=Tryz.sizeOf20
 v20:=Tryz.zeroValue20
 t22:=Tryz.underlying25
 a22:=Tryz.isAgg25
 z22:=Tryz.sizeOf25
 v22:=Tryz.zeroValue25 }
def zy (n:Int):Option (Sl Bs):=if 0<=n/\n.toNat*16<=cC/\n.toNat<=cC then some ⟨decide (n=0),[]⟩ else none
theorem Wa {n:Int}{f:Nat}{r:Sl Bs}(b:zy n=some r) (H:af):AC Tryz.prog 72 [.d (.slice f none true []),.d (.int .i64 n)] H fun v h'=>∃tk,H tk=none/\v=.a (.d (Sl.d 1 aB (some tk) r))/\h'=H.set tk (some (.tok 1 r.l.length)):=by
 unfold zy at b
 split at b
 ·rename_i h
  obtain rfl:=oJ b;exact Pn Tryz.V_ (TK rfl) rfl rfl (by decide) h.1 h.2.1 h.2.2 rfl aB H
 cases b
def B9  (b:(Sl Bs)):Option (Sl Bs):=some b
def zz (a0:(Sl (Sl Bs))) :Nat->(Sl Bs)->Nat->Option (Sl Bs)
 | 0,_,_=>none
 | g+1,f,b=>bif (decide (((b:Nat):Int)<((a0.l.length:Nat):Int))) then((a0.l[b]?).bind fun j=>(bf 16 f j).bind fun k=>(zz a0 g) k (b+1)) else(B9   f)
def B8 (a0:(Sl (Sl Bs)))  (b:Int):Option (Sl Bs):=(zy b).bind fun f=>zz a0 (a0.l.length+1) f 0
def B7 (b:Nat) (f:Int->Nat->Option (Sl Bs)) (g:Int):Option (Sl Bs):=f g (b+1)
def u_ (a0:(Sl (Sl Bs))) :Nat->Int->Nat->Option (Sl Bs)
 | 0,_,_=>none
 | j+1,f,b=>bif (decide (((b:Nat):Int)<((a0.l.length:Nat):Int))) then((a0.l[b]?).bind fun k=>(cF f ((k.l.length:Nat):Int)).bind fun g=>bif (decide (g<(0:Int))) then(none) else(B7 b ((u_ a0 j)) g)) else(B8 a0  f)
def B6 (a0:(Sl (Sl Bs))):Option (Sl Bs):=u_ a0 (a0.l.length+1) (0:Int) 0
theorem Cz {a0 w0 r}(b:B6 a0=some r) (H:af) :AC Tryz.prog 41 [.d (Sl.d 1 (fun s=>[Sl.d 1 aB none s]) w0 a0)] H (RT (.a (.d (Sl.d 1 aB none r))) H):=by
 unfold B6 at b;refine AC.oW 36 [.tmp 2] Tryz.call41 Tryz.func41 ?_;refine Y1 ?_;refine s0 (di (k':=1) rfl) rfl ?_;refine Y4 ?_;refine aR (tl [0]) (fun(z:Int)=>[(3,.a (.d (.int .i64 z)))]) (fun z=>H) (fun z=>B8 a0 z=some r) ?_ ?_
 ·intro Z p;refine Y2 ?_;refine aT (fun s=>[Sl.d 1 aB none s]) a0 fun aa=>Y3 ?_;refine bD (tl [0,9,10]) (fun(z:Nat×Int×Nat)=>[(3,.a (.d (.int .i64 z.2.1))),(11,vi z.2.2)]) (fun z=>H) (fun z=>z.1) (fun z=>u_ a0 z.1 z.2.1 z.2.2=some r) ((a0.l.length+1),(0:Int),0) b wA ?_;rintro ⟨f,q,j⟩ b ab t;cases f with
  | zero=>cases b
  | succ f =>
    rw [u_] at b;refine Y3 ?_;refine ar fun ad u=>?_;refine cE b (fun v b=>?_) (fun v b=>?_)
    ·refine sk u (aR (tl [0,9,10,11]) (fun(z:Int)=>[(3,.a (.d (.int .i64 z)))]) (fun z=>H) (fun z=>B7 j ((u_ a0 f)) z=some r) ?_ ?_)
     ·intro ae w;refine Y2 ?_;obtain⟨y,B,b⟩:=bO b;refine S (ix (fun s=>[Sl.d 1 aB none s]) j B) (Y6 ?_);refine aT aB y fun ag=>?_;obtain⟨C,E,b⟩:=bO b;refine S (eC E) (Y6 ?_);refine cE b (fun F b=>?_) (fun F b=>?_)
      ·cases b
      refine ah.skip ?_;exact w _ C wA b
     rintro G b;unfold B7 at b;refine Y4 ?_;exact t _ (f,G,(j+1)) wA b (nS _)
    refine ah.exit ?_;exact p _ q wA b
 rintro ai b;unfold B8 at b;refine Y2 ?_;obtain⟨I,J,b⟩:=bO b;refine sE (dx.call rfl rfl (Wa J _)) rfl (fun _ _ _ ⟨⟨g,aj,K,L⟩,M⟩=>?_);subst K L M;refine Y2 ?_;refine aR kN (fun(z:(Sl Bs))=>[(6,.a (.d (Sl.d 1 aB (some g) z)))]) (fun z=>(tS H g 1 z)) (fun z=>B9 z=some r) ?_ ?_
 ·intro ak N;refine Y2 ?_;refine aT (fun s=>[Sl.d 1 aB none s]) a0 fun al=>Y3 ?_;refine bD (tl [25,26]) (fun(z:Nat×(Sl Bs)×Nat)=>[(6,.a (.d (Sl.d 1 aB (some g) z.2.1))),(27,vi z.2.2)]) (fun z=>(tS H g 1 z.2.1)) (fun z=>z.1) (fun z=>zz a0 z.1 z.2.1 z.2.2=some r) ((a0.l.length+1),I,0) b wA ?_;rintro ⟨k,O,m⟩ b an P;cases k with
  | zero=>cases b
  | succ k =>
    rw [zz] at b;refine Y3 ?_;refine ar fun ao Q=>?_;refine cE b (fun R b=>?_) (fun R b=>?_)
    ·refine sk Q (ar fun ap U=>Y2 ?_);obtain⟨au,W,b⟩:=bO b;refine S (ix (fun s=>[Sl.d 1 aB none s]) m W) (Y6 ?_);obtain⟨X,Y,b⟩:=bO b;refine SH (am aB (TK rfl) rfl (TK rfl) (TK rfl) Y) ?_;refine Y2 ?_;refine U _ ?_;refine Y4 ?_;exact P _ (k,X,(m+1)) wA b (nS _)
    refine ah.exit ?_;exact N _ O wA b
 rintro av b;unfold B9 at b;refine Y4 ?_;refine ah.dV 2 rfl ?_;refine ry ?_;obtain rfl:=oJ b;refine bH.b9 H rfl ⟨rfl,rfl⟩ ?_;exact sy
def wT (a0:(Sl (Sl Bs))):Option (Sl Bs):=B6 a0
def jv (a0:Z2) (x3:(Sl Bs)):List Z6->ag->Option (ag)
 | [],b=>some b
 | g::j,b=>on (g) fun f=>(j8 f.aM).bind fun k=>(wT (⟨false,[x3,k]⟩:Sl (Sl Bs))).bind fun l=>on (mN a0 l) fun m=>Option.bind (bif m then((oV f.ax.aK).bind fun p=>(qW f.aM).bind fun q=>(u4 f.az).bind fun r=>(bf 104 b.an (⟨false,[(Z6.mk f.aa r (aL.mk f.ax.aa p) q)]⟩:Sl Z6)).bind fun s=>some (ag.mk b.ak b.aa b.aH b.aM s b.au b.ay)) else(some b)) fun t=>jv a0 x3 (j) t
def gE (a0:Z2) (f:ag) (x3:(Sl Bs)):List Z8->ag->Option (ag)
 | [],b=>some b
 | j::k,b=>on (j) fun g=>aY (!(!decide (f.ak=(4:Int)))) (j8 g.aM) (Sl.nil:Sl Bs) fun l=>aY (!(!decide (f.ak=(4:Int)))) (wT (⟨false,[x3,l]⟩:Sl (Sl Bs))) (Sl.nil:Sl Bs) fun m=>on (bif !(!decide (f.ak=(4:Int))) then mN a0 m else false) fun p=>Option.bind (bif ((!decide (f.ak=(4:Int)))||p) then((qW g.aM).bind fun q=>(bf 40 b.au (⟨false,[(Z8.mk g.aa q)]⟩:Sl Z8)).bind fun r=>some (ag.mk b.ak b.aa b.aH b.aM b.an r b.ay)) else(some b)) fun s=>gE a0 f x3 (k) s
def zA (a0:Z2) (b:ag):Option ag:=(j8 b.aM).bind fun x3=>(qC b.aH).bind fun x5=>(qW b.aM).bind fun f=>(u4 b.ay).bind fun x7=>Option.bind (jv a0 x3 b.an.l (ag.mk b.ak b.aa x5 f Sl.nil Sl.nil x7)) fun g=>on (g) fun j=>Option.bind (gE a0 b x3 b.au.l j) fun k=>on (k) fun m=>some m
def pJ (a0:Z2) (b:ag):Option ag:=zA a0 b
theorem Wb {a0 g r}(b:pJ a0 g=some r) (H:af) :AC Tryz.prog 20 [.agg (Z2.c a0),.agg (ag.c g)] H (RT (.a (.agg (ag.c r))) H):=by
 unfold pJ zA at b;refine AC.oW 97 [.cell 4 40] Tryz.call20 Tryz.func20 ?_;refine Y8 ?_;obtain⟨x3,P,b⟩:=qT rfl b;refine Sc rfl rfl (vc P) (Y9 ?_);obtain⟨x5,Q,b⟩:=qT rfl b;refine cH rfl rfl (ME Q) (Y2 ?_);obtain⟨R,U,b⟩:=qT rfl b;refine cH rfl rfl (tP U) (Y2 ?_);obtain⟨x7,W,b⟩:=qT rfl b;refine cH rfl rfl (MF W) (Y4 ?_);refine ah.tok 5 fun k a4=>?_
 refine ah.cq 1 _ rfl (fun j w cs hh hx=>tok_cell 4 5 5 hh (t:=k) aA hx rfl) ?_;refine ah.tok 2 fun m E=>?_;obtain⟨a5,E⟩:=af.dW E;refine ah.cq 1 _ rfl (fun j w cs hh hx=>tok_cell 5 2 2 hh (t:=m) aA hx rfl) ?_
 refine cT (tl [2,3,4,5,6]) (fun(z:ag)=>[]) (fun z=>[ag.c ag.zero,((bI .i64) z.ak++aB z.aa++(fun s=>[Sl.d 1 aB none s]) z.aH++(fun s=>[Sl.d 2 aD.c none s]) z.aM++[Sl.d 5 Z6.c (some k) z.an]++[Sl.d 2 Z8.c (some m) z.au]++(fun s=>[Sl.d 10 Z7.c none s]) z.ay)]) (fun z=>(tS (tS H k 5 z.an) m 2 z.au)) (fun z=>(Option.bind (gE a0 g x3 g.au.l z) fun p=>on (p) fun F=>some F)=some r) ?_ ?_
 ·intro a6 X;refine Y3 ?_;refine aT Z6.c g.an fun a7=>Y3 ?_;obtain⟨u,Y,b⟩:=bZ b
  refine eZ (tl [2,3,4,5,6,29,30]) (fun(z:Nat×ag)=>[(31,vi z.1)]) (fun z=>[ag.c ag.zero,((bI .i64) z.2.ak++aB z.2.aa++(fun s=>[Sl.d 1 aB none s]) z.2.aH++(fun s=>[Sl.d 2 aD.c none s]) z.2.aM++[Sl.d 5 Z6.c (some k) z.2.an]++[Sl.d 2 Z8.c (some m) z.2.au]++(fun s=>[Sl.d 10 Z7.c none s]) z.2.ay)]) (fun z=>(tS (tS H k 5 z.2.an) m 2 z.2.au)) (fun z=>g.an.l.length-z.1) (fun z=>Option.bind (jv a0 x3 (g.an.l.drop z.1) z.2) u=some r) (0,(ag.mk g.ak g.aa x5 R Sl.nil Sl.nil x7)) b wA ?_
  rintro ⟨v,q⟩ b a8 Z;refine Y3 ?_;refine ar fun a9 ab=>?_;refine ah.bL (fun l=>Option.bind (jv a0 x3 l q) u=some r) b rfl (fun a_ G ad b=>?_) (fun ad b=>?_)
  ·rw [jv] at b;refine sk ab ?_
   refine cT (tl [2,3,4,5,6,29,30,31]) (fun(z:ag)=>[]) (fun z=>[ag.c ag.zero,((bI .i64) z.ak++aB z.aa++(fun s=>[Sl.d 1 aB none s]) z.aH++(fun s=>[Sl.d 2 aD.c none s]) z.aM++[Sl.d 5 Z6.c (some k) z.an]++[Sl.d 2 Z8.c (some m) z.au]++(fun s=>[Sl.d 10 Z7.c none s]) z.ay)]) (fun z=>(tS (tS H k 5 z.an) m 2 z.au)) (fun z=>Option.bind (jv a0 x3 (g.an.l.drop (v+1)) z) u=some r) ?_ ?_
   ·intro a' I;refine Y2 ?_;obtain⟨ba,ae,b⟩:=vO G b;refine S (ix Z6.c v ae) (Y9 ?_);obtain⟨bb,ai,b⟩:=qO rfl b;refine cH rfl rfl (vc ai) (Y1 ?_);obtain⟨bc,aj,b⟩:=qO rfl b;refine cH rfl rfl (Cz aj) ?_;obtain⟨bd,al,b⟩:=vO rfl b;refine cH rfl rfl (Cy al) (Y1 ?_);obtain⟨be,J,b⟩:=cM b;refine cO b (fun ao b=>?_) (fun ao b=>?_)
    ·refine Y4 ?_;obtain⟨bf,ap,b⟩:=qO rfl b;refine Sc rfl rfl (zN ap) (Y7 ?_);obtain⟨bg,av,b⟩:=qO rfl b;refine Sc rfl rfl (tP av) (Y6 ?_);obtain⟨bh,aw,b⟩:=qO rfl b;refine Sc rfl rfl (MF aw) (Y8 ?_);obtain⟨ax,az,b⟩:=qO rfl b;refine SH (am Z6.c (TK rfl) rfl (TK rfl) (TK rfl) az) ?_;refine Y3 ?_
     exact I _ (ag.mk q.ak q.aa q.aH q.aM ax q.au q.ay) wA (ku J b:)
    refine ah.skip ?_;exact I _ q wA (ku J b:)
   rintro aC b;refine Y4 ?_;exact Z _ ((v+1),aC) wA b (dl G)
  rw [jv] at b;have b:=ku Y b;refine ah.exit ?_;obtain⟨bi,aE,b⟩:=bW b;exact X _ q wA (ku aE b:)
 rintro aF b;refine cT (tl [4,6]) (fun(z:ag)=>[]) (fun z=>[ag.c ag.zero,((bI .i64) z.ak++aB z.aa++(fun s=>[Sl.d 1 aB none s]) z.aH++(fun s=>[Sl.d 2 aD.c none s]) z.aM++[Sl.d 5 Z6.c (some k) z.an]++[Sl.d 2 Z8.c (some m) z.au]++(fun s=>[Sl.d 10 Z7.c none s]) z.ay)]) (fun z=>(tS (tS H k 5 z.an) m 2 z.au)) (fun z=>(some z)=some r) ?_ ?_
 ·intro bj aG;refine Y3 ?_;refine aT Z8.c g.au fun bk=>Y3 ?_;obtain⟨y,aI,b⟩:=bZ b
  refine eZ (tl [2,3,4,5,6,65,66]) (fun(z:Nat×ag)=>[(67,vi z.1)]) (fun z=>[ag.c ag.zero,((bI .i64) z.2.ak++aB z.2.aa++(fun s=>[Sl.d 1 aB none s]) z.2.aH++(fun s=>[Sl.d 2 aD.c none s]) z.2.aM++[Sl.d 5 Z6.c (some k) z.2.an]++[Sl.d 2 Z8.c (some m) z.2.au]++(fun s=>[Sl.d 10 Z7.c none s]) z.2.ay)]) (fun z=>(tS (tS H k 5 z.2.an) m 2 z.2.au)) (fun z=>g.au.l.length-z.1) (fun z=>Option.bind (gE a0 g x3 (g.au.l.drop z.1) z.2) y=some r) (0,aF) b wA ?_
  rintro ⟨B,p⟩ b bl aK;refine Y3 ?_;refine ar fun bm aL=>?_;refine ah.bL (fun l=>Option.bind (gE a0 g x3 l p) y=some r) b rfl (fun bo K aP b=>?_) (fun aP b=>?_)
  ·rw [gE] at b;refine sk aL ?_
   refine cT (tl [2,3,4,5,6,65,66,67]) (fun(z:ag)=>[]) (fun z=>[ag.c ag.zero,((bI .i64) z.ak++aB z.aa++(fun s=>[Sl.d 1 aB none s]) z.aH++(fun s=>[Sl.d 2 aD.c none s]) z.aM++[Sl.d 5 Z6.c (some k) z.an]++[Sl.d 2 Z8.c (some m) z.au]++(fun s=>[Sl.d 10 Z7.c none s]) z.ay)]) (fun z=>(tS (tS H k 5 z.an) m 2 z.au)) (fun z=>Option.bind (gE a0 g x3 (g.au.l.drop (B+1)) z) y=some r) ?_ ?_
   ·intro bp L;refine Y2 ?_;obtain⟨bq,aQ,b⟩:=vO K b;refine S (ix Z8.c B aQ) (Y4 ?_);refine bx 10 _ rfl (kl [2,3,4,5,6,65,66,67]) ?_;refine Y8 ?_;refine dZ 77 ?_;obtain⟨br,aR,b⟩:=e8 rfl b;refine oH 78 rfl rfl rfl rfl rfl (fun hC=>vc (aR hC)) ?_;refine jF 76 79 rfl rfl (fun hC=>buildSlice (TK rfl) rfl (TK rfl) rfl rfl rfl rfl rfl rfl) ?_;obtain⟨bs,aU,b⟩:=e8 rfl b
    refine oH 80 rfl rfl rfl rfl rfl (fun hC=>Cz (aU hC)) ?_;obtain⟨bt,aV,b⟩:=ej (fun _=>rfl) b;refine vN 75 81 rfl rfl rfl rfl rfl rfl (fun hC=>Cy (aV hC)) ?_;refine Y2 ?_;obtain⟨bu,M,b⟩:=cM b;refine cO b (fun aW b=>?_) (fun aW b=>?_)
    ·refine ah.draw rfl ?_;refine Y6 ?_;obtain⟨bv,aX,b⟩:=qO rfl b;refine cH rfl rfl (tP aX) (Y2 ?_);obtain⟨aY,aZ,b⟩:=qO rfl b;refine aN.sH (iM (f:=Z8.c) (TK rfl) rfl (TK rfl) (TK rfl) ⟨_,rfl⟩ rfl rfl (by decide) rfl rfl rfl rfl aA rfl aZ) rfl ?_;refine Y1 ?_
     refine aN.gD (jC (TK rfl) rfl rfl rfl rfl (by repeat (first|exact bn.zero|apply bn.succ)) (by repeat (first|exact bn.zero|apply bn.succ))) ?_;refine Y1 ?_;exact L _ (ag.mk p.ak p.aa p.aH p.aM p.an aY p.ay) wA (ku M b:)
    refine ah.skip ?_;exact L _ p wA (ku M b:)
   rintro a1 b;refine Y4 ?_;exact aK _ ((B+1),a1) wA b (dl K)
  rw [gE] at b;have b:=ku aI b;refine ah.exit ?_;obtain⟨bw,a2,b⟩:=bW b;exact aG _ p wA (ku a2 b:)
 rintro F b;refine ar fun bz a3=>ah.cq 1 _ rfl (fun j w cs hh hx=>iE 4 hx rfl) ?_;refine ah.cq 1 _ rfl (fun j w cs hh hx=>iE 5 hx rfl) ?_;refine Y4 ?_;refine a3 _ ?_;refine ry ?_;obtain rfl:=oJ b;refine bH.b9 H rfl ⟨rfl,rfl⟩ ?_;intro N bA O;have bB:N≠k:=fun C=>by subst C; simp_all [af.set]
 have bC:N≠m:=fun C=>by subst C; simp_all [af.set]
 rw [<- O];simp only [af.set] at O ⊢;(repeat' split)<;>simp_all
def lz (f:Bs):List ag->Unit ⊕ ((ag×Bool))
 | []=>Sum.inl ()
 | g::j=>on (g) fun b=>bif ((b.aa==f)) then(Sum.inr (b,true)) else(lz f (j) )
def fL (a0:ai) (g:Bs):(ag×Bool):=on (lz g a0.aj.l ) fun b=>match b with|Sum.inl _=>(on (()) fun _=>((ag.mk 0 [] Sl.nil Sl.nil Sl.nil Sl.nil Sl.nil),false))|Sum.inr f=>(f)
def zO (a0:ai) (b:Bs):Option (ag×Bool):=some (fL a0 b)
theorem Jn (a0:ai) (a1:Bs):zO a0 a1=some (fL a0 a1):=rfl
theorem oo {a0 f r}(b:zO a0 f=some r) (H:af) :AC Tryz.prog 32 [.agg (ai.c a0),.d (.str f)] H (RT (.cI [.agg (ag.c r.1),.d (.bool r.2)]) H):=by
 unfold zO fL at b;refine AC.oW 22 [.cell 4 40,.tmp 5] Tryz.call32 Tryz.func32 ?_;refine Y5 ?_;refine cT (tl [4]) (fun(z:ag)=>[]) (fun z=>[ag.c z]) (fun z=>H) (fun z=>some (((ag.mk 0 [] Sl.nil Sl.nil Sl.nil Sl.nil Sl.nil),false))=some r) ?_ ?_
 ·intro C q;refine Y3 ?_;refine aT ag.c a0.aj fun E=>Y3 ?_;obtain⟨g,j,b⟩:=dX b;refine eZ (tl [1,4,9,10]) (fun(z:Nat×ag)=>[(11,vi z.1)]) (fun z=>[ag.c z.2]) (fun z=>H) (fun z=>a0.aj.l.length-z.1) (fun z=>g (lz f (a0.aj.l.drop z.1) )=some r) (0,ag.zero) b wA ?_;rintro ⟨k,m⟩ b F s;refine Y3 ?_;refine ar fun G t=>?_
  refine ah.bL (fun l=>g (lz f l )=some r) b rfl (fun I p u b=>?_) (fun u b=>?_)
  ·rw [lz] at b;refine sk t (ar fun J v=>Y2 ?_);obtain⟨K,w,b⟩:=vP p b;refine S (ix ag.c k w) (Y4 ?_);refine bx 7 _ rfl (kl [1,4,9,10,11]) ?_;refine Y6 ?_;refine cP b (fun y b=>?_) (fun y b=>?_)
   ·refine Y5 ?_;exact rs (ku j b:)
   refine sk v (Y4 ?_);exact s _ ((k+1),m) wA b (dl p)
  rw [lz] at b;have b:=ku j b;refine ah.exit ?_;obtain⟨L,B,b⟩:=dX b;exact q _ m wA (ku B b:)
 rintro M b;refine Y5 ?_;exact rt b
def f_ (a0:Z4) (b:Bool) (f:Int) (g:Bs):Option Z4:=bif b then((bf 24 a0.bE (⟨false,[(Z5.mk f g)]⟩:Sl Z5)).bind fun x3=>some (Z4.mk a0.Fd x3)) else(some a0)
theorem lR {a0 g j k c0 b r}(f:f_ a0 g j k=some r) (H:af) (bX:H c0=some (.cells (Z4.cg (some b) a0))) (s:H b=some (.tok 2 a0.bE.l.length)):AC Tryz.prog 79 [.d (.ptr c0 0),.d (.bool g),.d (.int .i64 j),.d (.str k)] H fun v h'=>v=.cI []/\h'=((tS H b 2 r.bE).set c0 (some (.cells (Z4.cg (some b) r)))):=by
 unfold f_ at f;refine AC.oW 21 [] Tryz.call79 Tryz.func79 ?_;have t:c0≠b:=fun m=>by subst m; simp_all
 refine hz ((tS H b 2 a0.bE).set c0 (some (.cells (Z4.cg (some b) a0)))) (Y3 ?_);refine cE f (fun p f=>?_) (fun p f=>?_)
 ·refine oI ?_;obtain⟨x3,q,f⟩:=qT rfl f;refine SH (am Z5.c (TK rfl) rfl (TK rfl) (TK rfl) q) ?_;refine hq ((tS H b 2 x3).set c0 (some (.cells (Z4.cg (some b) a0)))) (Y2 ?_);refine dG (gv (TK rfl) rfl rfl aA rfl (by repeat (first|exact bn.zero|apply bn.succ))) rfl rfl ?_;refine hq ((tS H b 2 x3).set c0 (some (.cells (Z4.cg (some b) (Z4.mk a0.Fd x3))))) (Y1 ?_)
  repeat (first|refine fW ?_|refine fV ?_|refine fU ?_)
  obtain rfl:=oJ f;refine bH.gm ((tS H b 2 x3).set c0 (some (.cells (Z4.cg (some b) (Z4.mk a0.Fd x3))))) (xs:=[]) rfl ⟨rfl,rfl⟩ ?_;exact(fun _ _ h=>h)
 refine ah.skip ?_;repeat (first|refine fW ?_|refine fV ?_|refine fU ?_)
 obtain rfl:=oJ f;refine bH.gm ((tS H b 2 a0.bE).set c0 (some (.cells (Z4.cg (some b) a0)))) (xs:=[]) rfl ⟨rfl,rfl⟩ ?_;exact(fun _ _ h=>h)
def cW (a0:Bs):Bool:=(((((a0==([73,110,116]:Bs)))||((a0==([83,116,114,105,110,103]:Bs))))||((a0==([66,111,111,108,101,97,110]:Bs))))||((a0==([73,68]:Bs))))
theorem ve {a0 r}(b:some (cW a0)=some r) (H:af) :AC Tryz.prog 120 [.d (.str a0)] H (RT (.a (.d (.bool r))) H):=by
 unfold cW at b;refine AC.oW 17 [.tmp 2] Tryz.call120 Tryz.func120 ?_;refine Y8 ?_;refine Gk 6 ?_;refine Y3 ?_;refine Gk 10 ?_;refine Y3 ?_;refine Gk 14 ?_;refine Y3 ?_;exact rt b
def o8 :List UInt8->Unit ⊕ Bool
 | []=>Sum.inl ()
 | f::g=>on (f) fun b=>bif (!(((((decide ((97:Int)<=((b.toNat:Nat):Int)))&&(decide (((b.toNat:Nat):Int)<=(122:Int))))||((decide ((65:Int)<=((b.toNat:Nat):Int)))&&(decide (((b.toNat:Nat):Int)<=(90:Int)))))||((decide ((48:Int)<=((b.toNat:Nat):Int)))&&(decide (((b.toNat:Nat):Int)<=(57:Int)))))||(decide (((b.toNat:Nat):Int)=(95:Int))))) then(Sum.inr false) else(o8  (g) )
def uJ (a0:Bs):Option Bool:=aY (!(((a0==([]:Bs)))||(decide ((64:Int)<((a0.length:Nat):Int))))) (a0[0]?) (0:UInt8) fun b=>aY ((!(((a0==([]:Bs)))||(decide ((64:Int)<((a0.length:Nat):Int))))&&(decide ((48:Int)<=((b.toNat:Nat):Int))))) (a0[0]?) (0:UInt8) fun x5=>bif ((((a0==([]:Bs)))||(decide ((64:Int)<((a0.length:Nat):Int))))||((decide ((48:Int)<=((b.toNat:Nat):Int)))&&(decide (((x5.toNat:Nat):Int)<=(57:Int))))) then(some false) else(on (o8  a0 ) fun f=>match f with|Sum.inl _=>(on (()) fun _=>some true)|Sum.inr g=>(some g))
theorem FH {a0 r}(b:uJ a0=some r) (H:af) :AC Tryz.prog 122 [.d (.str a0)] H (RT (.a (.d (.bool r))) H):=by
 unfold uJ at b;refine AC.oW 58 [.tmp 2] Tryz.call122 Tryz.func122 ?_;refine Y3 ?_;refine ar fun F m=>Y5 ?_;refine bG 8 rfl (fun hC=>Aq (TK rfl) rfl rfl rfl) ?_;refine Gk 9 ?_;refine Y3 ?_;obtain⟨G,p,b⟩:=eE rfl b;refine bG 13 rfl (fun hC=>ul (n:=0) (TK rfl) rfl rfl rfl (p hC)) ?_;refine Gk 14 ?_;refine Gk 15 ?_;refine Y1 ?_;obtain⟨x5,q,b⟩:=eE rfl b
 refine bG 17 rfl (fun hC=>ul (n:=0) (TK rfl) rfl rfl rfl (q hC)) ?_;refine Gk 18 ?_;refine bG 16 rfl (fun hC=>kr rfl rfl rfl) ?_;refine Y2 ?_;refine cE b (fun s b=>?_) (fun s b=>?_)
 ·refine Y3 ?_;exact rt b
 refine sk m (aR kN (fun(z:Unit)=>[]) (fun z=>H) (fun z=>(some true)=some r) ?_ ?_)
 ·intro I t;refine Y2 ?_;refine vG (TK rfl) rfl rfl rfl rfl fun J=>?_;refine Y3 ?_;obtain⟨f,g,b⟩:=bW b;refine bD (tl [0,23]) (fun(z:Nat)=>[(24,vi z)]) (fun z=>H) (fun z=>a0.length-z) (fun z=>f (o8  (a0.drop z) )=some r) 0 b wA ?_;rintro j b K u;refine Y3 ?_;refine ar fun L v=>?_
  refine ah.bL (fun l=>f (o8  l )=some r) b rfl (fun M k w b=>?_) (fun w b=>?_)
  ·rw [o8] at b;refine sk v (ar fun N y=>Y8 ?_);obtain⟨O,B,b⟩:=vP k b;refine s0 (ul (n:=j) (TK rfl) rfl rfl rfl B) rfl ?_;refine Y7 ?_;refine Gk 33 ?_;refine Y3 ?_;refine Gk 37 ?_;refine Gk 38 ?_;refine Y1 ?_;refine Gk 40 ?_;refine bG 39 rfl (fun hC=>kr rfl rfl rfl) ?_;refine Y3 ?_;refine Gk 45 ?_;refine Gk 46 ?_;refine Y1 ?_;refine Gk 48 ?_
   refine bG 47 rfl (fun hC=>kr rfl rfl rfl) ?_;refine Y3 ?_;refine Gk 53 ?_;refine Y3 ?_;refine cP b (fun C b=>?_) (fun C b=>?_)
   ·refine Y3 ?_;exact rs (ku g b:)
   refine sk y (Y4 ?_);exact u _ (j+1) wA b (dl k)
  rw [o8] at b;have b:=ku g b;refine ah.exit ?_;obtain⟨P,E,b⟩:=bW b;exact t _ () wA (ku E b:)
 rintro _ b;refine Y3 ?_;exact rt b
def Bk (a0:Bs) (b:Bs):Bool:=on (bif (decide (((b.length:Nat):Int)<=((a0.length:Nat):Int))) then(List.take (b.length) a0) else([]:Bs)) fun x5=>((decide (((b.length:Nat):Int)<=((a0.length:Nat):Int)))&&((x5==b)))
theorem Wc {a0 f r}(b:some (Bk a0 f)=some r) (H:af) :AC Tryz.prog 183 [.d (.str a0),.d (.str f)] H (RT (.a (.d (.bool r))) H):=by
 unfold Bk at b;refine AC.oW 18 [.tmp 4] Tryz.call183 Tryz.func183 ?_;refine Y5 ?_;refine vG (TK rfl) rfl rfl rfl rfl fun j=>?_;refine Y1 ?_;refine vG (TK rfl) rfl rfl rfl rfl fun k=>?_;refine Y4 ?_;refine bG 12 rfl (fun hC=>Aq (TK rfl) rfl rfl rfl) ?_;obtain⟨x5,g,b⟩:=jU (fun hc=>Q.PJ (by simp at hc; omega)) b
 refine e9 11 13 rfl rfl (fun hC=>OL (l:=none) (r:=(some ((f.length:Nat):Int))) (TK rfl) rfl rfl trivial rfl (by simp) (g hC)) ?_;refine Y1 ?_;refine G2 14 15 rfl rfl BS ?_;refine Y3 ?_;exact rt b
def Bj (a0:Bs) (b:Bs):Bool:=on (Bk a0 b) fun x3=>x3
theorem Wd {a0 f r}(b:some (Bj a0 f)=some r) (H:af) :AC Tryz.prog 151 [.d (.str a0),.d (.str f)] H (RT (.a (.d (.bool r))) H):=by
 unfold Bj at b;refine AC.oW 8 [.tmp 4] Tryz.call151 Tryz.func151 ?_;refine Y6 ?_;obtain⟨x3,g,b⟩:=vP rfl b;refine Sc rfl rfl (Wc g) (Y2 ?_);exact rt b
def jW (a0:Bs):Bool:=on (Bj a0 ([95,95]:Bs)) fun x3=>x3
theorem FI {a0 r}(b:some (jW a0)=some r) (H:af) :AC Tryz.prog 123 [.d (.str a0)] H (RT (.a (.d (.bool r))) H):=by
 unfold jW at b;refine AC.oW 5 [.tmp 2] Tryz.call123 Tryz.func123 ?_;refine Y5 ?_;obtain⟨x3,f,b⟩:=vP rfl b;refine Sc rfl rfl (Wd f) (Y2 ?_);exact rt b
end Go.Proofs
