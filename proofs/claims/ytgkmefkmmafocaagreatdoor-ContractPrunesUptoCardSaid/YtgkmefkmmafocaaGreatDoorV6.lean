import Derived.Test.YtgkmefkmmafocaaGreatDoorV5
set_option maxRecDepth 100000
set_option maxHeartbeats 2000000
set_option linter.unusedVariables false
set_option linter.unusedSimpArgs false
namespace Go.Proofs
open Go Go.Ab
open aO aq ah aY eG
variable {az:bC}
def y4 (b:aj):Option (Sl Z6):=(yP b true).bind fun f=>bif (decide ((0:Int)<((f.l.length:Nat):Int))) then(none) else((yU b).bind fun g=>(y3 b).bind fun i=>(aQ 24 g i).bind fun j=>some j)
theorem KR {k:aj}{r:Sl Z6}(b:y4 k=some r) (H:ak) :AC Tryz.prog 19 [.agg (aj.c k)] H fun v h'=>v=.a (.d (Sl.d 2 Z6.c none r))/\h'=H:=by
 unfold y4 at b;refine AC.oW 15 [.tmp 2] Tryz.call19 Tryz.func19 ?_;refine af (S BX ?_);refine s0 (dc (k':=2) rfl) rfl ?_;refine nil ?_;refine ax fun m g=>?_;refine af (S Ld ?_);obtain⟨o,p,b⟩:=bO b;refine Sc rfl rfl (KN p) ?_;refine S As (nil ?_);refine af (S Mv ?_);refine sLen (f:=Z6.c) (s:=o) (TK rfl) rfl rfl rfl rfl fun z=>?_;refine S BI (nil ?_);refine cE b (fun q b=>?_) (fun q b=>?_)
 ·cases b
 refine sk g ?_;clear g m;refine ah.tok 2 fun i j=>?_;refine ah.b5 (Sd Ld ?_);obtain⟨t,u,b⟩:=bO b;refine au.sH (bU rfl rfl (KP u _ aB)) rfl ?_;refine au.Dh (H.set i (some (.tok 2 t.l.length))) ?_;refine Sd Ld ?_;obtain⟨B,w,b⟩:=bO b;refine ct rfl rfl (KQ w) ?_;obtain⟨x,y,b⟩:=bO b;refine au.sH (jf (f:=Z6.c) (TK rfl) rfl (TK rfl) (TK rfl) ⟨_,rfl⟩ rfl rfl (by decide) rfl rfl rfl rfl aB rfl y) rfl ?_
 refine au.Dh (H.set i (some (.tok 2 x.l.length))) ?_;refine Sd As ?_;refine au.nil (by decide +kernel) ?_;refine ah.dm 2 rfl ?_;refine ah.ret ?_;repeat (first|refine bE ?_|refine bF ?_)
 obtain rfl:=oJ b;refine bn.bG H rfl ⟨rfl,rfl⟩ ?_
 first|exact ak.bS j|(simp only [ak.set_set]; exact ak.bS j)
-- @uses supergraph/contract.Tags supergraph/contract.meets (supergraph/contract.filter).first (*supergraph/contract.cutter).round supergraph/validate.Schema
noncomputable def ot (t:Nat) (z:Z2):List D:=[Sl.d 7 ai.c (some t) z.Fd.an,.bool z.eT]
def y5  (b:Z2):Option (aj×(Sl Z6)):=(y4 b.Fd).bind fun f=>bif (decide ((0:Int)<((f.l.length:Nat):Int))) then(some ((aj.mk (Sl.nil:Sl ai)),f)) else(some (b.Fd,(Sl.nil:Sl Z6)))
def uH :Nat->Z2->Option (aj×(Sl Z6))
 | 0,_=>none
 | f+1,b=>bif b.eT then((uy b).bind fun g=>(uH  f) g) else(y5   b)
def y6  (b:Z2):Option (aj×(Sl Z6)):=(uy b).bind fun f=>uH F0 f
def uI (b:Nat) (f:Nat->Z2->Option (aj×(Sl Z6))) (g:Z2):Option (aj×(Sl Z6)):=f (b+1) g
def qg (g:aj) (j:(Sl Bs)) (i:(Sl Bs)) :Nat->Nat->Z2->Option (aj×(Sl Z6))
 | 0,_,_=>none
 | k+1,b,f=>bif (decide (((b:Nat):Int)<((g.an.l.length:Nat):Int))) then((g.an.l[b]?).bind fun m=>(ud m.bh).bind fun o=>(uj o i).bind fun p=>bif (!p) then((rI (Z3.mk j i) m).bind fun q=>(aQ 144 f.Fd.an (⟨false,[q]⟩:Sl ai)).bind fun r=>uI b ((qg g j i k)) (Z2.mk (aj.mk r) f.eT)) else(uI b ((qg g j i k)) f)) else(y6   f)
def y7 (b:aj) (f:(Sl Bs)) (g:(Sl Bs)):Option (aj×(Sl Z6)):=qg b f g (b.an.l.length+1) 0 (Z2.mk aj.zero false)
theorem KS {k:aj}{o u:Sl Bs}{O P:Option Nat}{r:(aj×(Sl Z6))}(b:y7 k o u=some r) (H:ak):AC Tryz.prog 7 [.agg (aj.c k),.d (Sl.d 1 aI O o),.d (Sl.d 1 aI P u)] H fun v h'=>v=.dz [.agg (aj.c r.1),.d (Sl.d 2 Z6.c none r.2)]/\h'=H:=by
 unfold y7 at b;refine AC.oW 68 [.cell 6 24,.tmp 7] Tryz.call7 Tryz.func7 ?_;refine af (S BX ?_);refine Sl ?_;refine s0 (dc (k':=2) rfl) rfl ?_;refine nil ?_;refine af (S Mv (S Mv ?_));refine aO.dm 13 rfl ?_;refine aO.dm 14 rfl ?_;refine S BU ?_;refine Sl ?_;refine Sf ?_;refine nil ?_;refine bA 8 _ rfl (KA 2 (KA 3 (KA 6 aY.nil))) ?_;refine af (S BU ?_);refine sE (di.sS rfl) rfl (fun _ _ _ ⟨i,p,Q,R,U⟩=>?_); subst Q R U
 refine hq (H.set i (some (.cells (Z2.c (Z2.mk aj.zero false))))) ?_;refine S As (nil ?_);refine ah.tok 7 fun g W=>?_;have X:g≠i:=fun x=>by subst x; simp_all [ak.set]
 have aH:H g=none:=by simpa [ak.set,X] using W
 refine ah.gp i (ot g (Z2.mk aj.zero false)) aB (fun j w cs hh hx=>by exact tok_cell (xs:=Z2.c (Z2.mk aj.zero false)) 0 7 7 hh (t:=g) aB hx rfl) ?_;refine ah.dQ (h':=((H.set g (some (.tok 7 (Z2.mk aj.zero false).Fd.an.l.length))).set i (some (.cells (ot g (Z2.mk aj.zero false)))))) (by first|rfl|(rw [ak.set_set]; rfl)|(funext n_; simp only [ak.set]; (repeat' split)<;>first|rfl|(exfalso; simp_all; done)|(simp_all; done))) ?_
 refine aP (TA 6 (TA 9 kN)) (fun(z:Z2)=>[]) (fun z=>((H.set g (some (.tok 7 z.Fd.an.l.length))).set i (some (.cells (ot g z))))) (fun z=>y6 z=some r) ?_ ?_
 ·intro aJ Y;refine af (S Fv (S Ld ?_));refine sLen (f:=ai.c) (s:=k.an) (TK rfl) rfl rfl rfl rfl fun aK=>?_;refine S Mv (nil ?_);refine block ?_;refine bp (TA 2 (TA 6 (TA 8 (TA 9 (TA 19 (TA 20 kN)))))) (fun(z:Nat×Nat×Z2)=>[(21,.a (.d (.int .i64 ((z.2.1:Nat):Int))))]) (fun z=>((H.set g (some (.tok 7 z.2.2.Fd.an.l.length))).set i (some (.cells (ot g z.2.2))))) (fun z=>z.1) (fun z=>qg k o u z.1 z.2.1 z.2.2=some r) ((k.an.l.length+1),0,(Z2.mk aj.zero false)) b wA ?_
  rintro ⟨q,y,m⟩ b aL Z;try dsimp only at b
  cases q with
  | zero=>cases b
  | succ q =>
    rw [qg] at b;refine af (S BI (nil ?_));refine ax fun aa G=>?_;refine cE b (fun B b=>?_) (fun B b=>?_)
    ·try dsimp only at B
     have aM:=oD B;refine sk G ?_;clear G aa;refine aP (TA 2 (TA 6 (TA 8 (TA 9 (TA 19 (TA 20 (TA 21 kN))))))) (fun(z:Z2)=>[]) (fun z=>((H.set g (some (.tok 7 z.Fd.an.l.length))).set i (some (.cells (ot g z))))) (fun z=>uI y ((qg k o u q)) z=some r) ?_ ?_
     ·intro aN I;refine block ?_;refine af ?_;obtain⟨aQ,ab,b⟩:=bO b;refine S (ix ai.c y ab) (S Ld ?_);refine Sl ?_;refine Sf ?_;refine nil ?_;refine bA 11 _ rfl (KA 2 (KA 6 (KA 8 (KA 9 (KA 19 (KA 20 (KA 21 aY.nil))))))) ?_;refine af (S Fv (S Ld ?_));obtain⟨aR,ad,b⟩:=bO b;refine Sc rfl rfl (ue ad) ?_;refine S Mv ?_;obtain⟨aS,ae,b⟩:=bO b;refine Sc rfl rfl (xZ ae) ?_
      refine S NB (nil ?_);refine cE b (fun ag b=>?_) (fun ag b=>?_)
      ·refine ah.draw rfl ?_;refine Sd Mv (Sd Mv (Sd NP ?_));refine au.s0 (bP (TK rfl) rfl rfl (TK rfl) rfl rfl) rfl ?_;refine au.s0 (bP (TK rfl) rfl rfl (TK rfl) rfl rfl) rfl ?_;refine au.s0 (b7 (TK rfl) rfl rfl aB rfl) rfl ?_;refine Sd Ld (Sd Ld ?_);obtain⟨aT,al,b⟩:=bO b;refine ct rfl rfl (C7 al) ?_;refine Sd BV ?_;obtain⟨C,am,b⟩:=bO b;refine au.sH (jf (f:=ai.c) (TK rfl) rfl (TK rfl) (TK rfl) ⟨_,rfl⟩ rfl rfl (by decide) rfl rfl rfl rfl aB rfl am) rfl ?_
       refine Sd NP ?_;refine au.s0 (bP (TK rfl) rfl rfl (TK rfl) rfl rfl) rfl ?_;refine au.s0 (bP (TK rfl) rfl rfl (TK rfl) rfl rfl) rfl ?_;refine au.eR (gj (TK rfl) rfl rfl aB rfl (by repeat (first|exact bL.zero|apply bL.succ))) rfl rfl ?_;refine au.Dh ((H.set g (some (.tok 7 (Z2.mk (aj.mk C) m.eT).Fd.an.l.length))).set i (some (.cells (ot g (Z2.mk (aj.mk C) m.eT))))) ?_
       refine au.nil (by decide +kernel) ?_;exact I _ (Z2.mk (aj.mk C) m.eT) wA b
      refine ah.skip ?_;exact I _ m wA b
     rintro ao b;try dsimp only at b
     unfold uI at b;refine region ?_;refine SI ?_;refine S Mv (nil ?_);exact Z _ (q,(y+1),ao) wA b (nS _)
    refine ah.exit ?_;exact Y _ m wA b
 rintro E b;try dsimp only at b
 unfold y6 at b;refine ah.gp i (Z2.c E) aB (fun j w cs hh hx=>by exact jg (xs:=ot g E) 0 hx rfl) ?_;refine ah.vn (bX.forget (h':=(H.set i (some (.cells (Z2.c E))))) ?_) ?_
 ·intro ap aU J;have aV:ap≠g:=fun x=>by subst x; simp_all [ak.set]
  rw [<- J];simp only [ak.set] at J ⊢
  (repeat' split)<;>simp_all
 refine aP (TA 6 (TA 9 kN)) (fun(z:Z2)=>[]) (fun z=>(H.set i (some (.cells (Z2.c z))))) (fun z=>y5 z=some r) ?_ ?_
 ·intro aW ar;refine af (S Mv ?_);obtain⟨K,av,b⟩:=bO b;refine sH (bU rfl rfl (Dc av _ aB)) rfl ?_;refine hq (H.set i (some (.cells (Z2.c K)))) ?_;refine nil ?_;refine block ?_;refine bp (TA 6 (TA 9 kN)) (fun(z:Nat×Z2)=>[]) (fun z=>(H.set i (some (.cells (Z2.c z.2))))) (fun z=>z.1) (fun z=>uH z.1 z.2=some r) (F0,K) b wA ?_;rintro ⟨F,aw⟩ b aX ay
  try dsimp only at b
  cases F with
  | zero=>cases b
  | succ F =>
    rw [uH] at b;refine ax fun az L=>?_;refine af (S Mv (S NP ?_));refine s0 (bP (TK rfl) rfl rfl (TK rfl) rfl rfl) rfl ?_;refine s0 (b7 (TK rfl) rfl rfl aB rfl) rfl ?_;refine nil ?_;refine cE b (fun aA b=>?_) (fun aA b=>?_)
    ·refine sk L ?_;clear L az;refine block ?_;refine region ?_;refine S Mv ?_;obtain⟨M,aC,b⟩:=bO b;refine sH (bU rfl rfl (Dc aC _ aB)) rfl ?_;refine hq (H.set i (some (.cells (Z2.c M)))) ?_;refine nil ?_;exact ay _ (F,M) wA b (nS _)
    refine ah.exit ?_;exact ar _ aw wA b
 rintro aZ b;try dsimp only at b
 unfold y5 at b;refine ax fun aD N=>?_;refine af (S Mv (S NP ?_));refine s0 (bP (TK rfl) rfl rfl (TK rfl) rfl rfl) rfl ?_;refine s0 (b7 (TK rfl) rfl rfl aB rfl) rfl ?_;obtain⟨aE,aF,b⟩:=bO b;refine Sc rfl rfl (KR aF) ?_;refine S As (nil ?_);refine af (S Mv ?_);refine sLen (f:=Z6.c) (s:=aE) (TK rfl) rfl rfl rfl rfl fun a0=>?_;refine S BI (nil ?_);refine cE b (fun aG b=>?_) (fun aG b=>?_)
 ·refine af (S BU (S Mv ?_));refine Sf ?_;refine S As (nil ?_);refine ah.ret ?_;repeat (first|refine bE ?_|refine bF ?_)
  obtain rfl:=oJ b;refine bn.bG H rfl ⟨rfl,rfl⟩ ?_
  first|exact ak.bS p|(simp only [ak.set_set]; exact ak.bS p)
 refine sk N ?_;clear N aD;refine af (S Mv (S NP ?_));refine s0 (bP (TK rfl) rfl rfl (TK rfl) rfl rfl) rfl ?_;refine s0 (b7 (TK rfl) rfl rfl aB rfl) rfl ?_;refine Sf ?_;refine s0 (dc (k':=2) rfl) rfl ?_;refine nil ?_;refine ah.ret ?_;repeat (first|refine bE ?_|refine bF ?_)
 obtain rfl:=oJ b;refine bn.bG H rfl ⟨rfl,rfl⟩ ?_
 first|exact ak.bS p|(simp only [ak.set_set]; exact ak.bS p)
def mD (f:aj) (g:Bs->aj->(List Bs)->Option (List Bs)):List Z8->(List Bs)->Option ((List Bs))
 | [],b=>some b
 | i::j,b=>on (i) fun k=>(g k.aA.aa f b).bind fun l=>mD f g (j) l
def lg (b:aj) (f:Bs->aj->(List Bs)->Option (List Bs)):List Z7->(List Bs)->Option ((List Bs))
 | [],g=>some g
 | j::k,g=>on (j) fun i=>(f i.aA.aa b g).bind fun m=>Option.bind (mD b f i.aF.l m) fun o=>on (o) fun p=>lg b f (k) p
def lm (f:aj) (g:Bs->aj->(List Bs)->Option (List Bs)):List Z8->(List Bs)->Option ((List Bs))
 | [],b=>some b
 | i::j,b=>on (i) fun k=>(g k.aA.aa f b).bind fun l=>lm f g (j) l
def iN (f:aj) (g:(ai×Bool)) (i:Bs->aj->(List Bs)->Option (List Bs)):List Z9->(List Bs)->Option ((List Bs))
 | [],b=>some b
 | j::k,b=>on (j) fun l=>Option.bind (bif (decide (g.1.ar=(3:Int))) then((i l.aa f b).bind fun m=>some m) else(some b)) fun o=>iN f g i (k) o
def jF (f:aj) (g:Bs->aj->(List Bs)->Option (List Bs)):List Bs->(List Bs)->Option ((List Bs))
 | [],b=>some b
 | i::j,b=>on (i) fun k=>(g k f b).bind fun l=>jF f g (j) l
def gw (k:Bs) (g:aj) (f:(ai×Bool)) (i:Bs->aj->(List Bs)->Option (List Bs)):List ai->(List Bs)->Option ((List Bs))
 | [],b=>some b
 | l::m,b=>on (l) fun j=>on (bif (decide (f.1.ar=(2:Int))) then k4 j.aW k else false) fun o=>Option.bind (bif ((decide (f.1.ar=(2:Int)))&&o) then((i j.aa g b).bind fun p=>some p) else(some b)) fun q=>gw k g f i (m) q
def cw:Nat->Bs->aj->(List Bs)->Option (List Bs)
 | 0,_,_,_=>none
 | n+1,g,b,i=>on (mB b g) fun f=>bif ((!f.2)||(i.contains g)) then(some i) else(Option.bind (lg b (cw n) f.1.ay.l (dO i g)) fun j=>on (j) fun k=>Option.bind (lm b (cw n) f.1.aM.l k) fun m=>on (m) fun o=>Option.bind (iN b f (cw n) f.1.aJ.l o) fun p=>on (p) fun q=>Option.bind (jF b (cw n) f.1.aW.l q) fun r=>on (r) fun s=>Option.bind (gw g b f (cw n) b.an.l s) fun t=>some t)
def y8 (n:Nat):Prop:=∀{a0:Bs}{b:aj}{a2:(List Bs)}  {c2:Nat}{f:Nat}{r:(List Bs)},cw n a0 b a2=some r->∀(H:ak) (g:H c2=some (.map (br a2))) (i:H f=some (.cells [.func 21 [.view (aj.c b),.view [.map c2],.ptr f 0]])),AC Tryz.prog 21 [.d (.str a0),.d (.view (aj.c b)),.d (.view [.map c2]),.d (.ptr f 0)] H fun v h'=>v=.dz []/\h'=(H.set c2 (some (.map (br r))))
theorem KT (n:Nat) (t:y8 (az:=az) n):y8 (az:=az) (n+1):=by
 intro m g O  c2 aT r b H b1 b2;rw [cw] at b;refine AC.oW 120 [] Tryz.call21 Tryz.func21 ?_;have b3:aT≠c2:=fun aU=>by subst aU; simp_all
 refine ah.dQ (h':=(H.set c2 (some (.map (br O))))) (by funext n_; simp only [ak.set]; (repeat' split)<;>simp_all) ?_;refine af (S Ld (S Mv ?_));obtain⟨i,aV,b⟩:=vT (yh _ _) b;refine Sc rfl rfl (rM aV) ?_;refine S Mv (S EX (S EX ?_));refine Sl ?_;refine Sf ?_;refine S As (nil ?_);refine bA 5 _ rfl (KA 0 (KA 1 (KA 2 (KA 3 (KA 6 aY.nil))))) ?_;refine ax fun aX P=>?_
 refine af (S Mv (S NB (S Mv (G0 Ld (G0 Mv ?_)))));refine gC rfl rfl (fun hC=>aL (k:=28) rfl (aL (k:=29) rfl (tc (TK rfl) rfl (TK rfl) (TK rfl) rfl rfl rfl rfl aB))) rfl ?_;refine S PO (nil ?_);refine cE b (fun aZ b=>?_) (fun aZ b=>?_)
 ·exact rt b
 refine sk P ?_;clear P aX;refine af (S Ld (S Mv ?_));refine eR (mapUpdate (TK rfl) rfl (TK rfl) rfl rfl rfl rfl aB (vI _ _) rfl) rfl rfl ?_;refine hq (H.set c2 (some (.map (br (dO O m))))) ?_;refine nil ?_;refine aP (TA 0 (TA 1 (TA 3 (TA 5 kN)))) (fun(z:(List Bs))=>[]) (fun z=>(H.set c2 (some (.map (br z))))) (fun z=>(Option.bind (lm g (cw n) i.1.aM.l z) fun v=>on (v) fun w=>Option.bind (iN g i (cw n) i.1.aJ.l w) fun p=>on (p) fun u=>Option.bind (jF g (cw n) i.1.aW.l u) fun o=>on (o) fun q=>Option.bind (gw m g i (cw n) g.an.l q) fun j=>some j)=some r) ?_ ?_
 ·intro b4 a0;refine af (S Fv (S Ld ?_));refine sLen (f:=Z7.c) (s:=i.1.ay) (TK rfl) rfl rfl rfl rfl fun b5=>?_;refine S Mv (nil ?_);refine block ?_;obtain⟨x,a1,b⟩:=bY b;refine bp (TA 0 (TA 1 (TA 3 (TA 5 (TA 35 (TA 36 kN)))))) (fun(z:Nat×(List Bs))=>[(37,.a (.d (.int .i64 ((z.1:Nat):Int))))]) (fun z=>(H.set c2 (some (.map (br z.2))))) (fun z=>i.1.ay.l.length-z.1) (fun z=>Option.bind (lg g (cw n) (i.1.ay.l.drop z.1) z.2) x=some r) (0,(dO O m)) b wA ?_
  rintro ⟨y,Q⟩ b b6 a2;try dsimp only at b
  refine af (S BI (nil ?_));refine ax fun a3 R=>?_;refine ah.bK (fun l=>Option.bind (lg g (cw n) l Q) x=some r) b rfl (fun b8 U B b=>?_) (fun B b=>?_)
  ·rw [lg] at b;try dsimp only at B
   have b9:=oD B;refine sk R ?_;clear R a3;refine aP (TA 0 (TA 1 (TA 3 (TA 5 (TA 35 (TA 36 (TA 37 kN))))))) (fun(z:(List Bs))=>[]) (fun z=>(H.set c2 (some (.map (br z))))) (fun z=>Option.bind (lg g (cw n) (i.1.ay.l.drop (y+1)) z) x=some r) ?_ ?_
   ·intro b_ a4;refine block ?_;refine af ?_;obtain⟨C,a5,b⟩:=vO U b;refine S (ix Z7.c y a5) (S Ld ?_);refine Sl ?_;refine Sf ?_;refine nil ?_;refine bA 8 _ rfl (KA 0 (KA 1 (KA 3 (KA 5 (KA 35 (KA 36 (KA 37 aY.nil))))))) ?_;refine af ?_;refine s0 (b7 (TK rfl) rfl rfl aB rfl) rfl ?_;refine S Fv (S Fv (S Ld ?_));obtain⟨W,a6,b⟩:=qO rfl b;refine sH (bU rfl rfl (t a6 _ aB aB)) rfl ?_
    refine hq (H.set c2 (some (.map (br W)))) ?_;refine nil ?_;refine af (S Fv (S Ld ?_));refine sLen (f:=Z8.c) (s:=C.aF) (TK rfl) rfl rfl rfl rfl fun b'=>?_;refine S Mv (nil ?_);refine block ?_;obtain⟨X,a7,b⟩:=dZ b;refine bp (TA 0 (TA 1 (TA 3 (TA 5 (TA 35 (TA 36 (TA 37 (TA 47 (TA 48 kN))))))))) (fun(z:Nat×(List Bs))=>[(49,.a (.d (.int .i64 ((z.1:Nat):Int))))]) (fun z=>(H.set c2 (some (.map (br z.2))))) (fun z=>C.aF.l.length-z.1) (fun z=>Option.bind (mD g (cw n) (C.aF.l.drop z.1) z.2) X=some r) (0,W) b wA ?_
    rintro ⟨Y,Z⟩ b ca a8;try dsimp only at b
    refine af (S BI (nil ?_));refine ax fun a9 aa=>?_;refine ah.bK (fun l=>Option.bind (mD g (cw n) l Z) X=some r) b rfl (fun cb ab E b=>?_) (fun E b=>?_)
    ·rw [mD] at b;try dsimp only at E
     have cc:=oD E;refine sk aa ?_;clear aa a9;refine ax fun a_ ad=>?_;refine block ?_;refine af ?_;obtain⟨cd,a',b⟩:=vO ab b;refine S (ix Z8.c Y a') (S Ld ?_);refine Sl ?_;refine Sf ?_;refine nil ?_;refine bA 10 _ rfl (KA 0 (KA 1 (KA 3 (KA 5 (KA 35 (KA 36 (KA 37 (KA 47 (KA 48 (KA 49 aY.nil)))))))))) ?_;refine region ?_;refine s0 (b7 (TK rfl) rfl rfl aB rfl) rfl ?_
     refine S Fv (S Fv (S Ld ?_));obtain⟨ae,ba,b⟩:=qO rfl b;refine sH (bU rfl rfl (t ba _ aB aB)) rfl ?_;refine hq (H.set c2 (some (.map (br ae)))) ?_;refine nil ?_;refine ad _ ?_;clear ad a_;refine region ?_;refine SI ?_;refine S Mv (nil ?_);exact a8 _ ((Y+1),ae) wA b (dl ab)
    rw [mD] at b;have b:=ku a7 b;refine ah.exit ?_;obtain⟨ce,bb,b⟩:=gT b;have b:=ku bb b;exact a4 _ Z wA b
   rintro bc b;try dsimp only at b
   refine region ?_;refine SI ?_;refine S Mv (nil ?_);exact a2 _ ((y+1),bc) wA b (dl U)
  rw [lg] at b;have b:=ku a1 b;refine ah.exit ?_;obtain⟨cf,bd,b⟩:=bT b;have b:=ku bd b;exact a0 _ Q wA b
 rintro be b;try dsimp only at b
 refine aP (TA 0 (TA 1 (TA 3 (TA 5 kN)))) (fun(z:(List Bs))=>[]) (fun z=>(H.set c2 (some (.map (br z))))) (fun z=>(Option.bind (iN g i (cw n) i.1.aJ.l z) fun p=>on (p) fun u=>Option.bind (jF g (cw n) i.1.aW.l u) fun o=>on (o) fun q=>Option.bind (gw m g i (cw n) g.an.l q) fun j=>some j)=some r) ?_ ?_
 ·intro cg bf;refine af (S Fv (S Ld ?_));refine sLen (f:=Z8.c) (s:=i.1.aM) (TK rfl) rfl rfl rfl rfl fun ch=>?_;refine S Mv (nil ?_);refine block ?_;obtain⟨ag,bg,b⟩:=bY b;refine bp (TA 0 (TA 1 (TA 3 (TA 5 (TA 61 (TA 62 kN)))))) (fun(z:Nat×(List Bs))=>[(63,.a (.d (.int .i64 ((z.1:Nat):Int))))]) (fun z=>(H.set c2 (some (.map (br z.2))))) (fun z=>i.1.aM.l.length-z.1) (fun z=>Option.bind (lm g (cw n) (i.1.aM.l.drop z.1) z.2) ag=some r) (0,be) b wA ?_
  rintro ⟨aj,v⟩ b ci bh;try dsimp only at b
  refine af (S BI (nil ?_));refine ax fun bi al=>?_;refine ah.bK (fun l=>Option.bind (lm g (cw n) l v) ag=some r) b rfl (fun cj am F b=>?_) (fun F b=>?_)
  ·rw [lm] at b;try dsimp only at F
   have ck:=oD F;refine sk al ?_;clear al bi;refine ax fun bj ao=>?_;refine block ?_;refine af ?_;obtain⟨cl,bk,b⟩:=vO am b;refine S (ix Z8.c aj bk) (S Ld ?_);refine Sl ?_;refine Sf ?_;refine nil ?_;refine bA 12 _ rfl (KA 0 (KA 1 (KA 3 (KA 5 (KA 61 (KA 62 (KA 63 aY.nil))))))) ?_;refine region ?_;refine s0 (b7 (TK rfl) rfl rfl aB rfl) rfl ?_;refine S Fv (S Fv (S Ld ?_))
   obtain⟨ap,bl,b⟩:=qO rfl b;refine sH (bU rfl rfl (t bl _ aB aB)) rfl ?_;refine hq (H.set c2 (some (.map (br ap)))) ?_;refine nil ?_;refine ao _ ?_;clear ao bj;refine region ?_;refine SI ?_;refine S Mv (nil ?_);exact bh _ ((aj+1),ap) wA b (dl am)
  rw [lm] at b;have b:=ku bg b;refine ah.exit ?_;obtain⟨cn,bm,b⟩:=bT b;have b:=ku bm b;exact bf _ v wA b
 rintro w b;try dsimp only at b
 refine aP (TA 0 (TA 1 (TA 3 (TA 5 kN)))) (fun(z:(List Bs))=>[]) (fun z=>(H.set c2 (some (.map (br z))))) (fun z=>(Option.bind (jF g (cw n) i.1.aW.l z) fun o=>on (o) fun q=>Option.bind (gw m g i (cw n) g.an.l q) fun j=>some j)=some r) ?_ ?_
 ·intro co bo;refine af (S Fv (S Ld ?_));refine sLen (f:=Z9.c) (s:=i.1.aJ) (TK rfl) rfl rfl rfl rfl fun cp=>?_;refine S Mv (nil ?_);refine block ?_;obtain⟨G,bq,b⟩:=bY b;refine bp (TA 0 (TA 1 (TA 3 (TA 5 (TA 74 (TA 75 kN)))))) (fun(z:Nat×(List Bs))=>[(76,.a (.d (.int .i64 ((z.1:Nat):Int))))]) (fun z=>(H.set c2 (some (.map (br z.2))))) (fun z=>i.1.aJ.l.length-z.1) (fun z=>Option.bind (iN g i (cw n) (i.1.aJ.l.drop z.1) z.2) G=some r) (0,w) b wA ?_
  rintro ⟨I,p⟩ b cq bs;try dsimp only at b
  refine af (S BI (nil ?_));refine ax fun bt ar=>?_;refine ah.bK (fun l=>Option.bind (iN g i (cw n) l p) G=some r) b rfl (fun cr au J b=>?_) (fun J b=>?_)
  ·rw [iN] at b;try dsimp only at J
   have cs:=oD J;refine sk ar ?_;clear ar bt;refine aP (TA 0 (TA 1 (TA 3 (TA 5 (TA 74 (TA 75 (TA 76 kN))))))) (fun(z:(List Bs))=>[]) (fun z=>(H.set c2 (some (.map (br z))))) (fun z=>Option.bind (iN g i (cw n) (i.1.aJ.l.drop (I+1)) z) G=some r) ?_ ?_
   ·intro ct av;refine block ?_;refine af ?_;obtain⟨cu,bu,b⟩:=vO au b;refine S (ix Z9.c I bu) (S Ld ?_);refine Sl ?_;refine Sf ?_;refine nil ?_;refine bA 14 _ rfl (KA 0 (KA 1 (KA 3 (KA 5 (KA 74 (KA 75 (KA 76 aY.nil))))))) ?_;refine af (S Fv (S Ld (S BI (nil ?_))));obtain⟨cv,aw,b⟩:=dZ b;refine cO b (fun bv b=>?_) (fun bv b=>?_)
    ·refine region ?_;refine s0 (b7 (TK rfl) rfl rfl aB rfl) rfl ?_;refine S Fv (S Ld ?_);obtain⟨aA,bw,b⟩:=qO rfl b;refine sH (bU rfl rfl (t bw _ aB aB)) rfl ?_;refine hq (H.set c2 (some (.map (br aA)))) ?_;refine nil ?_;have b:=ku aw b;exact av _ aA wA b
    refine ah.skip ?_;have b:=ku aw b;exact av _ p wA b
   rintro bx b;try dsimp only at b
   refine region ?_;refine SI ?_;refine S Mv (nil ?_);exact bs _ ((I+1),bx) wA b (dl au)
  rw [iN] at b;have b:=ku bq b;refine ah.exit ?_;obtain⟨cx,bz,b⟩:=bT b;have b:=ku bz b;exact bo _ p wA b
 rintro u b;try dsimp only at b
 refine aP (TA 0 (TA 1 (TA 3 (TA 5 kN)))) (fun(z:(List Bs))=>[]) (fun z=>(H.set c2 (some (.map (br z))))) (fun z=>(Option.bind (gw m g i (cw n) g.an.l z) fun j=>some j)=some r) ?_ ?_
 ·intro cy bB;refine af (S Fv (S Ld ?_));refine sLen (f:=aI) (s:=i.1.aW) (TK rfl) rfl rfl rfl rfl fun cz=>?_;refine S Mv (nil ?_);refine block ?_;obtain⟨aC,bC,b⟩:=bY b;refine bp (TA 0 (TA 1 (TA 3 (TA 5 (TA 89 (TA 90 kN)))))) (fun(z:Nat×(List Bs))=>[(91,.a (.d (.int .i64 ((z.1:Nat):Int))))]) (fun z=>(H.set c2 (some (.map (br z.2))))) (fun z=>i.1.aW.l.length-z.1) (fun z=>Option.bind (jF g (cw n) (i.1.aW.l.drop z.1) z.2) aC=some r) (0,u) b wA ?_
  rintro ⟨aD,o⟩ b cA bD;try dsimp only at b
  refine af (S BI (nil ?_));refine ax fun bH aE=>?_;refine ah.bK (fun l=>Option.bind (jF g (cw n) l o) aC=some r) b rfl (fun cB aG K b=>?_) (fun K b=>?_)
  ·rw [jF] at b;try dsimp only at K
   have cC:=oD K;refine sk aE ?_;clear aE bH;refine ax fun bI aH=>?_;refine block ?_;refine af ?_;obtain⟨cD,bJ,b⟩:=vO aG b;refine S (ix aI aD bJ) (S Ld (S As (nil ?_)));refine region ?_;refine s0 (b7 (TK rfl) rfl rfl aB rfl) rfl ?_;refine S Mv ?_;obtain⟨aK,bM,b⟩:=qO rfl b;refine sH (bU rfl rfl (t bM _ aB aB)) rfl ?_;refine hq (H.set c2 (some (.map (br aK)))) ?_
   refine nil ?_;refine aH _ ?_;clear aH bI;refine region ?_;refine SI ?_;refine S Mv (nil ?_);exact bD _ ((aD+1),aK) wA b (dl aG)
  rw [jF] at b;have b:=ku bC b;refine ah.exit ?_;obtain⟨cF,bO,b⟩:=bT b;have b:=ku bO b;exact bB _ o wA b
 rintro q b;try dsimp only at b
 refine af (S Fv (S Ld ?_));refine sLen (f:=ai.c) (s:=g.an) (TK rfl) rfl rfl rfl rfl fun cG=>?_;refine S Mv (nil ?_);refine block ?_;obtain⟨L,bP,b⟩:=bY b;refine bp (TA 0 (TA 3 (TA 5 (TA 100 (TA 101 kN))))) (fun(z:Nat×(List Bs))=>[(102,.a (.d (.int .i64 ((z.1:Nat):Int))))]) (fun z=>(H.set c2 (some (.map (br z.2))))) (fun z=>g.an.l.length-z.1) (fun z=>Option.bind (gw m g i (cw n) (g.an.l.drop z.1) z.2) L=some r) (0,q) b wA ?_
 rintro ⟨M,j⟩ b cH bQ;try dsimp only at b
 refine af (S BI (nil ?_));refine ax fun bR aN=>?_;refine ah.bK (fun l=>Option.bind (gw m g i (cw n) l j) L=some r) b rfl (fun cI aO N b=>?_) (fun N b=>?_)
 ·rw [gw] at b;try dsimp only at N
  have cJ:=oD N;refine sk aN ?_;clear aN bR;refine aP (TA 0 (TA 3 (TA 5 (TA 100 (TA 101 (TA 102 kN)))))) (fun(z:(List Bs))=>[]) (fun z=>(H.set c2 (some (.map (br z))))) (fun z=>Option.bind (gw m g i (cw n) (g.an.l.drop (M+1)) z) L=some r) ?_ ?_
  ·intro cK aQ;refine block ?_;refine af ?_;obtain⟨cM,bS,b⟩:=vO aO b;refine S (ix ai.c M bS) (S Ld ?_);refine Sl ?_;refine Sf ?_;refine nil ?_;refine bA 18 _ rfl (KA 0 (KA 3 (KA 5 (KA 100 (KA 101 (KA 102 aY.nil)))))) ?_;refine af (S Fv (S Ld (S BI (S Mv (G0 Fv ?_)))));refine G1 110 rfl Ld ?_;refine G0 Mv ?_;obtain⟨cN,bV,b⟩:=eB (fun _=>(xU _ _)) b;refine fu 111 112 rfl rfl rfl rfl rfl rfl (fun hC=>xV (bV hC)) ?_
   refine S PA (nil ?_);obtain⟨cP,aR,b⟩:=dZ b;refine cO b (fun bW b=>?_) (fun bW b=>?_)
   ·refine region ?_;refine s0 (b7 (TK rfl) rfl rfl aB rfl) rfl ?_;refine S Fv (S Ld ?_);obtain⟨aS,bX,b⟩:=qO rfl b;refine sH (bU rfl rfl (t bX _ aB aB)) rfl ?_;refine hq (H.set c2 (some (.map (br aS)))) ?_;refine nil ?_;have b:=ku aR b;exact aQ _ aS wA b
   refine ah.skip ?_;have b:=ku aR b;exact aQ _ j wA b
  rintro b0 b;try dsimp only at b
  refine region ?_;refine SI ?_;refine S Mv (nil ?_);exact bQ _ ((M+1),b0) wA b (dl aO)
 rw [gw] at b;have b:=ku bP b;refine ah.exit ?_;repeat (first|refine gP ?_|refine gN ?_|refine gM ?_)
 obtain rfl:=oJ b;refine bn.gQ (H.set c2 (some (.map (br j)))) (xs:=[]) rfl ⟨rfl,rfl⟩ ?_;exact(fun _ _ h=>h)
theorem Dm:∀(n:Nat),(y8 (az:=az) n)
 | 0=>fun b=>by first|cases b|(rw [cw] at b; cases b)
 | n+1=>KT n (Dm n)
def rQ (f:Bs) (b:aj) (g:(List Bs)):Option (List Bs):=cw F0 f b g
theorem KU {g:Bs}{b:aj}{i:List Bs}{c2 f:Nat}{r:List Bs}(j:rQ g b i=some r) (H:ak) (k:H c2=some (.map (br i))) (l:H f=some (.cells [.func 21 [.view (aj.c b),.view [.map c2],.ptr f 0]])):AC Tryz.prog 21 [.d (.str g),.d (.view (aj.c b)),.d (.view [.map c2]),.d (.ptr f 0)] H fun v h'=>v=.dz []/\h'=(H.set c2 (some (.map (br r)))):=(Dm F0) j H k l
def uJ  (b:aj):Option aj:=some b
def rR (b:Nat) (f:Nat->aj->Option aj) (g:aj):Option aj:=f (b+1) g
def mE (f:aj) (g:(List Bs)) :Nat->Nat->aj->Option aj
 | 0,_,_=>none
 | j+1,b,i=>bif (decide (((b:Nat):Int)<((f.an.l.length:Nat):Int))) then((f.an.l[b]?).bind fun k=>bif (g.contains k.aa) then((rI (Z3.mk (Sl.nil:Sl Bs) (Sl.nil:Sl Bs)) k).bind fun m=>(aQ 144 i.an (⟨false,[m]⟩:Sl ai)).bind fun o=>rR b ((mE f g j)) (aj.mk o)) else(rR b ((mE f g j)) i)) else(uJ   i)
def uK (b:aj)  (f:(List Bs)):Option aj:=mE b f (b.an.l.length+1) 0 aj.zero
def mF (f:aj) :Nat->Int->(List Bs)->Option aj
 | 0,_,_=>none
 | i+1,b,g=>bif (decide (b<(3:Int))) then((cI ([([81,117,101,114,121]:Bs),([77,117,116,97,116,105,111,110]:Bs),([83,117,98,115,99,114,105,112,116,105,111,110]:Bs)]:List Bs) b).bind fun j=>(rQ j f g).bind fun k=>(cA b (1:Int)).bind fun l=>(mF f i) l k) else(uK f  g)
def qh (b:aj):Option aj:=mF b F0 (0:Int) ([]:List Bs)
theorem y9 {k r:aj}(b:qh k=some r) (H:ak) :AC Tryz.prog 9 [.agg (aj.c k)] H fun v h'=>v=.a (.agg (aj.c r))/\h'=H:=by
 unfold qh at b;refine AC.oW 43 [.cell 2 24] Tryz.call9 Tryz.func9 ?_;refine af (S BX ?_);refine Sl ?_;refine nil ?_;refine af ?_;refine sE di.makeMap rfl (fun _ _ _ ⟨g,aA,x,y,B⟩=>?_); subst x y B;refine hq (H.set g (some (.map (br ([]:List Bs))))) ?_;refine Sl ?_;refine Sf ?_;refine nil ?_;refine bA 3 _ rfl (KA 1 (KA 2 aY.nil)) ?_;refine af ?_;refine sE (di.sR (TK rfl) rfl) rfl (fun _ _ _ ⟨i,I,x,y,B⟩=>?_); subst x y B
 obtain⟨aC,I⟩:=ak.dJ I;refine hq ((H.set g (some (.map (br ([]:List Bs))))).set i (some (.cells [.nilFunc]))) ?_;refine nil ?_;refine af ?_;refine s0 (makeFunc rfl) rfl ?_;refine eR (gj (TK rfl) rfl rfl aB rfl (by repeat (first|exact bL.zero|apply bL.succ))) rfl rfl ?_;refine hq ((H.set g (some (.map (br ([]:List Bs))))).set i (some (.cells [.func 21 [.view (aj.c k),.view [.map g],.ptr i 0]]))) ?_
 refine nil ?_;refine aP (TA 1 (TA 2 (TA 3 kN))) (fun(z:(List Bs))=>[]) (fun z=>((H.set g (some (.map (br z)))).set i (some (.cells [.func 21 [.view (aj.c k),.view [.map g],.ptr i 0]])))) (fun z=>uK k z=some r) ?_ ?_
 ·intro aD U;refine af ?_;refine s0 (HK Tryz.bt Tryz.underlying67 rfl rfl rfl rfl rfl) rfl ?_;refine S Mv (nil ?_);refine block ?_;refine bp (TA 1 (TA 2 (TA 3 (TA 4 (TA 13 kN))))) (fun(z:Nat×Int×(List Bs))=>[(14,.a (.d (.int .i64 z.2.1)))]) (fun z=>((H.set g (some (.map (br z.2.2)))).set i (some (.cells [.func 21 [.view (aj.c k),.view [.map g],.ptr i 0]])))) (fun z=>z.1) (fun z=>mF k z.1 z.2.1 z.2.2=some r) (F0,(0:Int),([]:List Bs)) b wA ?_
  rintro ⟨C,aE,W⟩ b aF X;try dsimp only at b
  cases C with
  | zero=>cases b
  | succ C =>
    rw [mF] at b;refine af (S BI (nil ?_));refine ax fun Y J=>?_;refine cE b (fun Z b=>?_) (fun Z b=>?_)
    ·refine sk J ?_;clear J Y;refine ax fun aa K=>?_;refine block ?_;refine af ?_;obtain⟨aG,ab,b⟩:=bO b;refine s0 (HR (f:=D.str) (l:=([([81,117,101,114,121]:Bs),([77,117,116,97,116,105,111,110]:Bs),([83,117,98,115,99,114,105,112,116,105,111,110]:Bs)]:List Bs)) Tryz.underlying67 Tryz.underlying9 (Tryz.bt 9 _ rfl) rfl rfl rfl rfl ab) rfl ?_;refine S As (nil ?_);refine region ?_
     refine s0 (b7 (TK rfl) rfl rfl aB rfl) rfl ?_;refine S Mv ?_;obtain⟨L,ad,b⟩:=bO b;refine sH (bU rfl rfl (KU ad _ aB aB)) rfl ?_;refine hq ((H.set g (some (.map (br L)))).set i (some (.cells [.func 21 [.view (aj.c k),.view [.map g],.ptr i 0]]))) ?_;refine nil ?_;refine K _ ?_;clear K aa;refine region ?_;obtain⟨ae,ag,b⟩:=bO b;refine s0 (eL rfl rfl ag) rfl ?_
     refine S Mv (nil ?_);exact X _ (C,ae,L) wA b (nS _)
    refine ah.exit ?_;exact U _ W wA b
 rintro o b;try dsimp only at b
 unfold uK at b;refine af ?_;refine Sl ?_;refine aO.tok 7 fun m q=>?_;obtain⟨aH,q⟩:=ak.dJ q;obtain⟨aI,q⟩:=ak.dJ q;refine aO.cV 1 _ rfl (fun j w cs hh hx=>tok_cell 0 7 7 hh (t:=m) aB hx rfl) ?_;refine nil ?_;refine af (S BU ?_);refine Sl ?_;refine Sf ?_;refine nil ?_;refine bA 8 _ rfl (KA 1 (KA 2 (KA 3 (KA 7 aY.nil)))) ?_
 refine ez (TA 2 (TA 7 kN)) (fun(z:aj)=>[]) (fun z=>[aj.c aj.zero,([Sl.d 7 ai.c (some m) z.an])]) (fun z=>(((H.set g (some (.map (br o)))).set i (some (.cells [.func 21 [.view (aj.c k),.view [.map g],.ptr i 0]]))).set m (some (.tok 7 z.an.l.length)))) (fun z=>uJ z=some r) ?_ ?_
 ·intro aJ al;refine af (S Fv (S Ld ?_));refine sLen (f:=ai.c) (s:=k.an) (TK rfl) rfl rfl rfl rfl fun aK=>?_;refine S Mv (nil ?_);refine block ?_;refine fK (TA 2 (TA 3 (TA 7 (TA 8 (TA 23 (TA 24 kN)))))) (fun(z:Nat×Nat×aj)=>[(25,.a (.d (.int .i64 ((z.2.1:Nat):Int))))]) (fun z=>[aj.c aj.zero,([Sl.d 7 ai.c (some m) z.2.2.an])]) (fun z=>(((H.set g (some (.map (br o)))).set i (some (.cells [.func 21 [.view (aj.c k),.view [.map g],.ptr i 0]]))).set m (some (.tok 7 z.2.2.an.l.length)))) (fun z=>z.1) (fun z=>mE k o z.1 z.2.1 z.2.2=some r) ((k.an.l.length+1),0,aj.zero) b wA ?_
  rintro ⟨u,E,M⟩ b aL am;try dsimp only at b
  cases u with
  | zero=>cases b
  | succ u =>
    rw [mE] at b;refine af (S BI (nil ?_));refine ax fun ao N=>?_;refine cE b (fun F b=>?_) (fun F b=>?_)
    ·try dsimp only at F
     have aM:=oD F;refine sk N ?_;clear N ao;refine ez (TA 2 (TA 3 (TA 7 (TA 8 (TA 23 (TA 24 (TA 25 kN))))))) (fun(z:aj)=>[]) (fun z=>[aj.c aj.zero,([Sl.d 7 ai.c (some m) z.an])]) (fun z=>(((H.set g (some (.map (br o)))).set i (some (.cells [.func 21 [.view (aj.c k),.view [.map g],.ptr i 0]]))).set m (some (.tok 7 z.an.l.length)))) (fun z=>rR E ((mE k o u)) z=some r) ?_ ?_
     ·intro aN O;refine block ?_;refine af ?_;obtain⟨aQ,ap,b⟩:=bO b;refine S (ix ai.c E ap) (S Ld ?_);refine Sl ?_;refine Sf ?_;refine nil ?_;refine bA 10 _ rfl (KA 2 (KA 3 (KA 7 (KA 8 (KA 23 (KA 24 (KA 25 aY.nil))))))) ?_;refine af (S Ld (S Fv (S Ld ?_)));refine s0 (tc (TK rfl) rfl (TK rfl) (TK rfl) rfl rfl rfl rfl aB) rfl ?_;refine nil ?_;refine cE b (fun ar b=>?_) (fun ar b=>?_)
      ·refine ah.draw rfl ?_;refine Sd FL (Sd LL (Sd Ld (Sd Ld ?_)));obtain⟨aR,av,b⟩:=bO b;refine ct rfl rfl (C7 av) ?_;refine Sd BV ?_;obtain⟨P,aw,b⟩:=bO b;refine au.sH (jf (f:=ai.c) (TK rfl) rfl (TK rfl) (TK rfl) ⟨_,rfl⟩ rfl rfl (by decide) rfl rfl rfl rfl aB rfl aw) rfl ?_;refine au.Dh (((H.set g (some (.map (br o)))).set i (some (.cells [.func 21 [.view (aj.c k),.view [.map g],.ptr i 0]]))).set m (some (.tok 7 P.l.length))) ?_
       refine Sd FL ?_;refine au.dA (qU (TK rfl) rfl rfl rfl rfl (by repeat (first|exact bL.zero|apply bL.succ)) (by repeat (first|exact bL.zero|apply bL.succ))) ?_;refine au.nil (by decide +kernel) ?_;exact O _ (aj.mk P) wA b
      refine ah.skip ?_;exact O _ M wA b
     rintro ay b;try dsimp only at b
     unfold rR at b;refine region ?_;refine SI ?_;refine S Mv (nil ?_);exact am _ (u,(E+1),ay) wA b (nS _)
    refine ah.exit ?_;exact al _ M wA b
 rintro aS b;try dsimp only at b
 unfold uJ at b;refine ax fun az Q=>?_;refine ah.cV 1 _ rfl (fun j w cs hh hx=>jg 0 hx rfl) ?_;refine region ?_;refine S LL ?_;refine Sf ?_;refine nil ?_;refine Q _ ?_;clear Q az;refine ah.ret ?_;repeat (first|refine bE ?_|refine bF ?_)
 obtain rfl:=oJ b;refine bn.bG H rfl ⟨rfl,rfl⟩ ?_;intro G aT R;have aU:G≠g:=fun p=>by subst p; simp_all [ak.set]
 have aV:G≠i:=fun p=>by subst p; simp_all [ak.set]
 have aW:G≠m:=fun p=>by subst p; simp_all [ak.set]
 rw [<- R];simp only [ak.set] at R ⊢
 (repeat' split)<;>simp_all
def ou (b:aj):Option aj:=qh b
theorem Dp (a0:aj):qh a0=ou a0:=rfl
def Dq (b:Bs):(Sl av):=(⟨false,[(av.mk ([116,97,103]:Bs) (⟨false,[(bz.mk ([110,97,109,101]:Bs) (ag.mk (3:Int) (0:Int) b true ([]) (Sl.nil:Sl Bs)))]⟩:Sl bz))]⟩:Sl av)
def y_ (b:Bs):Option (Sl av):=some (Dq b)
theorem KV {f:Bs}{r:Sl av}(b:y_ f=some r) (H:ak) :AC Tryz.prog 14 [.d (.str f)] H fun v h'=>v=.a (.d (Sl.d 2 av.c none r))/\h'=H:=by
 unfold y_ Dq at b;refine AC.oW 9 [.tmp 2] Tryz.call14 Tryz.func14 ?_;refine af ?_;refine s0 (dc (k':=2) rfl) rfl ?_;refine nil ?_;refine af (S Mv (S BU (S BU (S BV (S BU (S BV (S As (nil ?_))))))));exact rt b
def rS :Option Bool:=(y_ ([120]:Bs)).bind fun g=>(y7 (aj.mk (⟨false,[(ai.mk (1:Int) ([81,117,101,114,121]:Bs) (Sl.nil:Sl Bs) (Sl.nil:Sl av) (⟨false,[(Z7.mk ([97]:Bs) (Sl.nil:Sl Z8) (aG.mk ([73,110,116]:Bs) (Sl.nil:Sl Int)) g),(Z7.mk ([98]:Bs) (Sl.nil:Sl Z8) (aG.mk ([73,110,116]:Bs) (Sl.nil:Sl Int)) (Sl.nil:Sl av))]⟩:Sl Z7) (Sl.nil:Sl Z9) (Sl.nil:Sl Z8)),(ai.mk (1:Int) ([84]:Bs) (Sl.nil:Sl Bs) (Sl.nil:Sl av) (⟨false,[(Z7.mk ([97]:Bs) (Sl.nil:Sl Z8) (aG.mk ([73,110,116]:Bs) (Sl.nil:Sl Int)) (Sl.nil:Sl av))]⟩:Sl Z7) (Sl.nil:Sl Z9) (Sl.nil:Sl Z8))]⟩:Sl ai)) (⟨false,[([120]:Bs)]⟩:Sl Bs) (Sl.nil:Sl Bs)).bind fun b=>aU (((decide (((b.2.l.length:Nat):Int)=(0:Int)))&&(decide (((b.1.an.l.length:Nat):Int)=(1:Int))))) (b.1.an.l[0]?) ai.zero fun f=>aU ((((decide (((b.2.l.length:Nat):Int)=(0:Int)))&&(decide (((b.1.an.l.length:Nat):Int)=(1:Int))))&&(decide (((f.ay.l.length:Nat):Int)=(1:Int))))) (b.1.an.l[0]?) ai.zero fun j=>aU ((((decide (((b.2.l.length:Nat):Int)=(0:Int)))&&(decide (((b.1.an.l.length:Nat):Int)=(1:Int))))&&(decide (((f.ay.l.length:Nat):Int)=(1:Int))))) (j.ay.l[0]?) Z7.zero fun i=>aU (((((decide (((b.2.l.length:Nat):Int)=(0:Int)))&&(decide (((b.1.an.l.length:Nat):Int)=(1:Int))))&&(decide (((f.ay.l.length:Nat):Int)=(1:Int))))&&((i.aa==([97]:Bs))))) (qh (aj.mk (⟨false,[(ai.mk (1:Int) ([81,117,101,114,121]:Bs) (Sl.nil:Sl Bs) (Sl.nil:Sl av) (⟨false,[(Z7.mk ([97]:Bs) (Sl.nil:Sl Z8) (aG.mk ([73,110,116]:Bs) (Sl.nil:Sl Int)) g),(Z7.mk ([98]:Bs) (Sl.nil:Sl Z8) (aG.mk ([73,110,116]:Bs) (Sl.nil:Sl Int)) (Sl.nil:Sl av))]⟩:Sl Z7) (Sl.nil:Sl Z9) (Sl.nil:Sl Z8)),(ai.mk (1:Int) ([84]:Bs) (Sl.nil:Sl Bs) (Sl.nil:Sl av) (⟨false,[(Z7.mk ([97]:Bs) (Sl.nil:Sl Z8) (aG.mk ([73,110,116]:Bs) (Sl.nil:Sl Int)) (Sl.nil:Sl av))]⟩:Sl Z7) (Sl.nil:Sl Z9) (Sl.nil:Sl Z8))]⟩:Sl ai))) aj.zero fun k=>some (((((decide (((b.2.l.length:Nat):Int)=(0:Int)))&&(decide (((b.1.an.l.length:Nat):Int)=(1:Int))))&&(decide (((f.ay.l.length:Nat):Int)=(1:Int))))&&((i.aa==([97]:Bs))))&&(decide (((k.an.l.length:Nat):Int)=(1:Int))))
theorem Dr    {r:Bool}(b:rS =some r) (H:ak) :AC Tryz.prog 6 [] H fun v h'=>v=.a (.d (.bool r))/\h'=H:=by
 unfold rS at b;refine AC.oW 59 [.tmp 0] Tryz.call6 Tryz.func6 ?_;refine af (S As (nil ?_));refine af (S BU ?_);obtain⟨u,i,b⟩:=bO b;refine Sc rfl rfl (KV i) ?_;refine S BU (S BU (S BU (S BV (S BU (S BU (S BU (S BV (S BU (S BV (S BU ?_))))))))));refine Sl ?_;refine Sf ?_;refine nil ?_;refine bA 1 _ rfl aY.nil ?_;refine af (S Ld (S BV ?_));obtain⟨g,j,b⟩:=bO b;refine s0 (fE rfl rfl (fun H=>AC.Bk (.cons (.refl _) (.cons (.refl _) (.cons (jd.Bj (k':=1)) .nil))) (KS j H))) rfl ?_
 refine S Mv (S EX (S EX ?_));refine Sl ?_;refine Sf ?_;refine S As (nil ?_);refine bA 2 _ rfl (KA 1 (KA 3 aY.nil)) ?_;refine af (S Mv ?_);refine sLen (f:=Z6.c) (s:=g.2) (TK rfl) rfl rfl rfl rfl fun w=>?_;refine S BI (S Mv (G0 Fv ?_));refine G1 27 rfl Ld ?_;refine gC rfl rfl (fun hC=>aL (k:=28) rfl (b8 (f:=ai.c) (s:=g.1.an) (TK rfl) rfl rfl rfl)) rfl ?_;refine G1 29 rfl BI ?_
 refine S PA (S Mv (G0 Fv ?_));refine G1 33 rfl Ld ?_;obtain⟨l,m,b⟩:=gO b;refine gC rfl rfl (fun hC=>aL (k:=34) rfl (dI (f:=ai.c) (n:=0) (TK rfl) rfl (TK rfl) rfl rfl rfl (m hC))) rfl ?_;refine G1 35 rfl Fv ?_;refine G1 36 rfl Ld ?_;refine gC rfl rfl (fun hC=>aL (k:=37) rfl (b8 (f:=Z7.c) (s:=l.ay) (TK rfl) rfl rfl rfl)) rfl ?_;refine G1 38 rfl BI ?_;refine S PA (S Mv (G0 Fv ?_))
 refine G1 42 rfl Ld ?_;obtain⟨x,o,b⟩:=gO b;refine gC rfl rfl (fun hC=>aL (k:=43) rfl (dI (f:=ai.c) (n:=0) (TK rfl) rfl (TK rfl) rfl rfl rfl (o hC))) rfl ?_;refine G1 44 rfl Fv ?_;refine G1 45 rfl Ld ?_;obtain⟨y,p,b⟩:=gO b;refine gC rfl rfl (fun hC=>aL (k:=46) rfl (dI (f:=Z7.c) (n:=0) (TK rfl) rfl (TK rfl) rfl rfl rfl (p hC))) rfl ?_;refine G1 47 rfl Fv ?_;refine G1 48 rfl Ld ?_
 refine G1 49 rfl BS ?_;refine S PA (S Mv (G0 Ld ?_));obtain⟨q,t,b⟩:=gO b;refine c6 53 rfl rfl rfl rfl rfl (fun hC=>y9 (t hC)) ?_;refine gC rfl rfl (fun hC=>aL (k:=54) rfl (field (TK rfl) rfl rfl (TK rfl) rfl rfl rfl)) rfl ?_;refine gC rfl rfl (fun hC=>aL (k:=55) rfl (b8 (f:=ai.c) (s:=q.an) (TK rfl) rfl rfl rfl)) rfl ?_;refine G1 56 rfl BI ?_;refine S PA (S As (nil ?_))
 exact rt b
def mG (f:(Sl Bs)):List Bs->Nat->Option (Unit ⊕ Bool)
 | [],b=>some (Sum.inl ())
 | g::i,b=>on (g) fun j=>(f.l[b]?).bind fun k=>bif (!(j==k)) then(some (Sum.inr false)) else(mG f (i) (b+1) )
def qi (f:(Sl Bs)) (b:(Sl Bs)):Option Bool:=bif (!decide (((f.l.length:Nat):Int)=((b.l.length:Nat):Int))) then(some false) else(Option.bind (mG b f.l 0 ) fun g=>match g with|Sum.inl _=>(on (()) fun _=>some true)|Sum.inr i=>(some i))
def za (f:(Sl Bs)) (b:(Sl Bs)):Option Bool:=qi f b
theorem KW (a0:(Sl Bs)) (b:(Sl Bs)):za a0 b=qi a0 b:=rfl
theorem KX {g i:Sl Bs}{w0 w:Option Nat}{r:Bool}(b:za g i=some r) (H:ak) :AC Tryz.prog 44 [.d (Sl.d 1 aI w0 g),.d (Sl.d 1 aI w i)] H fun v h'=>v=.a (.d (.bool r))/\h'=H:=by
 unfold za qi at b;refine AC.oW 26 [.tmp 4] Tryz.call44 Tryz.func44 ?_;refine af (S As (nil ?_));refine ax fun x m=>?_;refine af (S Mv ?_);refine sLen (f:=aI) (s:=g) (TK rfl) rfl rfl rfl rfl fun L=>?_;refine S Mv ?_;refine sLen (f:=aI) (s:=i) (TK rfl) rfl rfl rfl rfl fun M=>?_;refine S BI (nil ?_);refine cE b (fun y b=>?_) (fun y b=>?_)
 ·refine af (S As (nil ?_));exact rt b
 refine sk m ?_;clear m x;refine aP kN (fun(z:Unit)=>[]) (fun z=>H) (fun z=>(some true)=some r) ?_ ?_
 ·intro N B;refine af (S As (nil ?_));refine block ?_;obtain⟨o,p,b⟩:=bY b;refine bp (TA 0 (TA 1 kN)) (fun(z:Nat)=>[(5,.a (.d (.int .i64 ((z:Nat):Int))))]) (fun z=>H) (fun z=>g.l.length-z) (fun z=>Option.bind (mG i (g.l.drop z) z ) o=some r) 0 b wA ?_;rintro j b O C;try dsimp only at b
  refine ax fun E q=>?_;refine af (S Mv (S Mv ?_));refine sLen (f:=aI) (s:=g) (TK rfl) rfl rfl rfl rfl fun P=>?_;refine S BI (nil ?_);refine ah.bK (fun l=>Option.bind (mG i l j ) o=some r) b rfl (fun Q t k b=>?_) (fun k b=>?_)
  ·rw [mG] at b;try dsimp only at k
   have R:=oD k;refine sk q ?_;clear q E;refine ax fun F u=>?_;refine block ?_;refine ah.b5 (Sd Mv (Sd Mv ?_));obtain⟨U,G,b⟩:=vO t b;refine Sd (ix aI j G) (Sd Ld (Sd Mv (Sd Mv ?_)));obtain⟨W,I,b⟩:=qO rfl b;refine Sd (ix aI j I) (Sd Ld (Sd BS ?_));refine au.nil (by decide +kernel) ?_;refine cO b (fun J b=>?_) (fun J b=>?_)
   ·refine af (S As (nil ?_));refine ah.ret ?_;repeat (first|refine bE ?_|refine bF ?_)
    have b:=ku p b;obtain rfl:=oJ b;refine bn.bG H rfl ⟨rfl,rfl⟩ ?_;exact(fun _ _ h=>h)
   refine sk u ?_;clear u F;refine region ?_;refine S Mv ?_;refine SI ?_;refine S As (nil ?_);exact C _ (j+1) wA b (dl t)
  rw [mG] at b;have b:=ku p b;try dsimp only at b
  refine ah.exit ?_;obtain⟨X,K,b⟩:=bT b;have b:=ku K b;exact B _ () wA b
 rintro _ b;try dsimp only at b
 refine af (S As (nil ?_));exact rt b
def uL (f:Int) (b:Int):Int:=bif (decide (f<b)) then((-1:Int)) else(bif (decide (b<f)) then((1:Int)) else((0:Int)))
def ov (f:Int) (b:Int):Option Int:=some (uL f b)
theorem KY (a0:Int) (b:Int):ov a0 b=some (uL a0 b):=rfl
theorem zb {j f r:Int}(b:ov j f=some r) (H:ak) :AC Tryz.prog 150 [.d (.int .i64 j),.d (.int .i64 f)] H fun v h'=>v=.a (.d (.int .i64 r))/\h'=H:=by
 unfold ov uL at b;refine AC.oW 11 [.tmp 4] Tryz.call150 Tryz.func150 ?_;refine af (S As (nil ?_));refine ax fun k g=>?_;refine af (S Mv (S Mv (S BI (nil ?_))));refine cP b (fun l b=>?_) (fun l b=>?_)
 ·refine af (S As (nil ?_));exact rt b
 refine sk g ?_;clear g k;refine ax fun m i=>?_;refine af (S Mv (S Mv (S BI (nil ?_))));refine cP b (fun o b=>?_) (fun o b=>?_)
 ·refine af (S As (nil ?_));exact rt b
 refine sk i ?_;clear i m;refine af (S As (nil ?_));exact rt b
def uM (f:Bs) (b:Bs):Int:=bif (Op.bytesLess f b) then((-1:Int)) else(bif (!(Op.bytesLess f b||f==b)) then((1:Int)) else((0:Int)))
def qj (f:Bs) (b:Bs):Option Int:=some (uM f b)
theorem KZ (a0:Bs) (b:Bs):qj a0 b=some (uM a0 b):=rfl
theorem Ds {j f:Bs}{r:Int}(b:qj j f=some r) (H:ak) :AC Tryz.prog 151 [.d (.str j),.d (.str f)] H fun v h'=>v=.a (.d (.int .i64 r))/\h'=H:=by
 unfold qj uM at b;refine AC.oW 11 [.tmp 4] Tryz.call151 Tryz.func151 ?_;refine af (S As (nil ?_));refine ax fun k g=>?_;refine af (S Mv (S Mv (S BS (nil ?_))));refine cP b (fun l b=>?_) (fun l b=>?_)
 ·refine af (S As (nil ?_));exact rt b
 refine sk g ?_;clear g k;refine ax fun m i=>?_;refine af (S Mv (S Mv (S BS (nil ?_))));refine cP b (fun o b=>?_) (fun o b=>?_)
 ·refine af (S As (nil ?_));exact rt b
 refine sk i ?_;clear i m;refine af (S As (nil ?_));exact rt b
def rT (f:ag) (b:Int):Option Bs:=bif (decide (b<((f.a_.l.length:Nat):Int))) then((cI f.a_.l b).bind fun g=>some g) else(some ([]:Bs))
def lp (f:ag) (b:Int):Option Bs:=rT f b
theorem zc (a0:ag) (b:Int):lp a0 b=rT a0 b:=rfl
theorem Dt {g:ag}{i:Int}{r:Bs}(b:lp g i=some r) (H:ak) :AC Tryz.prog 152 [.agg (ag.c g),.d (.int .i64 i)] H fun v h'=>v=.a (.d (.str r))/\h'=H:=by
 unfold lp rT at b;refine AC.oW 15 [.tmp 4] Tryz.call152 Tryz.func152 ?_;refine af (S BX (S As (nil ?_)));refine ax fun k j=>?_;refine af (S Mv (S Fv (S Ld ?_)));refine sLen (f:=aI) (s:=g.a_) (TK rfl) rfl rfl rfl rfl fun o=>?_;refine S BI (nil ?_);refine cE b (fun l b=>?_) (fun l b=>?_)
 ·refine af (S Fv (S Ld (S Mv ?_)));obtain⟨p,m,b⟩:=qT rfl b;refine s0 (je (f:=aI) (TK rfl) rfl (TK rfl) rfl rfl rfl m) rfl ?_;refine S Ld (S As (nil ?_));exact rt b
 refine sk j ?_;clear j k;refine af (S As (nil ?_));exact rt b
def zd  (b:Int):Option Int:=some b
def rU (b:Int) (f:Int->Int->Option Int) (g:Int):Option Int:=(cA b (1:Int)).bind fun i=>f g i
def mH (g:ag) (f:ag) (i:ag->ag->Option Int):Nat->Int->Int->Option Int
 | 0,_,_=>none
 | j+1,k,b=>bif (decide (k=(0:Int))) then(bif ((decide (((g.aN.l.length:Nat):Int)<=b))||(decide (((f.aN.l.length:Nat):Int)<=b))) then((ov ((g.aN.l.length:Nat):Int) ((f.aN.l.length:Nat):Int)).bind fun o=>some o) else((lp g b).bind fun p=>(lp f b).bind fun q=>(qj p q).bind fun m=>bif (decide (m=(0:Int))) then((cI g.aN.l b).bind fun r=>(cI f.aN.l b).bind fun s=>(i r s).bind fun t=>rU b ((mH g f i j)) t) else(rU b ((mH g f i j)) m))) else(zd   k)
def rV (i:ag) (b:ag) (f:ag->ag->Option Int) (g:Int):Option Int:=mH i b f F0 g (0:Int)
def rW (f:ag) (b:ag) (g:ag->ag->Option Int) (i:Int):Option Int:=bif (decide (i=(0:Int))) then((qj f.bw b.bw).bind fun j=>rV f b g j) else(rV f b g i)
def iO:Nat->ag->ag->Option Int
 | 0,_,_=>none
 | n+1,f,b=>(ov f.ar b.ar).bind fun g=>bif (decide (g=(0:Int))) then((ov f.bx b.bx).bind fun i=>rW f b (iO n) i) else(rW f b (iO n) g)
def ze (n:Nat):Prop:=∀{a0:ag}{b:ag}   {r:Int},iO n a0 b=some r->∀(H:ak),AC Tryz.prog 119 [.agg (ag.c a0),.agg (ag.c b)] H fun v h'=>v=.a (.d (.int .i64 r))/\h'=H
theorem K0 (n:Nat) (t:ze (az:=az) n):ze (az:=az) (n+1):=by
 intro i g   r b H ;rw [iO] at b;refine AC.oW 70 [.tmp 4] Tryz.call119 Tryz.func119 ?_;refine af (S BX (S BX (S As (nil ?_))));refine af (S Fv (S Ld (S Fv (S Ld ?_))));obtain⟨u,v,b⟩:=bO b;refine Sc rfl rfl (zb v) ?_;refine S As (nil ?_);refine aP (TA 2 (TA 3 kN)) (fun(z:Int)=>[(5,.a (.d (.int .i64 z)))]) (fun z=>H) (fun z=>rW i g (iO n) z=some r) ?_ ?_
 ·intro am l;refine af (S Mv (S BI (nil ?_)));refine cE b (fun w b=>?_) (fun w b=>?_)
  ·refine region ?_;refine S Fv (S Ld (S Fv (S Ld ?_)));obtain⟨y,B,b⟩:=bO b;refine Sc rfl rfl (zb B) ?_;refine S As (nil ?_);exact l _ y wA b
  refine ah.skip ?_;exact l _ u wA b
 rintro C b;try dsimp only at b
 unfold rW at b;refine aP (TA 2 (TA 3 kN)) (fun(z:Int)=>[(5,.a (.d (.int .i64 z)))]) (fun z=>H) (fun z=>rV i g (iO n) z=some r) ?_ ?_
 ·intro an m;refine af (S Mv (S BI (nil ?_)));refine cE b (fun E b=>?_) (fun E b=>?_)
  ·refine region ?_;refine S Fv (S Ld (S Fv (S Ld ?_)));obtain⟨F,G,b⟩:=bO b;refine Sc rfl rfl (Ds G) ?_;refine S As (nil ?_);exact m _ F wA b
  refine ah.skip ?_;exact m _ C wA b
 rintro I b;try dsimp only at b
 unfold rV at b;refine aP kN (fun(z:Int)=>[(5,.a (.d (.int .i64 z)))]) (fun z=>H) (fun z=>zd z=some r) ?_ ?_
 ·intro ao J;refine af (S As (nil ?_));refine block ?_;refine bp (TA 2 (TA 3 kN)) (fun(z:Nat×Int×Int)=>[(5,.a (.d (.int .i64 z.2.1))),(6,.a (.d (.int .i64 z.2.2)))]) (fun z=>H) (fun z=>z.1) (fun z=>mH i g (iO n) z.1 z.2.1 z.2.2=some r) (F0,I,(0:Int)) b wA ?_;rintro ⟨j,K,L⟩ b ap M;try dsimp only at b
  cases j with
  | zero=>cases b
  | succ j =>
    rw [mH] at b;refine ax fun N o=>?_;refine af (S Mv (S BI (nil ?_)));refine cE b (fun O b=>?_) (fun O b=>?_)
    ·refine sk o ?_;clear o N;refine aP (TA 2 (TA 3 (TA 6 kN))) (fun(z:Int)=>[(5,.a (.d (.int .i64 z)))]) (fun z=>H) (fun z=>rU L ((mH i g (iO n) j)) z=some r) ?_ ?_
     ·intro ar p;refine block ?_;refine ax fun P q=>?_;refine af (S Mv (S Fv ?_));refine s0 (dH (TK rfl) rfl rfl (congrArg (fun x=>some (A.d x)) (ag.dB _))) rfl ?_;refine sLen (f:=ag.c) (s:=i.aN) (TK rfl) rfl rfl rfl rfl fun av=>?_;refine S BI (S Mv (G0 Mv (G0 Fv ?_)));refine gC rfl rfl (fun hC=>aL (k:=37) rfl (dH (TK rfl) rfl rfl (congrArg (fun x=>some (A.d x)) (ag.dB _)))) rfl ?_
      refine gC rfl rfl (fun hC=>aL (k:=38) rfl (b8 (f:=ag.c) (s:=g.aN) (TK rfl) rfl rfl rfl)) rfl ?_;refine G2 36 39 rfl rfl BI ?_;refine S PO (nil ?_);refine cE b (fun Q b=>?_) (fun Q b=>?_)
      ·refine af (S Fv ?_);refine s0 (dH (TK rfl) rfl rfl (congrArg (fun x=>some (A.d x)) (ag.dB _))) rfl ?_;refine sLen (f:=ag.c) (s:=i.aN) (TK rfl) rfl rfl rfl rfl fun aw=>?_;refine S Fv ?_;refine s0 (dH (TK rfl) rfl rfl (congrArg (fun x=>some (A.d x)) (ag.dB _))) rfl ?_;refine sLen (f:=ag.c) (s:=g.aN) (TK rfl) rfl rfl rfl rfl fun ay=>?_;obtain⟨aA,R,b⟩:=bO b
       refine Sc rfl rfl (zb R) ?_;refine S As (nil ?_);exact rt b
      refine sk q ?_;clear q P;refine ah.b5 (Sd Ld (Sd Mv ?_));obtain⟨aC,U,b⟩:=bO b;refine ct rfl rfl (Dt U) ?_;refine Sd Ld (Sd Mv ?_);obtain⟨aD,W,b⟩:=bO b;refine ct rfl rfl (Dt W) ?_;obtain⟨X,Y,b⟩:=bO b;refine ct rfl rfl (Ds Y) ?_;refine Sd As ?_;refine au.nil (by decide +kernel) ?_;refine af (S Mv (S BI (nil ?_)));refine cE b (fun Z b=>?_) (fun Z b=>?_)
      ·refine ah.draw rfl ?_;refine Sd Fv ?_;refine au.s0 (dH (TK rfl) rfl rfl (congrArg (fun x=>some (A.d x)) (ag.dB _))) rfl ?_;refine Sd Mv ?_;obtain⟨aE,aa,b⟩:=bO b;refine au.s0 (je (f:=ag.c) (TK rfl) rfl (TK rfl) rfl rfl rfl aa) rfl ?_;refine Sd Ld (Sd Fv ?_);refine au.s0 (dH (TK rfl) rfl rfl (congrArg (fun x=>some (A.d x)) (ag.dB _))) rfl ?_;refine Sd Mv ?_
       obtain⟨aF,ab,b⟩:=bO b;refine au.s0 (je (f:=ag.c) (TK rfl) rfl (TK rfl) rfl rfl rfl ab) rfl ?_;refine Sd Ld ?_;obtain⟨ad,ae,b⟩:=bO b;refine ct rfl rfl (t ae) ?_;refine Sd As ?_;refine au.nil (by decide +kernel) ?_;exact p _ ad wA b
      refine ah.skip ?_;exact p _ X wA b
     rintro ai b;try dsimp only at b
     unfold rU at b;refine region ?_;refine S Mv ?_;obtain⟨aj,al,b⟩:=bO b;refine s0 (eL rfl rfl al) rfl ?_;refine S As (nil ?_);exact M _ (j,ai,aj) wA b (nS _)
    refine ah.exit ?_;exact J _ K wA b
 rintro aG b;try dsimp only at b
 unfold zd at b;refine af (S Mv (S As (nil ?_)));exact rt b
theorem Du:∀(n:Nat),(ze (az:=az) n)
 | 0=>fun b=>by first|cases b|(rw [iO] at b; cases b)
 | n+1=>K0 n (Du n)
def zf (f:ag) (b:ag):Option Int:=iO F0 f b
theorem K_ {f b:ag}{r:Int}(g:zf f b=some r) (H:ak) :AC Tryz.prog 119 [.agg (ag.c f),.agg (ag.c b)] H fun v h'=>v=.a (.d (.int .i64 r))/\h'=H:=(Du F0) g H 
def ow (g:ag) (b:ag):Option Bool:=(zf g b).bind fun f=>some (decide (f=(0:Int)))
def uN (f:ag) (b:ag):Option Bool:=ow f b
theorem Dv (a0:ag) (b:ag):uN a0 b=ow a0 b:=rfl
theorem Dw {g f:ag}{r:Bool}(b:uN g f=some r) (H:ak) :AC Tryz.prog 79 [.agg (ag.c g),.agg (ag.c f)] H fun v h'=>v=.a (.d (.bool r))/\h'=H:=by
 unfold uN ow at b;refine AC.oW 9 [.tmp 4] Tryz.call79 Tryz.func79 ?_;refine af (S BX (S BX (S As (nil ?_))));refine af (S Ld (S Ld ?_));obtain⟨j,i,b⟩:=qT rfl b;refine Sc rfl rfl (K_ i) ?_;refine S BI (S As (nil ?_));exact rt b
def qk  :Option Bool:=some true
def ql (b:Nat) (f:Nat->Option Bool) :Option Bool:=f (b+1)
def qm (j:(Sl av)) (k:(Sl av)) (b:Nat) (m:Nat->Option Bool):Nat->Nat->Option Bool
 | 0,_=>none
 | o+1,f=>(j.l[b]?).bind fun p=>bif (decide (((f:Nat):Int)<((p.aF.l.length:Nat):Int))) then((j.l[b]?).bind fun q=>(q.aF.l[f]?).bind fun g=>(k.l[b]?).bind fun r=>(r.aF.l[f]?).bind fun i=>aU (!(!(g.aa==i.aa))) (j.l[b]?) av.zero fun s=>aU (!(!(g.aa==i.aa))) (s.aF.l[f]?) bz.zero fun t=>aU (!(!(g.aa==i.aa))) (k.l[b]?) av.zero fun u=>aU (!(!(g.aa==i.aa))) (u.aF.l[f]?) bz.zero fun v=>aU (!(!(g.aa==i.aa))) (uN t.eW v.eW) false fun w=>bif ((!(g.aa==i.aa))||(!w)) then(some false) else((qm j k b m o) (f+1))) else(ql b m )
def lq (f:(Sl av)) (g:(Sl av)) :Nat->Nat->Option Bool
 | 0,_=>none
 | k+1,b=>bif (decide (((b:Nat):Int)<((f.l.length:Nat):Int))) then((f.l[b]?).bind fun i=>(g.l[b]?).bind fun j=>aU (!(!(i.aa==j.aa))) (f.l[b]?) av.zero fun m=>aU (!(!(i.aa==j.aa))) (g.l[b]?) av.zero fun o=>bif ((!(i.aa==j.aa))||(!decide (((m.aF.l.length:Nat):Int)=((o.aF.l.length:Nat):Int)))) then(some false) else(qm f g b ((lq f g k)) (Option.elim (f.l[b]?) 1 (fun p=>p.aF.l.length+1)) 0)) else(qk   )
def uO (b:(Sl av)) (f:(Sl av)):Option Bool:=bif (!decide (((b.l.length:Nat):Int)=((f.l.length:Nat):Int))) then(some false) else(lq b f (b.l.length+1) 0)
theorem uP {i j:Sl av}{w0 E:Option Nat}{r:Bool}(b:uO i j=some r) (H:ak) :AC Tryz.prog 45 [.d (Sl.d 2 av.c w0 i),.d (Sl.d 2 av.c E j)] H fun v h'=>v=.a (.d (.bool r))/\h'=H:=by
 unfold uO at b;refine AC.oW 95 [.tmp 4] Tryz.call45 Tryz.func45 ?_;refine af (S As (nil ?_));refine ax fun F w=>?_;refine af (S Mv ?_);refine sLen (f:=av.c) (s:=i) (TK rfl) rfl rfl rfl rfl fun ap=>?_;refine S Mv ?_;refine sLen (f:=av.c) (s:=j) (TK rfl) rfl rfl rfl rfl fun ar=>?_;refine S BI (nil ?_);refine cE b (fun G b=>?_) (fun G b=>?_)
 ·refine af (S As (nil ?_));exact rt b
 refine sk w ?_;clear w F;refine aP kN (fun(z:Unit)=>[]) (fun z=>H) (fun z=>qk =some r) ?_ ?_
 ·intro aw I;refine af (S As (nil ?_));refine block ?_;refine bp (TA 0 (TA 1 kN)) (fun(z:Nat×Nat)=>[(5,.a (.d (.int .i64 ((z.2:Nat):Int))))]) (fun z=>H) (fun z=>z.1) (fun z=>lq i j z.1 z.2=some r) ((i.l.length+1),0) b wA ?_;rintro ⟨m,g⟩ b ay J;try dsimp only at b
  cases m with
  | zero=>cases b
  | succ m =>
    rw [lq] at b;refine ax fun K x=>?_;refine af (S Mv (S Mv ?_));refine sLen (f:=av.c) (s:=i) (TK rfl) rfl rfl rfl rfl fun az=>?_;refine S BI (nil ?_);refine cE b (fun p b=>?_) (fun p b=>?_)
    ·try dsimp only at p
     have aA:=oD p;refine sk x ?_;clear x K;refine aP (TA 0 (TA 1 (TA 5 kN))) (fun(z:Unit)=>[]) (fun z=>H) (fun z=>ql g ((lq i j m)) =some r) ?_ ?_
     ·intro aC L;refine block ?_;refine ax fun M y=>?_;refine ah.b5 (Sd Mv (Sd Mv ?_));obtain⟨aD,N,b⟩:=bO b;refine Sd (ix av.c g N) (Sd Fv (Sd Ld (Sd Mv (Sd Mv ?_))));obtain⟨aE,O,b⟩:=bO b;refine Sd (ix av.c g O) (Sd Fv (Sd Ld (Sd BS (Sd Mv (cD Mv (cD Mv ?_))))));obtain⟨P,Q,b⟩:=gO b;refine au.gC rfl rfl (fun hC=>aL (k:=30) rfl (aL (k:=31) rfl (dI (f:=av.c) (n:=g) (TK rfl) rfl (TK rfl) rfl rfl rfl (Q hC)))) rfl ?_
      refine cM 32 rfl Fv ?_;refine cM 33 rfl Ld ?_;refine au.gC rfl rfl (fun hC=>aL (k:=34) rfl (b8 (f:=bz.c) (s:=P.aF) (TK rfl) rfl rfl rfl)) rfl ?_;refine cD Mv (cD Mv ?_);obtain⟨R,U,b⟩:=gO b;refine au.gC rfl rfl (fun hC=>aL (k:=36) rfl (aL (k:=37) rfl (dI (f:=av.c) (n:=g) (TK rfl) rfl (TK rfl) rfl rfl rfl (U hC)))) rfl ?_;refine cM 38 rfl Fv ?_;refine cM 39 rfl Ld ?_
      refine au.gC rfl rfl (fun hC=>aL (k:=40) rfl (b8 (f:=bz.c) (s:=R.aF) (TK rfl) rfl rfl rfl)) rfl ?_;refine tu 35 41 rfl rfl BI ?_;refine Sd PO ?_;refine au.nil (by decide +kernel) ?_;refine cE b (fun W b=>?_) (fun W b=>?_)
      ·refine af (S As (nil ?_));exact rt b
      refine sk y ?_;clear y M;refine af (S As (nil ?_));refine block ?_;refine bp (TA 0 (TA 1 (TA 5 kN))) (fun(z:Nat×Nat)=>[(6,.a (.d (.int .i64 ((z.2:Nat):Int))))]) (fun z=>H) (fun z=>z.1) (fun z=>qm i j g ((lq i j m)) z.1 z.2=some r) ((Option.elim (i.l[g]?) 1 (fun q=>q.aF.l.length+1)),0) b wA ?_;rintro ⟨t,o⟩ b aG X;try dsimp only at b
      cases t with
      | zero=>cases b
      | succ t =>
        rw [qm] at b;refine ax fun Y B=>?_;refine af (S Mv (S Mv (S Mv ?_)));obtain⟨q,Z,b⟩:=bO b;refine S (ix av.c g Z) (S Fv (S Ld ?_));refine sLen (f:=bz.c) (s:=q.aF) (TK rfl) rfl rfl rfl rfl fun aH=>?_;refine S BI (nil ?_);refine cE b (fun u b=>?_) (fun u b=>?_)
        ·try dsimp only at u
         have aI:=oD u;refine sk B ?_;clear B Y;refine ax fun aa C=>?_;refine block ?_;refine ah.b5 (Sd Mv (Sd Mv ?_));obtain⟨aJ,ab,b⟩:=bO b;refine Sd (ix av.c g ab) (Sd Fv (Sd Ld (Sd Mv ?_)));obtain⟨aK,ad,b⟩:=bO b;refine Sd (ix bz.c o ad) (Sd Fv (Sd Ld (Sd Mv (Sd Mv ?_))));obtain⟨aM,ae,b⟩:=bO b;refine Sd (ix av.c g ae) (Sd Fv (Sd Ld (Sd Mv ?_)))
         obtain⟨aN,ag,b⟩:=bO b;refine Sd (ix bz.c o ag) (Sd Fv (Sd Ld (Sd BS (Sd Mv (cD Mv (cD Mv ?_))))));obtain⟨aO,ai,b⟩:=gO b;refine au.gC rfl rfl (fun hC=>aL (k:=74) rfl (aL (k:=75) rfl (dI (f:=av.c) (n:=g) (TK rfl) rfl (TK rfl) rfl rfl rfl (ai hC)))) rfl ?_;refine cM 76 rfl Fv ?_;refine cM 77 rfl Ld ?_;refine cD Mv ?_;obtain⟨aQ,aj,b⟩:=gO b;refine au.gC rfl rfl (fun hC=>aL (k:=78) rfl (aL (k:=79) rfl (dI (f:=bz.c) (n:=o) (TK rfl) rfl (TK rfl) rfl rfl rfl (aj hC)))) rfl ?_
         refine cM 80 rfl Fv ?_;refine cM 81 rfl Ld ?_;refine cD Mv (cD Mv ?_);obtain⟨aR,al,b⟩:=gO b;refine au.gC rfl rfl (fun hC=>aL (k:=83) rfl (aL (k:=84) rfl (dI (f:=av.c) (n:=g) (TK rfl) rfl (TK rfl) rfl rfl rfl (al hC)))) rfl ?_;refine cM 85 rfl Fv ?_;refine cM 86 rfl Ld ?_;refine cD Mv ?_;obtain⟨aS,am,b⟩:=gO b;refine au.gC rfl rfl (fun hC=>aL (k:=87) rfl (aL (k:=88) rfl (dI (f:=bz.c) (n:=o) (TK rfl) rfl (TK rfl) rfl rfl rfl (am hC)))) rfl ?_
         refine cM 89 rfl Fv ?_;refine cM 90 rfl Ld ?_;obtain⟨aT,an,b⟩:=gO b;refine pe 82 91 rfl rfl rfl rfl rfl rfl (fun hC=>Dw (an hC)) ?_;refine cM 92 rfl NB ?_;refine Sd PO ?_;refine au.nil (by decide +kernel) ?_;refine cE b (fun ao b=>?_) (fun ao b=>?_)
         ·refine af (S As (nil ?_));exact rt b
         refine sk C ?_;clear C aa;refine region ?_;refine S Mv ?_;refine SI ?_;refine S As (nil ?_);exact X _ (t,(o+1)) wA b (nS _)
        refine ah.exit ?_;exact L _ () wA b
     rintro _ b;try dsimp only at b
     unfold ql at b;refine region ?_;refine S Mv ?_;refine SI ?_;refine S As (nil ?_);exact J _ (m,(g+1)) wA b (nS _)
    refine ah.exit ?_;exact I _ () wA b
 rintro _ b;try dsimp only at b
 unfold qk at b;refine af (S As (nil ?_));exact rt b
def ox (i:(Sl av)) (j:Nat) (k:av):List bz->Nat->Option (Unit ⊕ Bool)
 | [],g=>some (Sum.inl ())
 | m::o,g=>on (k) fun v=>on (m) fun b=>(i.l[j]?).bind fun p=>(p.aF.l[g]?).bind fun f=>on (bif !(!(b.aa==f.aa)) then k else av.zero) fun q=>aU (!(!(b.aa==f.aa))) (q.aF.l[g]?) bz.zero fun r=>aU (!(!(b.aa==f.aa))) (i.l[j]?) av.zero fun s=>aU (!(!(b.aa==f.aa))) (s.aF.l[g]?) bz.zero fun t=>aU (!(!(b.aa==f.aa))) (ow r.eW t.eW) false fun u=>bif ((!(b.aa==f.aa))||(!u)) then(some (Sum.inr false)) else(ox i j k (o) (g+1) )
theorem La {r o:Sl av}{i:Nat}{p:Nat->Option Bool}{j:av}(k:r.l[i]?=some j) (m:(Unit ⊕ Bool)->Option Bool) (s:∀(f:Nat) (b:Nat),ql i p =m (Sum.inl ())) (t:∀e:Bool,some e=m (Sum.inr e)):∀(f:Nat) (b:Nat),(0<f/\j.aF.l.length<b+f)->qm r o i p f b=Option.bind (ox o i j (j.aF.l.drop b) b ) m:=by
 intro f;induction f with
 | zero=>intro b hn; exact absurd hn.1 (by omega)
 | succ f u =>
  intro b hn;rw [qm];refine Q.preB k fun v w=>?_;subst w;by_cases aT:b<v.aF.l.length
  ·obtain⟨x,g⟩:=Qa aT;rw [Q.gq g,ox];refine QT aT ?_;refine Q.e9 k fun y q=>?_;refine Q.e9 (by first|exact g|(simp only [q]; exact g)|(simp only [q] at g ⊢; exact g)) fun z B=>?_;refine Q.jh rfl fun C=>?_;refine Q.jh rfl fun E=>?_;refine Q.vW k fun F G=>?_;refine Q.nK rfl fun H=>?_;refine Q.nK rfl fun I=>?_
   refine Q.nK rfl fun J=>?_;refine Q.nK (Dv _ _) fun K=>?_;refine Q.ir ?_ ?_
   ·all_goals exact t _
   all_goals exact u _ ⟨by omega,by omega⟩
  rw [dL (by omega),ox];refine QF aT ?_;exact s f b
def oy (f:(Sl av)):List av->Nat->Option (Unit ⊕ Bool)
 | [],b=>some (Sum.inl ())
 | g::k,b=>on (g) fun i=>(f.l[b]?).bind fun j=>on (bif !(!(i.aa==j.aa)) then g else av.zero) fun m=>aU (!(!(i.aa==j.aa))) (f.l[b]?) av.zero fun o=>bif ((!(i.aa==j.aa))||(!decide (((m.aF.l.length:Nat):Int)=((o.aF.l.length:Nat):Int)))) then(some (Sum.inr false)) else(Option.bind (ox f b g g.aF.l 0 ) fun p=>match p with|Sum.inl _=>(on (()) fun _=>oy f (k) (b+1) )|Sum.inr q=>(some (Sum.inr q)))
theorem Lb {i j:Sl av}(k:(Unit ⊕ Bool)->Option Bool) (p:∀(f:Nat) (b:Nat),qk   =k (Sum.inl ())) (m:∀e:Bool,some e=k (Sum.inr e)):∀(f:Nat) (b:Nat),(0<f/\i.l.length<b+f)->lq i j f b=Option.bind (oy j (i.l.drop b) b ) k:=by
 intro f;induction f with
 | zero=>intro b hn; exact absurd hn.1 (by omega)
 | succ f q =>
  intro b hn;rw [lq];by_cases aT:b<i.l.length
  ·obtain⟨v,g⟩:=Qa aT;rw [Q.gq g,oy];refine QT aT ?_;refine Q.e9 g fun w x=>?_;refine Q.jh rfl fun y=>?_;refine Q.vW g fun z B=>?_;refine Q.nK rfl fun C=>?_;refine Q.ir ?_ ?_
   ·all_goals exact m _
   refine Q.iu fun r o=>?_;refine La g r ?_ ?_ _ _ ⟨by rw [g]; exact Nat.succ_pos _,by rw [g]; simp only [Option.elim]; omega⟩
   ·intro E F;refine Qe (o _) ?_;try dsimp only
    refine Q.jQ fun s t=>?_;have u:ql b (lq i j f) =s ():=by
     refine Qe (t _) ?_;unfold ql;all_goals exact q _ ⟨by omega,by omega⟩
    all_goals exact u
   intro G;refine Qe (o _) ?_;try dsimp only
   all_goals exact m _
  rw [dL (by omega),oy];refine QF aT ?_;exact p f b
def mI (f:(Sl av)) (b:(Sl av)):Option Bool:=bif (!decide (((f.l.length:Nat):Int)=((b.l.length:Nat):Int))) then(some false) else(Option.bind (oy b f.l 0 ) fun g=>match g with|Sum.inl _=>(on (()) fun _=>some true)|Sum.inr i=>(some i))
theorem uQ (a0:(Sl av)) (b:(Sl av)):uO a0 b=mI a0 b:=by
 unfold uO mI;refine Qs ?_;refine Q.ir ?_ ?_
 ·all_goals rfl
 refine Q.iu fun g f=>?_;refine Lb  g ?_ ?_ _ _ ⟨Nat.succ_pos _,by omega⟩
 ·intro l m;refine Qe (f _) ?_;try dsimp only
  refine Q.jQ fun i j=>?_;have k:qk  =i ():=by
   refine Qe (j _) ?_;unfold qk;all_goals rfl
  all_goals exact k
 intro o;refine Qe (f _) ?_;try dsimp only
 all_goals rfl
def mJ (j:(Sl Z8)):List Z8->Nat->Option (Unit ⊕ Bool)
 | [],g=>some (Sum.inl ())
 | m::o,g=>on (m) fun b=>(j.l[g]?).bind fun f=>aU (!(!(b.aa==f.aa))) (jV b.aA f.aA) false fun i=>aU (!(((!(b.aa==f.aa))||(!i))||(!(b.cT==f.cT)))) (ow b.dD f.dD) false fun k=>aU (!((((!(b.aa==f.aa))||(!i))||(!(b.cT==f.cT)))||(!k))) (mI b.bh f.bh) false fun p=>bif (((((!(b.aa==f.aa))||(!i))||(!(b.cT==f.cT)))||(!k))||(!p)) then(some (Sum.inr false)) else(mJ j (o) (g+1) )
def lu (f:(Sl Z8)) (b:(Sl Z8)):Option Bool:=bif (!decide (((f.l.length:Nat):Int)=((b.l.length:Nat):Int))) then(some false) else(Option.bind (mJ b f.l 0 ) fun g=>match g with|Sum.inl _=>(on (()) fun _=>some true)|Sum.inr i=>(some i))
def zg (f:(Sl Z8)) (b:(Sl Z8)):Option Bool:=lu f b
theorem Dx (a0:(Sl Z8)) (b:(Sl Z8)):zg a0 b=lu a0 b:=rfl
theorem Dy {g i:Sl Z8}{w0 x:Option Nat}{r:Bool}(b:zg g i=some r) (H:ak) :AC Tryz.prog 47 [.d (Sl.d 10 Z8.c w0 g),.d (Sl.d 10 Z8.c x i)] H fun v h'=>v=.a (.d (.bool r))/\h'=H:=by
 unfold zg lu at b;refine AC.oW 63 [.tmp 4] Tryz.call47 Tryz.func47 ?_;refine af (S As (nil ?_));refine ax fun y o=>?_;refine af (S Mv ?_);refine sLen (f:=Z8.c) (s:=g) (TK rfl) rfl rfl rfl rfl fun P=>?_;refine S Mv ?_;refine sLen (f:=Z8.c) (s:=i) (TK rfl) rfl rfl rfl rfl fun Q=>?_;refine S BI (nil ?_);refine cE b (fun B b=>?_) (fun B b=>?_)
 ·refine af (S As (nil ?_));exact rt b
 refine sk o ?_;clear o y;refine aP kN (fun(z:Unit)=>[]) (fun z=>H) (fun z=>(some true)=some r) ?_ ?_
 ·intro R C;refine af (S As (nil ?_));refine block ?_;obtain⟨p,q,b⟩:=bY b;refine bp (TA 0 (TA 1 kN)) (fun(z:Nat)=>[(5,.a (.d (.int .i64 ((z:Nat):Int))))]) (fun z=>H) (fun z=>g.l.length-z) (fun z=>Option.bind (mJ i (g.l.drop z) z ) p=some r) 0 b wA ?_;rintro j b U E;try dsimp only at b
  refine ax fun F t=>?_;refine af (S Mv (S Mv ?_));refine sLen (f:=Z8.c) (s:=g) (TK rfl) rfl rfl rfl rfl fun W=>?_;refine S BI (nil ?_);refine ah.bK (fun l=>Option.bind (mJ i l j ) p=some r) b rfl (fun X u m b=>?_) (fun m b=>?_)
  ·rw [mJ] at b;try dsimp only at m
   have Y:=oD m;refine sk t ?_;clear t F;refine ax fun G w=>?_;refine block ?_;refine ah.b5 (Sd Mv (Sd Mv ?_));obtain⟨Z,I,b⟩:=vO u b;refine Sd (ix Z8.c j I) (Sd Ld (Sd Mv (Sd Mv ?_)));obtain⟨aa,J,b⟩:=qO rfl b;refine Sd (ix Z8.c j J) (Sd Ld ?_);refine au.sB (TK rfl) rfl rfl ?_ (by repeat (first|exact bN.nil|apply bN.cons));refine au.sB (TK rfl) rfl rfl ?_ (by repeat (first|exact bN.nil|apply bN.cons))
   refine au.dA (eA (TK rfl) rfl rfl rfl rfl rfl) ?_;refine au.dA (eA (TK rfl) rfl rfl rfl rfl rfl) ?_;refine au.nil (by decide +kernel) ?_;refine bA 7 _ rfl (KA 0 (KA 1 (KA 5 (KA 6 aY.nil)))) ?_;refine bA 6 _ rfl (KA 0 (KA 1 (KA 5 (KA 7 aY.nil)))) ?_;refine af (S Fv (S Ld (S Fv (S Ld (S BS (S Mv (G0 Fv ?_)))))));refine G1 33 rfl Ld ?_;refine G0 Fv ?_;refine G1 35 rfl Ld ?_
   obtain⟨ab,K,b⟩:=eC (wN _ _) b;refine fu 34 36 rfl rfl rfl rfl rfl rfl (fun hC=>wO (K hC)) ?_;refine G1 37 rfl NB ?_;refine S PO (S Mv (G0 Fv ?_));refine G1 41 rfl Ld ?_;refine G0 Fv ?_;refine G1 43 rfl Ld ?_;refine gC rfl rfl (fun hC=>aL (k:=42) rfl (aL (k:=44) rfl (GK (TK rfl) rfl rfl rfl))) rfl ?_;refine S PO (S Mv (G0 Fv ?_));refine G1 48 rfl Ld ?_;refine G0 Fv ?_
   refine G1 50 rfl Ld ?_;obtain⟨ad,L,b⟩:=eC (Dv _ _) b;refine fu 49 51 rfl rfl rfl rfl rfl rfl (fun hC=>Dw (L hC)) ?_;refine G1 52 rfl NB ?_;refine S PO (S Mv (G0 Fv ?_));refine G1 56 rfl Ld ?_;refine G0 Fv ?_;refine G1 58 rfl Ld ?_;obtain⟨ae,M,b⟩:=eC (uQ _ _) b;refine fu 57 59 rfl rfl rfl rfl rfl rfl (fun hC=>uP (M hC)) ?_;refine G1 60 rfl NB ?_;refine S PO (nil ?_)
   refine cO b (fun N b=>?_) (fun N b=>?_)
   ·refine af (S As (nil ?_));refine ah.ret ?_;repeat (first|refine bE ?_|refine bF ?_)
    have b:=ku q b;obtain rfl:=oJ b;refine bn.bG H rfl ⟨rfl,rfl⟩ ?_;exact(fun _ _ h=>h)
   refine sk w ?_;clear w G;refine region ?_;refine S Mv ?_;refine SI ?_;refine S As (nil ?_);exact E _ (j+1) wA b (dl u)
  rw [mJ] at b;have b:=ku q b;try dsimp only at b
  refine ah.exit ?_;obtain⟨ag,O,b⟩:=bT b;have b:=ku O b;exact C _ () wA b
 rintro _ b;try dsimp only at b
 refine af (S As (nil ?_));exact rt b
def mK (j:ai):List Z7->Nat->Option (Unit ⊕ Bool)
 | [],g=>some (Sum.inl ())
 | m::o,g=>on (m) fun b=>(j.ay.l[g]?).bind fun f=>aU (!(!(b.aa==f.aa))) (jV b.aA f.aA) false fun i=>aU (!((!(b.aa==f.aa))||(!i))) (mI b.bh f.bh) false fun k=>aU (!(((!(b.aa==f.aa))||(!i))||(!k))) (lu b.aF f.aF) false fun p=>bif ((((!(b.aa==f.aa))||(!i))||(!k))||(!p)) then(some (Sum.inr false)) else(mK j (o) (g+1) )
def lz (i:ai):List Z9->Nat->Option (Unit ⊕ Bool)
 | [],b=>some (Sum.inl ())
 | j::k,b=>on (j) fun f=>(i.aJ.l[b]?).bind fun g=>on (bif !(!(f.aa==g.aa)) then j else Z9.zero) fun m=>aU (!(!(f.aa==g.aa))) (i.aJ.l[b]?) Z9.zero fun o=>aU (!(!(f.aa==g.aa))) (mI m.bh o.bh) false fun p=>bif ((!(f.aa==g.aa))||(!p)) then(some (Sum.inr false)) else(lz i (k) (b+1) )
def qn (f:ai) (b:ai):Option Bool:=aU (!((!decide (f.ar=b.ar))||(!(f.aa==b.aa)))) (qi f.aW b.aW) false fun g=>aU (!(((!decide (f.ar=b.ar))||(!(f.aa==b.aa)))||(!g))) (mI f.bh b.bh) false fun i=>bif ((((((!decide (f.ar=b.ar))||(!(f.aa==b.aa)))||(!g))||(!i))||(!decide (((f.ay.l.length:Nat):Int)=((b.ay.l.length:Nat):Int))))||(!decide (((f.aJ.l.length:Nat):Int)=((b.aJ.l.length:Nat):Int)))) then(some false) else(Option.bind (mK b f.ay.l 0 ) fun j=>match j with|Sum.inl _=>(on (()) fun _=>Option.bind (lz b f.aJ.l 0 ) fun k=>match k with|Sum.inl _=>(on (()) fun _=>(lu f.aM b.aM).bind fun m=>some m)|Sum.inr o=>(some o))|Sum.inr p=>(some p))
def zh (f:ai) (b:ai):Option Bool:=qn f b
theorem Lc (a0:ai) (b:ai):zh a0 b=qn a0 b:=rfl
theorem Lf {g i:ai}{r:Bool}(b:zh g i=some r) (H:ak) :AC Tryz.prog 20 [.agg (ai.c g),.agg (ai.c i)] H fun v h'=>v=.a (.d (.bool r))/\h'=H:=by
 unfold zh qn at b;refine AC.oW 142 [.tmp 4] Tryz.call20 Tryz.func20 ?_;refine af (S BX (S BX (S As (nil ?_))));refine ax fun J u=>?_;refine af (S Fv (S Ld (S Fv (S Ld (S BI (S Mv (G0 Fv ?_)))))));refine G1 15 rfl Ld ?_;refine G0 Fv ?_;refine G1 17 rfl Ld ?_;refine G2 16 18 rfl rfl BS ?_;refine S PO (S Mv (G0 Fv ?_));refine G1 22 rfl Ld ?_;refine G0 Fv ?_;refine G1 24 rfl Ld ?_;obtain⟨aA,K,b⟩:=dR (KW _ _) b
 refine fu 23 25 rfl rfl rfl rfl rfl rfl (fun hC=>KX (K hC)) ?_;refine G1 26 rfl NB ?_;refine S PO (S Mv (G0 Fv ?_));refine G1 30 rfl Ld ?_;refine G0 Fv ?_;refine G1 32 rfl Ld ?_;obtain⟨aC,L,b⟩:=dR (uQ _ _) b;refine fu 31 33 rfl rfl rfl rfl rfl rfl (fun hC=>uP (L hC)) ?_;refine G1 34 rfl NB ?_;refine S PO (S Mv (G0 Fv ?_));refine G1 38 rfl Ld ?_;refine gC rfl rfl (fun hC=>aL (k:=39) rfl (b8 (f:=Z7.c) (s:=g.ay) (TK rfl) rfl rfl rfl)) rfl ?_
 refine G0 Fv ?_;refine G1 41 rfl Ld ?_;refine gC rfl rfl (fun hC=>aL (k:=42) rfl (b8 (f:=Z7.c) (s:=i.ay) (TK rfl) rfl rfl rfl)) rfl ?_;refine G2 40 43 rfl rfl BI ?_;refine S PO (S Mv (G0 Fv ?_));refine G1 47 rfl Ld ?_;refine gC rfl rfl (fun hC=>aL (k:=48) rfl (b8 (f:=Z9.c) (s:=g.aJ) (TK rfl) rfl rfl rfl)) rfl ?_;refine G0 Fv ?_;refine G1 50 rfl Ld ?_;refine gC rfl rfl (fun hC=>aL (k:=51) rfl (b8 (f:=Z9.c) (s:=i.aJ) (TK rfl) rfl rfl rfl)) rfl ?_
 refine G2 49 52 rfl rfl BI ?_;refine S PO (nil ?_);refine cE b (fun M b=>?_) (fun M b=>?_)
 ·refine af (S As (nil ?_));exact rt b
 refine sk u ?_;clear u J;refine aP (TA 2 (TA 3 kN)) (fun(z:Unit)=>[]) (fun z=>H) (fun z=>(Option.bind (lz i g.aJ.l 0 ) fun N=>match N with|Sum.inl _=>(on (()) fun _=>(lu g.aM i.aM).bind fun m=>some m)|Sum.inr O=>(some O))=some r) ?_ ?_
 ·intro aD P;refine af (S As (nil ?_));refine block ?_;obtain⟨w,x,b⟩:=bY b;refine bp (TA 2 (TA 3 kN)) (fun(z:Nat)=>[(5,.a (.d (.int .i64 ((z:Nat):Int))))]) (fun z=>H) (fun z=>g.ay.l.length-z) (fun z=>Option.bind (mK i (g.ay.l.drop z) z ) w=some r) 0 b wA ?_;rintro o b aE Q;try dsimp only at b
  refine ax fun R y=>?_;refine af (S Mv (S Fv (S Ld ?_)));refine sLen (f:=Z7.c) (s:=g.ay) (TK rfl) rfl rfl rfl rfl fun aF=>?_;refine S BI (nil ?_);refine ah.bK (fun l=>Option.bind (mK i l o ) w=some r) b rfl (fun aG B p b=>?_) (fun p b=>?_)
  ·rw [mK] at b;try dsimp only at p
   have aH:=oD p;refine sk y ?_;clear y R;refine ax fun U C=>?_;refine block ?_;refine ah.b5 (Sd Fv (Sd Ld (Sd Mv ?_)));obtain⟨aI,W,b⟩:=vO B b;refine Sd (ix Z7.c o W) (Sd Ld (Sd Fv (Sd Ld (Sd Mv ?_))));obtain⟨aK,X,b⟩:=qO rfl b;refine Sd (ix Z7.c o X) (Sd Ld ?_);refine au.sB (TK rfl) rfl rfl ?_ (by repeat (first|exact bN.nil|apply bN.cons))
   refine au.sB (TK rfl) rfl rfl ?_ (by repeat (first|exact bN.nil|apply bN.cons));refine au.dA (eA (TK rfl) rfl rfl rfl rfl rfl) ?_;refine au.dA (eA (TK rfl) rfl rfl rfl rfl rfl) ?_;refine au.nil (by decide +kernel) ?_;refine bA 7 _ rfl (KA 2 (KA 3 (KA 5 (KA 6 aY.nil)))) ?_;refine bA 6 _ rfl (KA 2 (KA 3 (KA 5 (KA 7 aY.nil)))) ?_;refine af (S Fv (S Ld (S Fv (S Ld (S BS (S Mv (G0 Fv ?_)))))))
   refine G1 78 rfl Ld ?_;refine G0 Fv ?_;refine G1 80 rfl Ld ?_;obtain⟨aN,Y,b⟩:=eC (wN _ _) b;refine fu 79 81 rfl rfl rfl rfl rfl rfl (fun hC=>wO (Y hC)) ?_;refine G1 82 rfl NB ?_;refine S PO (S Mv (G0 Fv ?_));refine G1 86 rfl Ld ?_;refine G0 Fv ?_;refine G1 88 rfl Ld ?_;obtain⟨aO,Z,b⟩:=eC (uQ _ _) b;refine fu 87 89 rfl rfl rfl rfl rfl rfl (fun hC=>uP (Z hC)) ?_
   refine G1 90 rfl NB ?_;refine S PO (S Mv (G0 Fv ?_));refine G1 94 rfl Ld ?_;refine G0 Fv ?_;refine G1 96 rfl Ld ?_;obtain⟨aQ,aa,b⟩:=eC (Dx _ _) b;refine fu 95 97 rfl rfl rfl rfl rfl rfl (fun hC=>Dy (aa hC)) ?_;refine G1 98 rfl NB ?_;refine S PO (nil ?_);refine cO b (fun ab b=>?_) (fun ab b=>?_)
   ·refine af (S As (nil ?_));refine ah.ret ?_;repeat (first|refine bE ?_|refine bF ?_)
    have b:=ku x b;obtain rfl:=oJ b;refine bn.bG H rfl ⟨rfl,rfl⟩ ?_;exact(fun _ _ h=>h)
   refine sk C ?_;clear C U;refine region ?_;refine S Mv ?_;refine SI ?_;refine S As (nil ?_);exact Q _ (o+1) wA b (dl B)
  rw [mK] at b;have b:=ku x b;try dsimp only at b
  refine ah.exit ?_;obtain⟨aR,ad,b⟩:=bT b;have b:=ku ad b;exact P _ () wA b
 rintro _ b;try dsimp only at b
 refine aP (TA 2 (TA 3 kN)) (fun(z:Unit)=>[]) (fun z=>H) (fun z=>((lu g.aM i.aM).bind fun m=>some m)=some r) ?_ ?_
 ·intro aS ae;refine af (S As (nil ?_));refine block ?_;obtain⟨E,F,b⟩:=bY b;refine bp (TA 2 (TA 3 kN)) (fun(z:Nat)=>[(8,.a (.d (.int .i64 ((z:Nat):Int))))]) (fun z=>H) (fun z=>g.aJ.l.length-z) (fun z=>Option.bind (lz i (g.aJ.l.drop z) z ) E=some r) 0 b wA ?_;rintro j b aT ag;try dsimp only at b
  refine ax fun aj G=>?_;refine af (S Mv (S Fv (S Ld ?_)));refine sLen (f:=Z9.c) (s:=g.aJ) (TK rfl) rfl rfl rfl rfl fun aU=>?_;refine S BI (nil ?_);refine ah.bK (fun l=>Option.bind (lz i l j ) E=some r) b rfl (fun aV q t b=>?_) (fun t b=>?_)
  ·rw [lz] at b;try dsimp only at t
   have aW:=oD t;refine sk G ?_;clear G aj;refine ax fun al I=>?_;refine block ?_;refine ah.b5 (Sd Fv (Sd Ld (Sd Mv ?_)));obtain⟨aX,am,b⟩:=vO q b;refine Sd (ix Z9.c j am) (Sd Fv (Sd Ld (Sd Fv (Sd Ld (Sd Mv ?_)))));obtain⟨aZ,an,b⟩:=qO rfl b;refine Sd (ix Z9.c j an) (Sd Fv (Sd Ld (Sd BS (Sd Mv (cD Fv ?_)))));refine cM 122 rfl Ld ?_;refine cD Mv ?_
   obtain⟨a0,ao,b⟩:=eB (fun _=>q) b;refine au.gC rfl rfl (fun hC=>aL (k:=123) rfl (aL (k:=124) rfl (dI (f:=Z9.c) (n:=j) (TK rfl) rfl (TK rfl) rfl rfl rfl (ao hC)))) rfl ?_;refine cM 125 rfl Fv ?_;refine cM 126 rfl Ld ?_;refine cD Fv ?_;refine cM 128 rfl Ld ?_;refine cD Mv ?_;obtain⟨a1,ap,b⟩:=eC rfl b;refine au.gC rfl rfl (fun hC=>aL (k:=129) rfl (aL (k:=130) rfl (dI (f:=Z9.c) (n:=j) (TK rfl) rfl (TK rfl) rfl rfl rfl (ap hC)))) rfl ?_
   refine cM 131 rfl Fv ?_;refine cM 132 rfl Ld ?_;obtain⟨a2,ar,b⟩:=eC (uQ _ _) b;refine pe 127 133 rfl rfl rfl rfl rfl rfl (fun hC=>uP (ar hC)) ?_;refine cM 134 rfl NB ?_;refine Sd PO ?_;refine au.nil (by decide +kernel) ?_;refine cO b (fun av b=>?_) (fun av b=>?_)
   ·refine af (S As (nil ?_));refine ah.ret ?_;repeat (first|refine bE ?_|refine bF ?_)
    have b:=ku F b;obtain rfl:=oJ b;refine bn.bG H rfl ⟨rfl,rfl⟩ ?_;exact(fun _ _ h=>h)
   refine sk I ?_;clear I al;refine region ?_;refine S Mv ?_;refine SI ?_;refine S As (nil ?_);exact ag _ (j+1) wA b (dl q)
  rw [lz] at b;have b:=ku F b;try dsimp only at b
  refine ah.exit ?_;obtain⟨a3,aw,b⟩:=bT b;have b:=ku aw b;exact ae _ () wA b
 rintro _ b;try dsimp only at b
 refine af (S Fv (S Ld (S Fv (S Ld ?_))));obtain⟨m,az,b⟩:=qT (Dx _ _) b;refine Sc rfl rfl (Dy az) ?_;refine S As (nil ?_);exact rt b
def mL (f:aj):List ai->Nat->Option (Unit ⊕ Bool)
 | [],b=>some (Sum.inl ())
 | g::i,b=>on (g) fun j=>(f.an.l[b]?).bind fun k=>(qn j k).bind fun m=>bif (!m) then(some (Sum.inr false)) else(mL f (i) (b+1) )
def lB (f:aj) (b:aj):Option Bool:=bif (!decide (((f.an.l.length:Nat):Int)=((b.an.l.length:Nat):Int))) then(some false) else(Option.bind (mL b f.an.l 0 ) fun g=>match g with|Sum.inl _=>(on (()) fun _=>some true)|Sum.inr i=>(some i))
def zi (f:aj) (b:aj):Option Bool:=lB f b
theorem Dz (a0:aj) (b:aj):zi a0 b=lB a0 b:=rfl
theorem DA {g i:aj}{r:Bool}(b:zi g i=some r) (H:ak) :AC Tryz.prog 8 [.agg (aj.c g),.agg (aj.c i)] H fun v h'=>v=.a (.d (.bool r))/\h'=H:=by
 unfold zi lB at b;refine AC.oW 32 [.tmp 4] Tryz.call8 Tryz.func8 ?_;refine af (S BX (S BX (S As (nil ?_))));refine ax fun w m=>?_;refine af (S Fv (S Ld ?_));refine sLen (f:=ai.c) (s:=g.an) (TK rfl) rfl rfl rfl rfl fun L=>?_;refine S Fv (S Ld ?_);refine sLen (f:=ai.c) (s:=i.an) (TK rfl) rfl rfl rfl rfl fun M=>?_;refine S BI (nil ?_);refine cE b (fun x b=>?_) (fun x b=>?_)
 ·refine af (S As (nil ?_));exact rt b
 refine sk m ?_;clear m w;refine aP kN (fun(z:Unit)=>[]) (fun z=>H) (fun z=>(some true)=some r) ?_ ?_
 ·intro N y;refine af (S As (nil ?_));refine block ?_;obtain⟨o,p,b⟩:=bY b;refine bp (TA 2 (TA 3 kN)) (fun(z:Nat)=>[(5,.a (.d (.int .i64 ((z:Nat):Int))))]) (fun z=>H) (fun z=>g.an.l.length-z) (fun z=>Option.bind (mL i (g.an.l.drop z) z ) o=some r) 0 b wA ?_;rintro j b O B;try dsimp only at b
  refine ax fun C q=>?_;refine af (S Mv (S Fv (S Ld ?_)));refine sLen (f:=ai.c) (s:=g.an) (TK rfl) rfl rfl rfl rfl fun P=>?_;refine S BI (nil ?_);refine ah.bK (fun l=>Option.bind (mL i l j ) o=some r) b rfl (fun Q t k b=>?_) (fun k b=>?_)
  ·rw [mL] at b;try dsimp only at k
   have R:=oD k;refine sk q ?_;clear q C;refine ax fun E u=>?_;refine block ?_;refine ah.b5 (Sd Fv (Sd Ld (Sd Mv ?_)));obtain⟨U,F,b⟩:=vO t b;refine Sd (ix ai.c j F) (Sd Ld (Sd Fv (Sd Ld (Sd Mv ?_))));obtain⟨W,G,b⟩:=qO rfl b;refine Sd (ix ai.c j G) (Sd Ld ?_);obtain⟨X,I,b⟩:=qO (Lc _ _) b;refine ct rfl rfl (Lf I) ?_
   refine Sd NB ?_;refine au.nil (by decide +kernel) ?_;refine cO b (fun J b=>?_) (fun J b=>?_)
   ·refine af (S As (nil ?_));refine ah.ret ?_;repeat (first|refine bE ?_|refine bF ?_)
    have b:=ku p b;obtain rfl:=oJ b;refine bn.bG H rfl ⟨rfl,rfl⟩ ?_;exact(fun _ _ h=>h)
   refine sk u ?_;clear u E;refine region ?_;refine S Mv ?_;refine SI ?_;refine S As (nil ?_);exact B _ (j+1) wA b (dl t)
  rw [mL] at b;have b:=ku p b;try dsimp only at b
  refine ah.exit ?_;obtain⟨Y,K,b⟩:=bT b;have b:=ku K b;exact y _ () wA b
 rintro _ b;try dsimp only at b
 refine af (S As (nil ?_));exact rt b
def lC (b:Bs):List Bs->Unit ⊕ Bool
 | []=>Sum.inl ()
 | f::g=>on (f) fun i=>bif ((i==b)) then(Sum.inr true) else(lC b (g) )
def oz (i:(Sl Bs)) (b:Bs):Bool:=on (lC b i.l ) fun f=>match f with|Sum.inl _=>(on (()) fun _=>false)|Sum.inr g=>(g)
def qo (f:(Sl Bs)) (b:Bs):Option Bool:=some (oz f b)
theorem zj (a0:(Sl Bs)) (b:Bs):qo a0 b=some (oz a0 b):=rfl
theorem zk {g:Sl Bs}{i:Bs}{w0:Option Nat}{r:Bool}(b:qo g i=some r) (H:ak) :AC Tryz.prog 26 [.d (Sl.d 1 aI w0 g),.d (.str i)] H fun v h'=>v=.a (.d (.bool r))/\h'=H:=by
 unfold qo oz at b;refine AC.oW 18 [.tmp 4] Tryz.call26 Tryz.func26 ?_;refine af (S As (nil ?_));refine aP kN (fun(z:Unit)=>[]) (fun z=>H) (fun z=>some (false)=some r) ?_ ?_
 ·intro F u;refine af (S As (nil ?_));refine block ?_;obtain⟨k,m,b⟩:=dU b;refine bp (TA 0 (TA 1 kN)) (fun(z:Nat)=>[(5,.a (.d (.int .i64 ((z:Nat):Int))))]) (fun z=>H) (fun z=>g.l.length-z) (fun z=>k (lC i (g.l.drop z) )=some r) 0 b wA ?_;rintro o b G w;try dsimp only at b
  refine ax fun x p=>?_;refine af (S Mv (S Mv ?_));refine sLen (f:=aI) (s:=g) (TK rfl) rfl rfl rfl rfl fun I=>?_;refine S BI (nil ?_);refine ah.bK (fun l=>k (lC i l )=some r) b rfl (fun J q j b=>?_) (fun j b=>?_)
  ·rw [lC] at b;try dsimp only at j
   have K:=oD j;refine sk p ?_;clear p x;refine ax fun y t=>?_;refine block ?_;refine af (S Mv (S Mv ?_));obtain⟨L,B,b⟩:=vP q b;refine S (ix aI o B) (S Ld (S Mv (S BS (nil ?_))));refine cP b (fun C b=>?_) (fun C b=>?_)
   ·refine af (S As (nil ?_));refine ah.ret ?_;repeat (first|refine bE ?_|refine bF ?_)
    have b:=ku m b;obtain rfl:=oJ b;refine bn.bG H rfl ⟨rfl,rfl⟩ ?_;exact(fun _ _ h=>h)
   refine sk t ?_;clear t y;refine region ?_;refine S Mv ?_;refine SI ?_;refine S As (nil ?_);exact w _ (o+1) wA b (dl q)
  rw [lC] at b;have b:=ku m b;try dsimp only at b
  refine ah.exit ?_;obtain⟨M,E,b⟩:=dU b;have b:=ku E b;exact u _ () wA b
 rintro _ b;try dsimp only at b
 refine af (S As (nil ?_));exact rt b
end Go.Proofs
