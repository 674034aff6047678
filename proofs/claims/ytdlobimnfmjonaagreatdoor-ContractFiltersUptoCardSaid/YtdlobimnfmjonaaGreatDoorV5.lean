import Derived.Test.YtdlobimnfmjonaaGreatDoorV4
set_option maxRecDepth 100000
set_option maxHeartbeats 2000000
set_option linter.unusedVariables false
set_option linter.unusedSimpArgs false
namespace Go.Proofs
open Go Go.Ab
open aJ aq ah dN fT
attribute [local irreducible] aJ aN ah aq
variable {av:bR}
def jI (m:ag) (p:Z4) (q:ag->ag->Z4->(List Bs)->Option (Bool×(List Bs))):List Z7->(List Bs)->Option (((List Bs)) ⊕ ((Bool×(List Bs))))
 | [],b=>some (Sum.inl b)
 | r::s,b=>on (r) fun f=>aY (!(!decide (((f.ax.aK.l.length:Nat):Int)=(1:Int)))) (f.ax.aK.l[0]?) (0:Int) fun t=>on (fun(u:(List Bs))=>jI m p q (s) u) fun j=>bif ((!decide (((f.ax.aK.l.length:Nat):Int)=(1:Int)))||(!decide (t=(1:Int)))) then(j b) else(bif ((f.ax.aa==m.aa)) then(some (Sum.inr (true,b))) else(on (fL p.Fd f.ax.aa) fun g=>bif ((g.2&&(decide (g.1.ak=(5:Int))))&&(!(b.contains g.1.aa))) then((q g.1 m p (cw b g.1.aa)).bind fun k=>bif k.1 then(some (Sum.inr (true,k.2))) else(j k.2)) else(j b)))
def kB:Nat->ag->ag->Z4->(List Bs)->Option (Bool×(List Bs))
 | 0,_,_,_,_=>none
 | n+1,a0,k,m,p=>Option.bind (jI k m (kB n) a0.ay.l p) fun b=>match b with|Sum.inl f=>(on (f) fun g=>some (false,g))|Sum.inr j=>(some j)
def FJ (n:Nat):Prop:=∀{a0:ag}{a1:ag}{a2:Z4}{a3:(List Bs)}{f:Option Nat}{c2:Nat}{c3:Nat}{b:Nat}{r:(Bool×(List Bs))},kB n a0 a1 a2 a3=some r->∀(H:af) (g:H c2=some (.cells (Z4.cg f a2))) (j:H c3=some (.map (bK a3))) (k:H b=some (.cells [.func 152 [.view (ag.c a1),.view [.ptr c2 0],.view [.map c3],.ptr b 0]])),AC Tryz.prog 152 [.agg (ag.c a0),.d (.view (ag.c a1)),.d (.view [.ptr c2 0]),.d (.view [.map c3]),.d (.ptr b 0)] H fun v h'=>v=.a (.d (.bool r.1))/\h'=(H.set c3 (some (.map (bK r.2))))
theorem We (n:Nat) (v:FJ (av:=av) n):FJ (av:=av) (n+1):=by
 intro a0 q s u X c2 c3 w r b H Y Z aa;rw [kB] at b;refine AC.oW 68 [.tmp 6] Tryz.call152 Tryz.func152 ?_;have ab:c3≠c2:=fun g=>by subst g; simp_all
 have ad:w≠c3:=fun g=>by subst g; simp_all
 refine hz (H.set c3 (some (.map (bK u)))) (Y4 ?_);refine aR kN (fun(z:(List Bs))=>[]) (fun z=>(H.set c3 (some (.map (bK z))))) (fun z=>(some (false,z))=some r) ?_ ?_
 ·intro ae y;refine Y3 ?_;refine aT Z7.c a0.ay fun ag=>Y3 ?_;obtain⟨j,k,b⟩:=bZ b;refine bD (tl [1,2,3,4,12,13]) (fun(z:Nat×(List Bs))=>[(14,vi z.1)]) (fun z=>(H.set c3 (some (.map (bK z.2))))) (fun z=>a0.ay.l.length-z.1) (fun z=>Option.bind (jI q s (kB n) (a0.ay.l.drop z.1) z.2) j=some r) (0,u) b wA ?_;rintro ⟨m,f⟩ b ai B;refine Y3 ?_
  refine ar fun aj C=>?_;refine ah.bL (fun l=>Option.bind (jI q s (kB n) l f) j=some r) b rfl (fun ak t E b=>?_) (fun E b=>?_)
  ·rw [jI] at b;refine sk C (aR (tl [1,2,3,4,12,13,14]) (fun(z:(List Bs))=>[]) (fun z=>(H.set c3 (some (.map (bK z))))) (fun z=>Option.bind (jI q s (kB n) (a0.ay.l.drop (m+1)) z) j=some r) ?_ ?_)
   ·intro al p;refine Y2 ?_;obtain⟨F,G,b⟩:=vO t b;refine S (ix Z7.c m G) (Y4 ?_);refine bx 8 _ rfl (kl [1,2,3,4,12,13,14]) ?_;refine ar fun am I=>Y4 ?_;refine aT (bI .i64) F.ax.aK fun an=>Y3 ?_;refine Gk 24 ?_;refine Gk 25 ?_;obtain⟨ao,J,b⟩:=e8 rfl b;refine bG 26 rfl (fun hC=>ix (bI .i64) 0 (J hC)) ?_;refine Gk 27 ?_;refine Gk 28 ?_;refine Y2 ?_
    obtain⟨_,rfl,b⟩:=mO b;refine cO b (fun K b=>?_) (fun K b=>?_)
    ·refine ah.exit ?_;exact p _ f wA b
    refine sk I (ar fun ap L=>Y8 ?_);refine cO b (fun M b=>?_) (fun M b=>?_)
    ·refine Y3 ?_;exact rs (ku k b:)
    refine sk L (Y8 ?_);obtain⟨au,N,b⟩:=vO rfl b;refine cH rfl rfl (oo N) (Y7 ?_);refine bx 9 _ rfl (kl [1,2,3,4,10,12,13,14]) ?_;refine Y4 ?_;refine Gk 50 ?_;refine Gk 51 ?_;refine Y4 ?_;refine Gk 56 ?_;refine e9 55 57 rfl rfl (fun hC=>uk (TK rfl) rfl (TK rfl) (TK rfl) rfl rfl rfl rfl aA) ?_;refine Gk 58 ?_;refine Y2 ?_;refine cO b (fun O b=>?_) (fun O b=>?_)
    ·refine Y4 ?_;refine dG (mapUpdate (TK rfl) rfl (TK rfl) rfl rfl rfl rfl aA (rK _ _) rfl) rfl rfl ?_;refine Y4 ?_;obtain⟨P,Q,b⟩:=qO rfl b;refine sH (bS rfl rfl (v Q _ aA aA aA)) rfl ?_;refine Y1 ?_;refine cO b (fun R b=>?_) (fun R b=>?_)
     ·refine Y3 ?_;exact rs (ku k b:)
     refine ah.skip ?_;exact p _ P.2 wA b
    refine ah.skip ?_;exact p _ f wA b
   rintro U b;refine Y4 ?_;exact B _ ((m+1),U) wA b (dl t)
  rw [jI] at b;have b:=ku k b;refine ah.exit ?_;obtain⟨aw,W,b⟩:=bW b;exact y _ f wA (ku W b:)
 rintro az b;refine Y3 ?_;exact rt b
theorem MG:∀(n:Nat),(FJ (av:=av) n)
 | 0=>fun b=>by first|cases b|(rw [kB] at b; cases b)
 | n+1=>We n (MG n)
def Wf (a0:ag) (b:ag) (f:Z4) (g:(List Bs)):Option (Bool×(List Bs)):=kB F0 a0 b f g
theorem Wg {a0 f g j k c2 c3 b r}(l:Wf a0 f g j=some r) (H:af) (m:H c2=some (.cells (Z4.cg k g))) (p:H c3=some (.map (bK j))) (q:H b=some (.cells [.func 152 [.view (ag.c f),.view [.ptr c2 0],.view [.map c3],.ptr b 0]])):AC Tryz.prog 152 [.agg (ag.c a0),.d (.view (ag.c f)),.d (.view [.ptr c2 0]),.d (.view [.map c3]),.d (.ptr b 0)] H fun v h'=>v=.a (.d (.bool r.1))/\h'=(H.set c3 (some (.map (bK r.2)))):=(MG F0) l H m p q
def Ef (a0:ag) (b:ag) (f:Z4) (g:(List Bs)):Option (Bool×(List Bs)):=kB F0 a0 b f g
def sO (a0:Z4) (b:ag):Option Bool:=(Ef b b a0 ([]:List Bs)).bind fun f=>some f.1
theorem Wh {a0 k u c0 r}(j:sO a0 k=some r) (H:af) (bX:H c0=some (.cells (Z4.cg u a0))):AC Tryz.prog 124 [.d (.ptr c0 0),.agg (ag.c k)] H (RT (.a (.d (.bool r))) H):=by
 unfold sO at j;refine AC.oW 12 [.tmp 4] Tryz.call124 Tryz.func124 ?_;refine Y6 ?_;refine sE dx.makeMap rfl (fun _ _ _ ⟨f,y,l,m,p⟩=>?_);subst l m p;have z:f≠c0:=fun b=>by subst b; simp_all
 refine Y3 ?_;refine bx 5 _ rfl (kl [2,3]) ?_;refine Y1 ?_;refine sE (dx.As (TK rfl) rfl) rfl (fun _ _ _ ⟨g,q,l,m,p⟩=>?_);subst l m p;obtain⟨B,q⟩:=af.dW q;have C:g≠c0:=fun b=>by subst b; simp_all
 refine Y2 ?_;refine s0 (makeFunc rfl) rfl ?_;refine dG (gv (TK rfl) rfl rfl aA rfl (by repeat (first|exact bn.zero|apply bn.succ))) rfl rfl ?_;refine hq ((H.set f (some (.map (bK ([]:List Bs))))).set g (some (.cells [.func 152 [.view (ag.c k),.view [.ptr c0 0],.view [.map f],.ptr g 0]]))) (Y4 ?_);obtain⟨v,w,j⟩:=qT rfl j
 refine sH (bS rfl rfl (Wg w _ aA aA aA)) rfl ?_;refine hq ((H.set f (some (.map (bK v.2)))).set g (some (.cells [.func 152 [.view (ag.c k),.view [.ptr c0 0],.view [.map f],.ptr g 0]]))) (Y2 ?_);refine ah.ret ?_;repeat (first|refine yc ?_|refine yd ?_)
 obtain rfl:=oJ j;refine bH.b9 H rfl ⟨rfl,rfl⟩ ?_;intro s E t;have F:s≠f:=fun b=>by subst b; simp_all [af.set]
 have G:s≠g:=fun b=>by subst b; simp_all [af.set]
 rw [<- t];simp only [af.set] at t ⊢;(repeat' split)<;>simp_all
def sP (a0:Z4) (b:Bs) (g:Bs) (j:(List Bs)):Option (Z4×(List Bs)):=(uJ b).bind fun f=>on (bif !(!f) then jW b else false) fun x3=>(f_ a0 ((!f)||x3) (6:Int) g).bind fun k=>(f_ k (j.contains b) (7:Int) g).bind fun l=>some (l,(cw j b))
theorem MH {a0 m q g c0 b c3 r}(f:sP a0 m q g=some r) (H:af) (bX:H c0=some (.cells (Z4.cg (some b) a0))) (y:H b=some (.tok 2 a0.bE.l.length)) (z:H c3=some (.map (bK g))):AC Tryz.prog 153 [.d (.ptr c0 0),.d (.str m),.d (.str q),.d (.map c3)] H fun v h'=>v=.cI []/\h'=(((tS H b 2 r.1.bE).set c0 (some (.cells (Z4.cg (some b) r.1)))).set c3 (some (.map (bK r.2)))):=by
 unfold sP at f;refine AC.oW 26 [] Tryz.call153 Tryz.func153 ?_;have B:c0≠b:=fun k=>by subst k; simp_all
 have C:c3≠b:=fun k=>by subst k; simp_all
 have E:c3≠c0:=fun k=>by subst k; simp_all
 refine hz (((tS H b 2 a0.bE).set c0 (some (.cells (Z4.cg (some b) a0)))).set c3 (some (.map (bK g)))) (Y3 ?_);obtain⟨F,s,f⟩:=qT rfl f;refine Sc rfl rfl (FH s) (Y3 ?_);obtain⟨x3,t,f⟩:=l7 (fun _=>rfl) f;refine dQ 13 rfl rfl rfl rfl rfl (fun hC=>FI (t hC)) ?_;refine Y2 ?_;obtain⟨p,u,f⟩:=qT rfl f;refine sH (bS rfl rfl (lR u _ aA aA)) rfl ?_
 refine hq (((tS H b 2 p.bE).set c0 (some (.cells (Z4.cg (some b) p)))).set c3 (some (.map (bK g)))) (Y5 ?_);refine s0 (uk (TK rfl) rfl (TK rfl) (TK rfl) rfl rfl rfl rfl aA) rfl ?_;refine Y1 ?_;obtain⟨j,w,f⟩:=qT rfl f;refine sH (bS rfl rfl (lR w _ aA aA)) rfl ?_
 refine hq (((tS H b 2 j.bE).set c0 (some (.cells (Z4.cg (some b) j)))).set c3 (some (.map (bK g)))) (Y4 ?_);refine dG (mapUpdate (TK rfl) rfl (TK rfl) rfl rfl rfl rfl aA (rK _ _) rfl) rfl rfl ?_;refine hq (((tS H b 2 j.bE).set c0 (some (.cells (Z4.cg (some b) j)))).set c3 (some (.map (bK (cw g m))))) (Y1 ?_)
 repeat (first|refine fW ?_|refine fV ?_|refine fU ?_)
 obtain rfl:=oJ f;refine bH.gm (((tS H b 2 j.bE).set c0 (some (.cells (Z4.cg (some b) j)))).set c3 (some (.map (bK (cw g m))))) (xs:=[]) rfl ⟨rfl,rfl⟩ ?_;exact(fun _ _ h=>h)
def pe (a0:ai) (b:Bs):Int:=on (fL a0 b) fun x3=>x3.1.ak
theorem FK {a0 f r}(b:some (pe a0 f)=some r) (H:af) :AC Tryz.prog 161 [.agg (ai.c a0),.d (.str f)] H (RT (.a (.d (.int .i64 r))) H):=by
 unfold pe at b;refine AC.oW 15 [.tmp 4] Tryz.call161 Tryz.func161 ?_;refine Y7 ?_;obtain⟨x3,g,b⟩:=vP rfl b;refine Sc rfl rfl (oo g) (Y7 ?_);refine bx 5 _ rfl dN.nil ?_;refine Y5 ?_;exact rt b
def qy (a0:ai) (b:Bs):Bool:=on (cW b) fun x3=>on (bif !x3 then pe a0 b else(0:Int)) fun f=>(x3||(decide (f=(4:Int))))
theorem Wi {a0 f r}(b:some (qy a0 f)=some r) (H:af) :AC Tryz.prog 160 [.agg (ai.c a0),.d (.str f)] H (RT (.a (.d (.bool r))) H):=by
 unfold qy at b;refine AC.oW 13 [.tmp 4] Tryz.call160 Tryz.func160 ?_;refine Y6 ?_;obtain⟨x3,g,b⟩:=vP rfl b;refine Sc rfl rfl (ve g) (Y3 ?_);obtain⟨k,j,b⟩:=jU (fun _=>rfl) b;refine fE 8 9 rfl rfl rfl rfl rfl rfl (fun hC=>FK (j hC)) ?_;refine Gk 10 ?_;refine Y3 ?_;exact rt b
def iQ (a0:ai) (b:Bs):Bool:=on (qy a0 b) fun x3=>on (bif !x3 then pe a0 b else(0:Int)) fun f=>(x3||(decide (f=(5:Int))))
theorem FL {a0 f r}(b:some (iQ a0 f)=some r) (H:af) :AC Tryz.prog 130 [.agg (ai.c a0),.d (.str f)] H (RT (.a (.d (.bool r))) H):=by
 unfold iQ at b;refine AC.oW 14 [.tmp 4] Tryz.call130 Tryz.func130 ?_;refine Y7 ?_;obtain⟨x3,g,b⟩:=vP rfl b;refine Sc rfl rfl (Wi g) (Y3 ?_);obtain⟨k,j,b⟩:=jU (fun _=>rfl) b;refine fE 9 10 rfl rfl rfl rfl rfl rfl (fun hC=>FK (j hC)) ?_;refine Gk 11 ?_;refine Y3 ?_;exact rt b
def sQ (a0:Z4) (b:Bs) (f:Bs) (s:Int):Option Z4:=on (fL a0.Fd b) fun g=>on (bif (!g.2) then cW b else false) fun k=>bif ((!g.2)&&(!k)) then((f_ a0 true (8:Int) f).bind fun l=>some l) else(bif (decide (s=(0:Int))) then(on (cW b) fun j=>on (bif (!j) then pe a0.Fd b else(0:Int)) fun m=>(f_ a0 ((!j)&&(decide (m=(5:Int)))) (10:Int) f).bind fun p=>some p) else(on (iQ a0.Fd b) fun q=>(f_ a0 (!q) (10:Int) f).bind fun r=>some r))
theorem MI {a0 m p q c0 f r}(b:sQ a0 m p q=some r) (H:af) (bX:H c0=some (.cells (Z4.cg (some f) a0))) (I:H f=some (.tok 2 a0.bE.l.length)):AC Tryz.prog 154 [.d (.ptr c0 0),.d (.str m),.d (.str p),.d (.int .i64 q)] H fun v h'=>v=.cI []/\h'=((tS H f 2 r.bE).set c0 (some (.cells (Z4.cg (some f) r)))):=by
 unfold sQ at b;refine AC.oW 58 [] Tryz.call154 Tryz.func154 ?_;have J:c0≠f:=fun s=>by subst s; simp_all
 refine hz ((tS H f 2 a0.bE).set c0 (some (.cells (Z4.cg (some f) a0)))) (Y6 ?_);obtain⟨K,t,b⟩:=vT rfl b;refine Sc rfl rfl (oo t) (Y7 ?_);refine bx 8 _ rfl (kl [0,1,2,3,9]) ?_;refine Y6 ?_;obtain⟨L,u,b⟩:=l7 (fun _=>rfl) b;refine dQ 33 rfl rfl rfl rfl rfl (fun hC=>ve (u hC)) ?_;refine Gk 34 ?_;refine Y3 ?_;refine cE b (fun w b=>?_) (fun w b=>?_)
 ·refine Y3 ?_;obtain⟨g,y,b⟩:=qT rfl b;refine sH (bS rfl rfl (lR y _ aA aA)) rfl ?_;refine hq ((tS H f 2 g.bE).set c0 (some (.cells (Z4.cg (some f) g)))) (Y1 ?_);repeat (first|refine fW ?_|refine fV ?_|refine fU ?_)
  obtain rfl:=oJ b;refine bH.gm ((tS H f 2 g.bE).set c0 (some (.cells (Z4.cg (some f) g)))) (xs:=[]) rfl ⟨rfl,rfl⟩ ?_;exact(fun _ _ h=>h)
 refine Y5 ?_;refine cE b (fun z b=>?_) (fun z b=>?_)
 ·refine Y3 ?_;obtain⟨M,B,b⟩:=vT rfl b;refine Sc rfl rfl (ve B) (Y3 ?_);refine Gk 48 ?_;refine bG 49 rfl (fun hC=>iD (TK rfl) rfl rfl (TK rfl) rfl rfl) ?_;refine bG 50 rfl (fun hC=>eM (TK rfl) rfl rfl aA rfl) ?_;refine Y1 ?_;obtain⟨N,C,b⟩:=l7 (fun _=>rfl) b;refine fE 51 52 rfl rfl rfl rfl rfl rfl (fun hC=>FK (C hC)) ?_;refine Gk 53 ?_;refine Y2 ?_;obtain⟨j,E,b⟩:=qT rfl b
  refine sH (bS rfl rfl (lR E _ aA aA)) rfl ?_;refine hq ((tS H f 2 j.bE).set c0 (some (.cells (Z4.cg (some f) j)))) (Y1 ?_);repeat (first|refine fW ?_|refine fV ?_|refine fU ?_)
  obtain rfl:=oJ b;refine bH.gm ((tS H f 2 j.bE).set c0 (some (.cells (Z4.cg (some f) j)))) (xs:=[]) rfl ⟨rfl,rfl⟩ ?_;exact(fun _ _ h=>h)
 refine Y7 ?_;obtain⟨O,F,b⟩:=vT rfl b;refine Sc rfl rfl (FL F) (Y2 ?_);obtain⟨k,G,b⟩:=qT rfl b;refine sH (bS rfl rfl (lR G _ aA aA)) rfl ?_;refine hq ((tS H f 2 k.bE).set c0 (some (.cells (Z4.cg (some f) k)))) (Y1 ?_);repeat (first|refine fW ?_|refine fV ?_|refine fU ?_)
 obtain rfl:=oJ b;refine bH.gm ((tS H f 2 k.bE).set c0 (some (.cells (Z4.cg (some f) k)))) (xs:=[]) rfl ⟨rfl,rfl⟩ ?_;exact(fun _ _ h=>h)
def nD (l:Bs) (m:Bs):List Z7->Z4->(List Bs)->Option (Z4)
 | [],b,g=>some b
 | p::q,b,g=>on (p) fun f=>(bV l f.aa).bind fun r=>(bV r m).bind fun j=>(sP b f.aa j g).bind fun k=>(sQ k.1 f.ax.aa j (1:Int)).bind fun s=>nD l m (q) s k.2
def o9 (a0:Z4) (f:(Sl Z7)) (g:Bs) (j:Bs):Option Z4:=Option.bind (nD g j f.l a0 ([]:List Bs)) fun b=>some b
theorem MJ {a0 g k m B c0 f r}(b:o9 a0 g k m=some r) (H:af) (bX:H c0=some (.cells (Z4.cg (some f) a0))) (Y:H f=some (.tok 2 a0.bE.l.length)):AC Tryz.prog 127 [.d (.ptr c0 0),.d (Sl.d 10 Z7.c B g),.d (.str k),.d (.str m)] H fun v h'=>v=.cI []/\h'=((tS H f 2 r.bE).set c0 (some (.cells (Z4.cg (some f) r)))):=by
 unfold o9 at b;refine AC.oW 38 [] Tryz.call127 Tryz.func127 ?_;have Z:c0≠f:=fun p=>by subst p; simp_all
 refine hz ((tS H f 2 a0.bE).set c0 (some (.cells (Z4.cg (some f) a0)))) (Y1 ?_);refine sE dx.makeMap rfl (fun _ _ _ ⟨s,j,C,E,F⟩=>?_);subst C E F;obtain⟨aa,j⟩:=af.dW j;obtain⟨ab,j⟩:=af.dW j;refine Y4 ?_;refine aT Z7.c g fun ad=>Y3 ?_;obtain⟨t,G,b⟩:=bZ b
 refine bD (tl [0,2,3,8,13,14]) (fun(z:Nat×Z4×(List Bs))=>[(15,vi z.1)]) (fun z=>(((tS H f 2 z.2.1.bE).set c0 (some (.cells (Z4.cg (some f) z.2.1)))).set s (some (.map (bK z.2.2))))) (fun z=>g.l.length-z.1) (fun z=>Option.bind (nD k m (g.l.drop z.1) z.2.1 z.2.2) t=some r) (0,a0,([]:List Bs)) b wA ?_;rintro ⟨u,q,I⟩ b ae J;refine Y3 ?_;refine ar fun ag K=>?_
 refine ah.bL (fun l=>Option.bind (nD k m l q I) t=some r) b rfl (fun ai w L b=>?_) (fun L b=>?_)
 ·rw [nD] at b;refine sk K (ar fun aj M=>Y2 ?_);obtain⟨ak,N,b⟩:=vO w b;refine S (ix Z7.c u N) (Y4 ?_);refine bx 10 _ rfl (kl [0,2,3,8,13,14,15]) ?_;refine Y4 ?_;obtain⟨al,O,b⟩:=qO rfl b;refine S (dy O) (Y1 ?_);obtain⟨am,P,b⟩:=qO rfl b;refine S (dy P) (Y8 ?_);obtain⟨Q,R,b⟩:=qO rfl b;refine sH (bS rfl rfl (MH R _ aA aA aA)) rfl ?_;refine Y7 ?_
  obtain⟨U,W,b⟩:=qO rfl b;refine sH (bS rfl rfl (MI W _ aA aA)) rfl ?_;refine Y1 ?_;refine M _ ?_;refine Y4 ?_;exact J _ ((u+1),U,Q.2) wA b (dl w)
 rw [nD] at b;have b:=ku G b;refine ah.exit ?_;repeat (first|refine fW ?_|refine fV ?_|refine fU ?_)
 obtain rfl:=oJ b;refine bH.gm ((tS H f 2 q.bE).set c0 (some (.cells (Z4.cg (some f) q)))) (xs:=[]) rfl ⟨rfl,rfl⟩ ?_;intro X an y;have ao:X≠s:=fun p=>by subst p; simp_all [af.set]
 rw [<- y];simp only [af.set] at y ⊢;(repeat' split)<;>simp_all
def nE (l:ag):List Z6->Z4->(List Bs)->Option (Z4)
 | [],f,j=>some f
 | m::p,f,j=>on (m) fun b=>(bV l.aa ([46]:Bs)).bind fun q=>(bV q b.aa).bind fun g=>(sP f b.aa g j).bind fun k=>(sQ k.1 b.ax.aa g (0:Int)).bind fun r=>(bV g ([40]:Bs)).bind fun s=>(o9 r b.az s ([41]:Bs)).bind fun t=>nE l (p) t k.2
def uL (a0:Z4) (b:ag):Option Z4:=Option.bind (nE b b.an.l a0 ([]:List Bs)) fun f=>some f
theorem Wj {a0 g c0 f r}(b:uL a0 g=some r) (H:af) (bX:H c0=some (.cells (Z4.cg (some f) a0))) (X:H f=some (.tok 2 a0.bE.l.length)):AC Tryz.prog 125 [.d (.ptr c0 0),.agg (ag.c g)] H fun v h'=>v=.cI []/\h'=((tS H f 2 r.bE).set c0 (some (.cells (Z4.cg (some f) r)))):=by
 unfold uL at b;refine AC.oW 41 [] Tryz.call125 Tryz.func125 ?_;have Y:c0≠f:=fun k=>by subst k; simp_all
 refine hz ((tS H f 2 a0.bE).set c0 (some (.cells (Z4.cg (some f) a0)))) (Y4 ?_);refine sE dx.makeMap rfl (fun _ _ _ ⟨p,j,w,y,B⟩=>?_);subst w y B;obtain⟨Z,j⟩:=af.dW j;obtain⟨aa,j⟩:=af.dW j;refine Y5 ?_;refine aT Z6.c g.an fun ab=>Y3 ?_;obtain⟨q,C,b⟩:=bZ b
 refine bD (tl [0,3,4,10,11]) (fun(z:Nat×Z4×(List Bs))=>[(12,vi z.1)]) (fun z=>(((tS H f 2 z.2.1.bE).set c0 (some (.cells (Z4.cg (some f) z.2.1)))).set p (some (.map (bK z.2.2))))) (fun z=>g.an.l.length-z.1) (fun z=>Option.bind (nE g (g.an.l.drop z.1) z.2.1 z.2.2) q=some r) (0,a0,([]:List Bs)) b wA ?_;rintro ⟨s,m,E⟩ b ad F;refine Y3 ?_
 refine ar fun ae G=>?_;refine ah.bL (fun l=>Option.bind (nE g l m E) q=some r) b rfl (fun ai t I b=>?_) (fun I b=>?_)
 ·rw [nE] at b;refine sk G (ar fun aj J=>Y2 ?_);obtain⟨ak,K,b⟩:=vO t b;refine S (ix Z6.c s K) (Y4 ?_);refine bx 6 _ rfl (kl [0,3,4,10,11,12]) ?_;refine Y3 ?_;obtain⟨al,L,b⟩:=qO rfl b;refine S (dy L) (Y2 ?_);obtain⟨am,M,b⟩:=qO rfl b;refine S (dy M) (Y8 ?_);obtain⟨N,O,b⟩:=qO rfl b;refine sH (bS rfl rfl (MH O _ aA aA aA)) rfl ?_;refine Y7 ?_
  obtain⟨ao,P,b⟩:=qO rfl b;refine sH (bS rfl rfl (MI P _ aA aA)) rfl ?_;refine Y6 ?_;obtain⟨ap,Q,b⟩:=qO rfl b;refine S (dy Q) ?_;obtain⟨R,U,b⟩:=qO rfl b;refine sH (bS rfl rfl (MJ U _ aA aA)) rfl ?_;refine Y1 ?_;refine J _ ?_;refine Y4 ?_;exact F _ ((s+1),R,N.2) wA b (dl t)
 rw [nE] at b;have b:=ku C b;refine ah.exit ?_;repeat (first|refine fW ?_|refine fV ?_|refine fU ?_)
 obtain rfl:=oJ b;refine bH.gm ((tS H f 2 m.bE).set c0 (some (.cells (Z4.cg (some f) m)))) (xs:=[]) rfl ⟨rfl,rfl⟩ ?_;intro W au u;have av:W≠p:=fun k=>by subst k; simp_all [af.set]
 rw [<- u];simp only [af.set] at u ⊢;(repeat' split)<;>simp_all
def mj (l:ag):List Z8->Z4->(List Bs)->Option (Z4)
 | [],f,g=>some f
 | m::p,f,g=>on (m) fun b=>(bV l.aa ([46]:Bs)).bind fun q=>(bV q b.aa).bind fun j=>aY (!((((b.aa==([116,114,117,101]:Bs)))||((b.aa==([102,97,108,115,101]:Bs))))||((b.aa==([110,117,108,108]:Bs))))) (uJ b.aa) false fun k=>on (bif !(((((b.aa==([116,114,117,101]:Bs)))||((b.aa==([102,97,108,115,101]:Bs))))||((b.aa==([110,117,108,108]:Bs))))||(!k)) then jW b.aa else false) fun r=>(f_ f ((((((b.aa==([116,114,117,101]:Bs)))||((b.aa==([102,97,108,115,101]:Bs))))||((b.aa==([110,117,108,108]:Bs))))||(!k))||r) (6:Int) j).bind fun s=>(f_ s (g.contains b.aa) (7:Int) j).bind fun t=>mj l (p) t (cw g b.aa)
def uM (a0:Z4) (b:ag):Option Z4:=Option.bind (mj b b.au.l a0 ([]:List Bs)) fun f=>some f
theorem Wk {a0 g c0 f r}(b:uM a0 g=some r) (H:af) (bX:H c0=some (.cells (Z4.cg (some f) a0))) (X:H f=some (.tok 2 a0.bE.l.length)):AC Tryz.prog 126 [.d (.ptr c0 0),.agg (ag.c g)] H fun v h'=>v=.cI []/\h'=((tS H f 2 r.bE).set c0 (some (.cells (Z4.cg (some f) r)))):=by
 unfold uM at b;refine AC.oW 62 [] Tryz.call126 Tryz.func126 ?_;have Y:c0≠f:=fun k=>by subst k; simp_all
 refine hz ((tS H f 2 a0.bE).set c0 (some (.cells (Z4.cg (some f) a0)))) (Y4 ?_);refine sE dx.makeMap rfl (fun _ _ _ ⟨p,j,y,B,C⟩=>?_);subst y B C;obtain⟨Z,j⟩:=af.dW j;obtain⟨ab,j⟩:=af.dW j;refine Y5 ?_;refine aT Z8.c g.au fun ad=>Y3 ?_;obtain⟨q,E,b⟩:=bZ b
 refine bD (tl [0,3,4,11,12]) (fun(z:Nat×Z4×(List Bs))=>[(13,vi z.1)]) (fun z=>(((tS H f 2 z.2.1.bE).set c0 (some (.cells (Z4.cg (some f) z.2.1)))).set p (some (.map (bK z.2.2))))) (fun z=>g.au.l.length-z.1) (fun z=>Option.bind (mj g (g.au.l.drop z.1) z.2.1 z.2.2) q=some r) (0,a0,([]:List Bs)) b wA ?_;rintro ⟨s,m,t⟩ b ae F;refine Y3 ?_
 refine ar fun ai G=>?_;refine ah.bL (fun l=>Option.bind (mj g l m t) q=some r) b rfl (fun aj u I b=>?_) (fun I b=>?_)
 ·rw [mj] at b;refine sk G (ar fun ak J=>Y2 ?_);obtain⟨K,L,b⟩:=vO u b;refine S (ix Z8.c s L) (Y4 ?_);refine bx 6 _ rfl (kl [0,3,4,11,12,13]) ?_;refine Y3 ?_;obtain⟨al,M,b⟩:=qO rfl b;refine S (dy M) (Y2 ?_);obtain⟨am,N,b⟩:=qO rfl b;refine S (dy N) (Y8 ?_);refine Gk 27 ?_;refine Gk 28 ?_;refine Y3 ?_;refine Gk 32 ?_;refine Gk 33 ?_;refine Y8 ?_;refine Gk 39 ?_
  obtain⟨an,O,b⟩:=e8 rfl b;refine dQ 40 rfl rfl rfl rfl rfl (fun hC=>FH (O hC)) ?_;refine Gk 41 ?_;refine Y3 ?_;refine Gk 45 ?_;obtain⟨ao,P,b⟩:=ej (fun _=>rfl) b;refine dQ 46 rfl rfl rfl rfl rfl (fun hC=>FI (P hC)) ?_;refine Y2 ?_;obtain⟨ap,Q,b⟩:=qO rfl b;refine sH (bS rfl rfl (lR Q _ aA aA)) rfl ?_;refine Y6 ?_
  refine s0 (uk (TK rfl) rfl (TK rfl) (TK rfl) rfl rfl rfl rfl aA) rfl ?_;refine Y1 ?_;obtain⟨R,U,b⟩:=qO rfl b;refine sH (bS rfl rfl (lR U _ aA aA)) rfl ?_;refine Y5 ?_;refine dG (mapUpdate (TK rfl) rfl (TK rfl) rfl rfl rfl rfl aA (rK _ _) rfl) rfl rfl ?_;refine Y1 ?_;refine J _ ?_;refine Y4 ?_;exact F _ ((s+1),R,(cw t K.aa)) wA b (dl u)
 rw [mj] at b;have b:=ku E b;refine ah.exit ?_;repeat (first|refine fW ?_|refine fV ?_|refine fU ?_)
 obtain rfl:=oJ b;refine bH.gm ((tS H f 2 m.bE).set c0 (some (.cells (Z4.cg (some f) m)))) (xs:=[]) rfl ⟨rfl,rfl⟩ ?_;intro W av w;have aw:W≠p:=fun k=>by subst k; simp_all [af.set]
 rw [<- w];simp only [af.set] at w ⊢;(repeat' split)<;>simp_all
def uK (a0:Z4) (E:Int) (f:(List Bs)):Option (Z4×(List Bs)):=(dh a0.Fd.aj.l E).bind fun b=>(uJ b.aa).bind fun j=>on (bif !(!j) then jW b.aa else false) fun x5=>(f_ a0 ((!j)||x5) (6:Int) b.aa).bind fun m=>on (bif !(f.contains b.aa) then cW b.aa else false) fun p=>(f_ m ((f.contains b.aa)||p) (7:Int) b.aa).bind fun q=>on (bif (decide (b.ak=(1:Int))) then((decide (b.ak=(1:Int)))) else((decide (b.ak=(2:Int))))) fun r=>on (bif r then((decide (((b.an.l.length:Nat):Int)=(0:Int)))) else(on (bif (decide (b.ak=(3:Int))) then((decide (b.ak=(3:Int)))) else((decide (b.ak=(4:Int))))) fun s=>bif s then((decide (((b.au.l.length:Nat):Int)=(0:Int)))) else(bif (decide (b.ak=(5:Int))) then((decide (((b.ay.l.length:Nat):Int)=(0:Int)))) else(false)))) fun t=>(f_ q t (8:Int) b.aa).bind fun u=>(f_ u (((((((b.aa==([81,117,101,114,121]:Bs)))||((b.aa==([77,117,116,97,116,105,111,110]:Bs))))||((b.aa==([83,117,98,115,99,114,105,112,116,105,111,110]:Bs))))&&(!decide (b.ak=(1:Int))))||(decide (b.ak<(1:Int))))||(decide ((5:Int)<b.ak))) (9:Int) b.aa).bind fun k=>aY ((decide (b.ak=(5:Int)))) (sO k b) false fun v=>(f_ k ((decide (b.ak=(5:Int)))&&v) (5:Int) b.aa).bind fun g=>on (bif (decide (b.ak=(1:Int))) then((decide (b.ak=(1:Int)))) else((decide (b.ak=(2:Int))))) fun w=>bif w then((uL g b).bind fun y=>some (y,(cw f b.aa))) else(bif (decide (b.ak=(4:Int))) then((uM g b).bind fun z=>some (z,(cw f b.aa))) else(bif (decide (b.ak=(5:Int))) then((bV b.aa ([46]:Bs)).bind fun B=>(o9 g b.ay B ([]:Bs)).bind fun C=>some (C,(cw f b.aa))) else(some (g,(cw f b.aa)))))
theorem Wl {a0 M k c0 j c2 r}(b:uK a0 M k=some r) (H:af) (bX:H c0=some (.cells (Z4.cg (some j) a0))) (aG:H j=some (.tok 2 a0.bE.l.length)) (aH:H c2=some (.map (bK k))):AC Tryz.prog 78 [.d (.ptr c0 0),.d (.int .i64 M),.d (.map c2)] H fun v h'=>v=.cI []/\h'=(((tS H j 2 r.1.bE).set c0 (some (.cells (Z4.cg (some j) r.1)))).set c2 (some (.map (bK r.2)))):=by
 unfold uK at b;refine AC.oW 140 [] Tryz.call78 Tryz.func78 ?_;have aI:c0≠j:=fun u=>by subst u; simp_all
 have aK:c2≠j:=fun u=>by subst u; simp_all
 have aL:c2≠c0:=fun u=>by subst u; simp_all
 refine hz (((tS H j 2 a0.bE).set c0 (some (.cells (Z4.cg (some j) a0)))).set c2 (some (.map (bK k)))) (Y7 ?_);obtain⟨g,N,b⟩:=qT rfl b;refine s0 (iZ (f:=ag.c) (TK rfl) rfl (TK rfl) rfl rfl rfl N) rfl ?_;refine Y4 ?_;refine bx 6 _ rfl (kl [0,2]) ?_;refine Y4 ?_;obtain⟨aM,O,b⟩:=qT rfl b;refine cH rfl rfl (FH O) (Y3 ?_);refine dZ 23 ?_;obtain⟨x5,P,b⟩:=l7 (fun _=>rfl) b
 refine oH 24 rfl rfl rfl rfl rfl (fun hC=>FI (P hC)) ?_;refine Y3 ?_;obtain⟨E,Q,b⟩:=qT rfl b;refine aN.sH (bS rfl rfl (lR Q _ aA aA)) rfl ?_;refine aN.Dh (((tS H j 2 E.bE).set c0 (some (.cells (Z4.cg (some j) E)))).set c2 (some (.map (bK k)))) ?_;refine Y6 ?_;refine aN.s0 (uk (TK rfl) rfl (TK rfl) (TK rfl) rfl rfl rfl rfl aA) rfl ?_;refine Y2 ?_
 refine dZ 36 ?_;obtain⟨aP,R,b⟩:=l7 (fun _=>rfl) b;refine oH 37 rfl rfl rfl rfl rfl (fun hC=>ve (R hC)) ?_;refine Y3 ?_;obtain⟨m,U,b⟩:=qT rfl b;refine aN.sH (bS rfl rfl (lR U _ aA aA)) rfl ?_;refine aN.Dh (((tS H j 2 m.bE).set c0 (some (.cells (Z4.cg (some j) m)))).set c2 (some (.map (bK k)))) ?_;refine Y5 ?_
 refine dG (mapUpdate (TK rfl) rfl (TK rfl) rfl rfl rfl rfl aA (rK _ _) rfl) rfl rfl ?_;refine hq (((tS H j 2 m.bE).set c0 (some (.cells (Z4.cg (some j) m)))).set c2 (some (.map (bK (cw k g.aa))))) (Y4 ?_)
 refine aR (tl [0,6]) (fun(z:Bool)=>[(7,.a (.d (.bool z)))]) (fun z=>(((tS H j 2 m.bE).set c0 (some (.cells (Z4.cg (some j) m)))).set c2 (some (.map (bK (cw k g.aa)))))) (fun z=>((f_ m z (8:Int) g.aa).bind fun y=>(f_ y (((((((g.aa==([81,117,101,114,121]:Bs)))||((g.aa==([77,117,116,97,116,105,111,110]:Bs))))||((g.aa==([83,117,98,115,99,114,105,112,116,105,111,110]:Bs))))&&(!decide (g.ak=(1:Int))))||(decide (g.ak<(1:Int))))||(decide ((5:Int)<g.ak))) (9:Int) g.aa).bind fun w=>aY ((decide (g.ak=(5:Int)))) (sO w g) false fun F=>(f_ w ((decide (g.ak=(5:Int)))&&F) (5:Int) g.aa).bind fun p=>on (bif (decide (g.ak=(1:Int))) then((decide (g.ak=(1:Int)))) else((decide (g.ak=(2:Int))))) fun G=>bif G then((uL p g).bind fun q=>some (q,(cw k g.aa))) else(bif (decide (g.ak=(4:Int))) then((uM p g).bind fun s=>some (s,(cw k g.aa))) else(bif (decide (g.ak=(5:Int))) then((bV g.aa ([46]:Bs)).bind fun I=>(o9 p g.ay I ([]:Bs)).bind fun t=>some (t,(cw k g.aa))) else(some (p,(cw k g.aa))))))=some r) ?_ ?_
 ·intro aQ B;refine Y5 ?_;obtain⟨W,X,b⟩:=bW b;refine aR (tl [0,6,7,47]) (fun(z:Bool)=>[(48,.a (.d (.bool z)))]) (fun z=>(((tS H j 2 m.bE).set c0 (some (.cells (Z4.cg (some j) m)))).set c2 (some (.map (bK (cw k g.aa)))))) (fun z=>W z=some r) ?_ ?_
  ·intro aU J;refine Y4 ?_;refine cP b (fun Y b=>?_) (fun Y b=>?_)
   ·refine ah.skip ?_;exact J _ (decide (g.ak=(1:Int))) wA b
   refine Y4 ?_;exact J _ (decide (g.ak=(2:Int))) wA b
  rintro aV b;have b:=ku X b;obtain⟨aW,C,b⟩:=bW b;refine cP b (fun Z b=>?_) (fun Z b=>?_)
  ·refine Y3 ?_;refine aT Z6.c g.an fun aX=>Y3 ?_;exact B _ (decide (((g.an.l.length:Nat):Int)=(0:Int))) wA (ku C b:)
  obtain⟨ab,ad,b⟩:=dX b;refine aR (tl [0,6,7,47]) (fun(z:Bool)=>[(55,.a (.d (.bool z)))]) (fun z=>(((tS H j 2 m.bE).set c0 (some (.cells (Z4.cg (some j) m)))).set c2 (some (.map (bK (cw k g.aa)))))) (fun z=>ab z=some r) ?_ ?_
  ·intro aZ K;refine Y4 ?_;refine cP b (fun ae b=>?_) (fun ae b=>?_)
   ·refine ah.skip ?_;exact K _ (decide (g.ak=(3:Int))) wA b
   refine Y4 ?_;exact K _ (decide (g.ak=(4:Int))) wA b
  rintro a1 b;have b:=ku ad b;refine cP b (fun ai b=>?_) (fun ai b=>?_)
  ·refine Y3 ?_;refine aT Z8.c g.au fun a2=>Y3 ?_;exact B _ (decide (((g.au.l.length:Nat):Int)=(0:Int))) wA (ku C b:)
  refine Y4 ?_;refine cP b (fun aj b=>?_) (fun aj b=>?_)
  ·refine Y3 ?_;refine aT Z7.c g.ay fun a3=>Y3 ?_;exact B _ (decide (((g.ay.l.length:Nat):Int)=(0:Int))) wA (ku C b:)
  refine ah.skip ?_;exact B _ false wA (ku C b:)
 rintro a4 b;refine Y5 ?_;obtain⟨y,al,b⟩:=qT rfl b;refine sH (bS rfl rfl (lR al _ aA aA)) rfl ?_;refine hq (((tS H j 2 y.bE).set c0 (some (.cells (Z4.cg (some j) y)))).set c2 (some (.map (bK (cw k g.aa))))) (Y7 ?_);refine Gk 77 ?_;refine Gk 78 ?_;refine Y3 ?_;refine Gk 82 ?_;refine Gk 83 ?_;refine Y8 ?_;refine Gk 89 ?_;refine Gk 90 ?_;refine Y3 ?_;refine Gk 94 ?_
 refine Gk 95 ?_;refine Y3 ?_;refine Gk 99 ?_;refine Gk 100 ?_;refine Y3 ?_;obtain⟨w,am,b⟩:=qT rfl b;refine sH (bS rfl rfl (lR am _ aA aA)) rfl ?_;refine hq (((tS H j 2 w.bE).set c0 (some (.cells (Z4.cg (some j) w)))).set c2 (some (.map (bK (cw k g.aa))))) (Y9 ?_);obtain⟨F,ao,b⟩:=eE rfl b
 refine jF 111 112 rfl rfl (fun hC=>eY rfl rfl (Wh (ao hC) _ aA)) ?_;refine Y3 ?_;obtain⟨p,ap,b⟩:=qT rfl b;refine aN.sH (bS rfl rfl (lR ap _ aA aA)) rfl ?_;refine aN.Dh (((tS H j 2 p.bE).set c0 (some (.cells (Z4.cg (some j) p)))).set c2 (some (.map (bK (cw k g.aa))))) ?_;refine Y6 ?_;obtain⟨ar,av,b⟩:=bW b
 refine aR (tl [0,6,119]) (fun(z:Bool)=>[(120,.a (.d (.bool z)))]) (fun z=>(((tS H j 2 p.bE).set c0 (some (.cells (Z4.cg (some j) p)))).set c2 (some (.map (bK (cw k g.aa)))))) (fun z=>ar z=some r) ?_ ?_
 ·intro a5 L;refine Y4 ?_;refine cP b (fun aw b=>?_) (fun aw b=>?_)
  ·refine ah.skip ?_;exact L _ (decide (g.ak=(1:Int))) wA b
  refine Y4 ?_;exact L _ (decide (g.ak=(2:Int))) wA b
 rintro G b;have b:=ku av b;refine cE b (fun ax b=>?_) (fun ax b=>?_)
 ·refine Y3 ?_;obtain⟨q,az,b⟩:=qT rfl b;refine sH (bS rfl rfl (Wj az _ aA aA)) rfl ?_;refine hq (((tS H j 2 q.bE).set c0 (some (.cells (Z4.cg (some j) q)))).set c2 (some (.map (bK (cw k g.aa))))) (Y1 ?_);repeat (first|refine fW ?_|refine fV ?_|refine fU ?_)
  obtain rfl:=oJ b;refine bH.gm (((tS H j 2 q.bE).set c0 (some (.cells (Z4.cg (some j) q)))).set c2 (some (.map (bK (cw k g.aa))))) (xs:=[]) rfl ⟨rfl,rfl⟩ ?_;exact(fun _ _ h=>h)
 refine Y4 ?_;refine cE b (fun aB b=>?_) (fun aB b=>?_)
 ·refine Y3 ?_;obtain⟨s,aC,b⟩:=qT rfl b;refine sH (bS rfl rfl (Wk aC _ aA aA)) rfl ?_;refine hq (((tS H j 2 s.bE).set c0 (some (.cells (Z4.cg (some j) s)))).set c2 (some (.map (bK (cw k g.aa))))) (Y1 ?_);repeat (first|refine fW ?_|refine fV ?_|refine fU ?_)
  obtain rfl:=oJ b;refine bH.gm (((tS H j 2 s.bE).set c0 (some (.cells (Z4.cg (some j) s)))).set c2 (some (.map (bK (cw k g.aa))))) (xs:=[]) rfl ⟨rfl,rfl⟩ ?_;exact(fun _ _ h=>h)
 refine Y4 ?_;refine cE b (fun aD b=>?_) (fun aD b=>?_)
 ·refine Y6 ?_;obtain⟨I,aE,b⟩:=qT rfl b;refine S (dy aE) ?_;obtain⟨t,aF,b⟩:=qT rfl b;refine sH (bS rfl rfl (MJ aF _ aA aA)) rfl ?_;refine hq (((tS H j 2 t.bE).set c0 (some (.cells (Z4.cg (some j) t)))).set c2 (some (.map (bK (cw k g.aa))))) (Y1 ?_);repeat (first|refine fW ?_|refine fV ?_|refine fU ?_)
  obtain rfl:=oJ b;refine bH.gm (((tS H j 2 t.bE).set c0 (some (.cells (Z4.cg (some j) t)))).set c2 (some (.map (bK (cw k g.aa))))) (xs:=[]) rfl ⟨rfl,rfl⟩ ?_;exact(fun _ _ h=>h)
 refine ah.skip ?_;repeat (first|refine fW ?_|refine fV ?_|refine fU ?_)
 obtain rfl:=oJ b;refine bH.gm (((tS H j 2 p.bE).set c0 (some (.cells (Z4.cg (some j) p)))).set c2 (some (.map (bK (cw k g.aa))))) (xs:=[]) rfl ⟨rfl,rfl⟩ ?_;exact(fun _ _ h=>h)
def nF :List ag->Nat->Z4->(List Bs)->Option (Z4)
 | [],b,f,g=>some f
 | l::k,b,f,g=>(uK f ((b:Nat):Int) g).bind fun j=>nF  (k) (b+1) j.1 j.2
def yY (a0:ai) (m:Bool):Option (Sl Z5):=Option.bind (nF  a0.aj.l 0 (Z4.mk a0 Sl.nil) ([]:List Bs)) fun f=>on (f) fun b=>on (fL a0 ([81,117,101,114,121]:Bs)) fun g=>Option.bind (bif (m&&(!g.2)) then((f_ b true (30:Int) ([81,117,101,114,121]:Bs)).bind fun j=>some j) else(some b)) fun k=>some k.bE
theorem Wm {a0 C r}(b:yY a0 C=some r) (H:af) :AC Tryz.prog 44 [.agg (ai.c a0),.d (.bool C)] H (RT (.a (.d (Sl.d 2 Z5.c none r))) H):=by
 unfold yY at b;refine AC.oW 41 [.tmp 4] Tryz.call44 Tryz.func44 ?_;refine Y2 ?_;refine s0 (di (k':=2) rfl) rfl ?_;refine Y4 ?_;refine aJ.tok 2 fun f al=>?_;refine sE (dx.xX rfl) rfl (fun _ _ _ ⟨g,E,u,v,y⟩=>?_);subst u v y;obtain⟨am,E⟩:=af.dW E;refine aJ.oE g _ aA (fun j w cs hh hx=>tok_cell 1 2 2 hh (t:=f) aA hx rfl) ?_
 refine hq ((H.set f (some (.tok 2 0))).set g (some (.cells (Z4.cg (some f) (Z4.mk a0 Sl.nil))))) (Y3 ?_);refine sE dx.makeMap rfl (fun _ _ _ ⟨k,s,u,v,y⟩=>?_);subst u v y;obtain⟨an,s⟩:=af.dW s;obtain⟨ao,s⟩:=af.dW s
 refine hq (((H.set f (some (.tok 2 0))).set g (some (.cells (Z4.cg (some f) (Z4.mk a0 Sl.nil))))).set k (some (.map (bK ([]:List Bs))))) (Y2 ?_)
 refine aR (tl [1,2,5]) (fun(z:Z4×(List Bs))=>[]) (fun z=>(((tS H f 2 z.1.bE).set g (some (.cells (Z4.cg (some f) z.1)))).set k (some (.map (bK z.2))))) (fun z=>(on (fL a0 ([81,117,101,114,121]:Bs)) fun F=>Option.bind (bif (C&&(!F.2)) then((f_ z.1 true (30:Int) ([81,117,101,114,121]:Bs)).bind fun m=>some m) else(some z.1)) fun G=>some G.bE)=some r) ?_ ?_
 ·intro ap Q;refine Y3 ?_;refine aT ag.c a0.aj fun au=>Y3 ?_;obtain⟨I,R,b⟩:=bZ b
  refine bD (tl [1,2,5,6,16]) (fun(z:Nat×Z4×(List Bs))=>[(17,vi z.1)]) (fun z=>(((tS H f 2 z.2.1.bE).set g (some (.cells (Z4.cg (some f) z.2.1)))).set k (some (.map (bK z.2.2))))) (fun z=>a0.aj.l.length-z.1) (fun z=>Option.bind (nF  (a0.aj.l.drop z.1) z.1 z.2.1 z.2.2) I=some r) (0,(Z4.mk a0 Sl.nil),([]:List Bs)) b wA ?_;rintro ⟨J,K,L⟩ b av S
  refine Y3 ?_;refine ar fun aw U=>?_;refine ah.bL (fun l=>Option.bind (nF  l J K L) I=some r) b rfl (fun ax W X b=>?_) (fun X b=>?_)
  ·rw [nF] at b;refine sk U (ar fun ay Y=>Y9 ?_);obtain⟨p,Z,b⟩:=qO rfl b;refine sH (bS rfl rfl (Wl Z _ aA aA aA)) rfl ?_;refine hq (((tS H f 2 p.1.bE).set g (some (.cells (Z4.cg (some f) p.1)))).set k (some (.map (bK p.2)))) (Y1 ?_);refine Y _ ?_;refine Y4 ?_;exact S _ ((J+1),p.1,p.2) wA b (dl W)
  rw [nF] at b;have b:=ku R b;refine ah.exit ?_;obtain⟨az,aa,b⟩:=bW b;exact Q _ (K,L) wA (ku aa b:)
 rintro ⟨ab,M⟩ b;refine aR (tl [5]) (fun(z:Z4)=>[]) (fun z=>(((tS H f 2 z.bE).set g (some (.cells (Z4.cg (some f) z)))).set k (some (.map (bK M))))) (fun z=>(some z.bE)=some r) ?_ ?_
 ·intro aB N;refine Y2 ?_;obtain⟨F,ad,b⟩:=vT rfl b;refine Sc rfl rfl (oo ad) (Y7 ?_);refine bx 8 _ rfl (kl [1,5,9]) ?_;refine Y4 ?_;refine Gk 32 ?_;refine Y2 ?_;obtain⟨aC,O,b⟩:=bZ b;refine cO b (fun ae b=>?_) (fun ae b=>?_)
  ·refine Y2 ?_;obtain⟨m,ak,b⟩:=qO rfl b;refine sH (bS rfl rfl (lR ak _ aA aA)) rfl ?_;refine hq (((tS H f 2 m.bE).set g (some (.cells (Z4.cg (some f) m)))).set k (some (.map (bK M)))) (Y1 ?_);exact N _ m wA (ku O b:)
  refine ah.skip ?_;exact N _ ab wA (ku O b:)
 rintro G b;refine Y7 ?_;refine ah.dV 4 rfl ?_;refine ry ?_;obtain rfl:=oJ b;refine bH.b9 H rfl ⟨rfl,rfl⟩ ?_;intro B aD P;have aE:B≠f:=fun q=>by subst q; simp_all [af.set]
 have aF:B≠g:=fun q=>by subst q; simp_all [af.set]
 have aG:B≠k:=fun q=>by subst q; simp_all [af.set]
 rw [<- P];simp only [af.set] at P ⊢;(repeat' split)<;>simp_all
def wG (a0:Z0) (b:Bs) (g:Int):Int:=on (fL a0.Fd b) fun x3=>on (bif (!x3.2) then cW b else false) fun f=>bif ((!x3.2)&&(!f)) then((8:Int)) else(bif ((!x3.2)||(!decide (x3.1.ak=g))) then((9:Int)) else((0:Int)))
theorem MK {a0 f g j c0 r}(b:some (wG a0 f g)=some r) (H:af) (bX:H c0=some (.cells (Z0.cg j a0))):AC Tryz.prog 81 [.d (.ptr c0 0),.d (.str f),.d (.int .i64 g)] H (RT (.a (.d (.int .i64 r))) H):=by
 unfold wG at b;refine AC.oW 35 [.tmp 6] Tryz.call81 Tryz.func81 ?_;refine Y9 ?_;obtain⟨x3,k,b⟩:=vP rfl b;refine Sc rfl rfl (oo k) (Y7 ?_);refine bx 7 _ rfl (kl [1,2,8]) ?_;refine ar fun s l=>Y6 ?_;obtain⟨t,m,b⟩:=jU (fun _=>rfl) b;refine dQ 22 rfl rfl rfl rfl rfl (fun hC=>ve (m hC)) ?_;refine Gk 23 ?_;refine Y3 ?_;refine cP b (fun p b=>?_) (fun p b=>?_)
 ·refine Y3 ?_;exact rt b
 refine Y5 ?_;refine Gk 30 ?_;refine Y1 ?_;refine G2 31 32 rfl rfl BI ?_;refine Y3 ?_;refine cP b (fun q b=>?_) (fun q b=>?_)
 ·refine Y3 ?_;exact rt b
 refine sk l (Y3 ?_);exact rt b
def kJ (a0:Z0) (f:Int) (g:Bs):Option Z0:=(bf 24 a0.dR (⟨false,[(Z5.mk f g)]⟩:Sl Z5)).bind fun b=>some (Z0.mk a0.Fd b)
theorem xw {a0 j k c0 b r}(g:kJ a0 j k=some r) (H:af) (bX:H c0=some (.cells (Z0.cg (some b) a0))) (q:H b=some (.tok 2 a0.dR.l.length)):AC Tryz.prog 84 [.d (.ptr c0 0),.d (.int .i64 j),.d (.str k)] H fun v h'=>v=.cI []/\h'=((tS H b 2 r.dR).set c0 (some (.cells (Z0.cg (some b) r)))):=by
 unfold kJ at g;refine AC.oW 18 [] Tryz.call84 Tryz.func84 ?_;have s:c0≠b:=fun m=>by subst m; simp_all
 refine hz ((tS H b 2 a0.dR).set c0 (some (.cells (Z0.cg (some b) a0)))) (oI ?_);obtain⟨f,p,g⟩:=qT rfl g;refine SH (am Z5.c (TK rfl) rfl (TK rfl) (TK rfl) p) ?_;refine hq ((tS H b 2 f).set c0 (some (.cells (Z0.cg (some b) a0)))) (Y2 ?_);refine dG (gv (TK rfl) rfl rfl aA rfl (by repeat (first|exact bn.zero|apply bn.succ))) rfl rfl ?_
 refine hq ((tS H b 2 f).set c0 (some (.cells (Z0.cg (some b) (Z0.mk a0.Fd f))))) (Y1 ?_);repeat (first|refine fW ?_|refine fV ?_|refine fU ?_)
 obtain rfl:=oJ g;refine bH.gm ((tS H b 2 f).set c0 (some (.cells (Z0.cg (some b) (Z0.mk a0.Fd f))))) (xs:=[]) rfl ⟨rfl,rfl⟩ ?_;exact(fun _ _ h=>h)
def iP (a0:aL):Bool:=on (bif (decide ((0:Int)<((a0.aK.l.length:Nat):Int))) then((a0.aK.l)[0]?.getD (0:Int)) else(0:Int)) fun b=>((decide ((0:Int)<((a0.aK.l.length:Nat):Int)))&&(decide (b=(1:Int))))
theorem tQ {a0 r}(b:some (iP a0)=some r) (H:af) :AC Tryz.prog 150 [.agg (aL.c a0)] H (RT (.a (.d (.bool r))) H):=by
 unfold iP at b;refine AC.oW 14 [.tmp 2] Tryz.call150 Tryz.func150 ?_;refine Y7 ?_;refine aT (bI .i64) a0.aK fun g=>Y3 ?_;refine Gk 8 ?_;obtain⟨j,f,b⟩:=jU (fun hc=>Q.getD_some (by simp at hc; omega)) b;refine bG 9 rfl (fun hC=>ix (bI .i64) 0 (f hC)) ?_;refine Gk 10 ?_;refine Gk 11 ?_;refine Y3 ?_;exact rt b
def sM (f:Bs):List Z6->Unit ⊕ ((Z6×Bool))
 | []=>Sum.inl ()
 | g::j=>on (g) fun b=>bif ((b.aa==f)) then(Sum.inr (b,true)) else(sM f (j) )
def yV (a0:ag) (g:Bs):(Z6×Bool):=on (sM g a0.an.l ) fun b=>match b with|Sum.inl _=>(on (()) fun _=>((Z6.mk [] Sl.nil aL.zero Sl.nil),false))|Sum.inr f=>(f)
theorem Wn {a0 f r}(b:some (yV a0 f)=some r) (H:af) :AC Tryz.prog 155 [.agg (ag.c a0),.d (.str f)] H (RT (.cI [.agg (Z6.c r.1),.d (.bool r.2)]) H):=by
 unfold yV at b;refine AC.oW 22 [.cell 4 49,.tmp 5] Tryz.call155 Tryz.func155 ?_;refine Y5 ?_;refine cT (tl [4]) (fun(z:Z6)=>[]) (fun z=>[Z6.c z]) (fun z=>H) (fun z=>some (((Z6.mk [] Sl.nil aL.zero Sl.nil),false))=some r) ?_ ?_
 ·intro C q;refine Y3 ?_;refine aT Z6.c a0.an fun E=>Y3 ?_;obtain⟨g,j,b⟩:=dX b;refine eZ (tl [1,4,9,10]) (fun(z:Nat×Z6)=>[(11,vi z.1)]) (fun z=>[Z6.c z.2]) (fun z=>H) (fun z=>a0.an.l.length-z.1) (fun z=>g (sM f (a0.an.l.drop z.1) )=some r) (0,Z6.zero) b wA ?_;rintro ⟨k,m⟩ b F s;refine Y3 ?_;refine ar fun G t=>?_
  refine ah.bL (fun l=>g (sM f l )=some r) b rfl (fun I p u b=>?_) (fun u b=>?_)
  ·rw [sM] at b;refine sk t (ar fun J v=>Y2 ?_);obtain⟨K,w,b⟩:=vP p b;refine S (ix Z6.c k w) (Y4 ?_);refine bx 7 _ rfl (kl [1,4,9,10,11]) ?_;refine Y6 ?_;refine cP b (fun y b=>?_) (fun y b=>?_)
   ·refine Y5 ?_;exact rs (ku j b:)
   refine sk v (Y4 ?_);exact s _ ((k+1),m) wA b (dl p)
  rw [sM] at b;have b:=ku j b;refine ah.exit ?_;obtain⟨L,B,b⟩:=dX b;exact q _ m wA (ku B b:)
 rintro M b;refine Y5 ?_;exact rt b
def qw (a0:aL):Option aL:=on (iP a0) fun b=>Option.bind (bif b then((lY a0.aK (some (1:Int)) none).bind fun f=>some f) else(some a0.aK)) fun g=>(oV g).bind fun j=>some (aL.mk a0.aa j)
theorem zP {a0 r}(b:qw a0=some r) (H:af) :AC Tryz.prog 184 [.agg (aL.c a0)] H (RT (.a (.agg (aL.c r))) H):=by
 unfold qw at b;refine AC.oW 15 [.cell 2 46] Tryz.call184 Tryz.func184 ?_;refine Y9 ?_;refine aR (tl [1,2]) (fun(z:(Sl Int))=>[(3,.a (.d (Sl.d 1 (bI .i64) none z)))]) (fun z=>H) (fun z=>((oV z).bind fun g=>some (aL.mk a0.aa g))=some r) ?_ ?_
 ·intro u j;refine Y2 ?_;obtain⟨v,m,b⟩:=vT rfl b;refine Sc rfl rfl (tQ m) (Y1 ?_);obtain⟨w,k,b⟩:=bZ b;refine cO b (fun p b=>?_) (fun p b=>?_)
  ·refine Y2 ?_;obtain⟨q,s,b⟩:=qO rfl b;refine s0 (lg (f:=(bI .i64)) (l:=(some (1:Int))) (r:=none) (TK rfl) rfl (TK rfl) rfl rfl rfl trivial s) rfl ?_;refine Y2 ?_;exact j _ q wA (ku k b:)
  refine ah.skip ?_;exact j _ a0.aK wA (ku k b:)
 rintro y b;refine Y4 ?_;obtain⟨g,t,b⟩:=qT rfl b;refine cH rfl rfl (zN t) (Y3 ?_);exact rt b
def yT (a0:aL):Option Bool:=(qw a0).bind fun x3=>on (bif (decide ((0:Int)<((x3.aK.l.length:Nat):Int))) then((x3.aK.l)[0]?.getD (0:Int)) else(0:Int)) fun b=>some ((decide ((0:Int)<((x3.aK.l.length:Nat):Int)))&&(decide (b=(2:Int))))
theorem Wo {a0 r}(b:yT a0=some r) (H:af) :AC Tryz.prog 187 [.agg (aL.c a0)] H (RT (.a (.d (.bool r))) H):=by
 unfold yT at b;refine AC.oW 16 [.tmp 2] Tryz.call187 Tryz.func187 ?_;refine Y1 ?_;refine sL (vz rfl (by repeat (first|exact ee.nil|apply ee.cons))) rfl ?_;refine Y4 ?_;obtain⟨x3,f,b⟩:=qT rfl b;refine Sc rfl rfl (zP f) (Y5 ?_);refine aT (bI .i64) x3.aK fun j=>Y3 ?_;refine gC rfl rfl (fun hC=>nq (k:=10) rfl (jP (TK rfl) rfl rfl rfl rfl)) rfl ?_
 obtain⟨l,g,b⟩:=l7 (fun hc=>Q.getD_some (by simp at hc; omega)) b;refine bG 11 rfl (fun hC=>ix (bI .i64) 0 (g hC)) ?_;refine Gk 12 ?_;refine Gk 13 ?_;refine Y3 ?_;exact rt b
def sK (a0:aL):Option (aL×Bool):=(yT a0).bind fun f=>bif (!f) then(some ((aL.mk [] Sl.nil),false)) else((qw a0).bind fun b=>(lY b.aK (some (1:Int)) none).bind fun g=>some ((aL.mk b.aa g),true))
theorem FM {a0 r}(b:sK a0=some r) (H:af) :AC Tryz.prog 164 [.agg (aL.c a0)] H (RT (.cI [.agg (aL.c r.1),.d (.bool r.2)]) H):=by
 unfold sK at b;refine AC.oW 15 [.cell 2 46,.tmp 3] Tryz.call164 Tryz.func164 ?_;refine Y1 ?_;refine sL (vz rfl (by repeat (first|exact ee.nil|apply ee.cons))) rfl ?_;refine Y3 ?_;refine ar fun q g=>Y2 ?_;obtain⟨s,j,b⟩:=qT rfl b;refine Sc rfl rfl (Wo j) (Y2 ?_);refine cE b (fun k b=>?_) (fun k b=>?_)
 ·refine Y5 ?_;exact rt b
 refine sk g (Y2 ?_);obtain⟨t,m,b⟩:=qT rfl b;refine Sc rfl rfl (zP m) (Y5 ?_);obtain⟨u,p,b⟩:=qT rfl b;refine s0 (lg (f:=(bI .i64)) (l:=(some (1:Int))) (r:=none) (TK rfl) rfl (TK rfl) rfl rfl rfl trivial p) rfl ?_;refine Y8 ?_;exact rt b
def Bn (a0:ag) (b:Bs):Bool:=on (lE a0.aH b) fun x3=>x3
def zQ (a0:ag) (b:Bs):Option Bool:=some (Bn a0 b)
theorem Jo (a0:ag) (a1:Bs):zQ a0 a1=some (Bn a0 a1):=rfl
theorem ML {a0 f r}(b:zQ a0 f=some r) (H:af) :AC Tryz.prog 215 [.agg (ag.c a0),.d (.str f)] H (RT (.a (.d (.bool r))) H):=by
 unfold zQ Bn at b;refine AC.oW 9 [.tmp 4] Tryz.call215 Tryz.func215 ?_;refine Y8 ?_;obtain⟨x3,g,b⟩:=vP rfl b;refine Sc rfl rfl (xm g) (Y2 ?_);exact rt b
def FN  (b:(Sl Bs)) (f:(List Bs)):Option (Sl Bs):=some b
def y8 (b:Nat) (f:(Sl Bs)->Nat->(List Bs)->Option (Sl Bs)) (g:(Sl Bs)) (j:(List Bs)):Option (Sl Bs):=f g (b+1) j
def sY (a0:ai) :Nat->(Sl Bs)->Nat->(List Bs)->Option (Sl Bs)
 | 0,_,_,_=>none
 | k+1,g,b,f=>bif (decide (((b:Nat):Int)<((a0.aj.l.length:Nat):Int))) then((a0.aj.l[b]?).bind fun j=>bif (f.contains j.aa) then((bf 16 g (⟨false,[j.aa]⟩:Sl Bs)).bind fun m=>y8 b ((sY a0 k)) m (List.erase f j.aa)) else(y8 b ((sY a0 k)) g f)) else(FN   g f)
def Bp (a0:ai)  (b:(List Bs)):Option (Sl Bs):=sY a0 (a0.aj.l.length+1) (Sl.nil:Sl Bs) 0 b
def wC (a0:ai) (a1:Bs) (x3:(ag×Bool))  (f:Bs):Option Bool:=(zO a0 f).bind fun b=>aY ((!((!b.2)||(!decide (b.1.ak=(1:Int))))&&(decide (x3.1.ak=(2:Int))))) (zQ b.1 a1) false fun g=>bif (((!b.2)||(!decide (b.1.ak=(1:Int))))||((decide (x3.1.ak=(2:Int)))&&(!g))) then(some false) else(some true)
def sZ (a0:ai) (g:Bs) (x3:(ag×Bool))  (b:(List Bs)):Option (Sl Bs):=Option.bind (vK (wC a0 g x3) b) fun f=>Bp a0  f
def y9 (b:Nat) (f:Nat->(List Bs)->Option (Sl Bs)) (g:(List Bs)):Option (Sl Bs):=f (b+1) g
def s4 (a0:ai) (f:Bs) (x3:(ag×Bool)) :Nat->Nat->(List Bs)->Option (Sl Bs)
 | 0,_,_=>none
 | j+1,b,g=>bif (decide (((b:Nat):Int)<((a0.aj.l.length:Nat):Int))) then((a0.aj.l[b]?).bind fun k=>(zQ k f).bind fun m=>bif m then(y9 b ((s4 a0 f x3 j)) (cw g k.aa)) else(y9 b ((s4 a0 f x3 j)) g)) else(sZ a0 f x3  g)
def wD (a0:ai) (g:Bs) (x3:(ag×Bool)) :Nat->Nat->(List Bs)->Option (Sl Bs)
 | 0,_,_=>none
 | j+1,b,f=>bif (decide (((b:Nat):Int)<((x3.1.au.l.length:Nat):Int))) then((x3.1.au.l[b]?).bind fun k=>(wD a0 g x3 j) (b+1) (cw f k.aa)) else(sZ a0 g x3  f)
def Bq (a0:ai) (b:Bs):Option (Sl Bs):=(zO a0 b).bind fun x3=>bif (decide (x3.1.ak=(1:Int))) then(sZ a0 b x3  (cw ([]:List Bs) b)) else(bif (decide (x3.1.ak=(2:Int))) then(s4 a0 b x3 (a0.aj.l.length+1) 0 ([]:List Bs)) else(bif (decide (x3.1.ak=(3:Int))) then(wD a0 b x3 (x3.1.au.l.length+1) 0 ([]:List Bs)) else(sZ a0 b x3  ([]:List Bs))))
theorem Wp {a0 p r}(b:Bq a0 p=some r) (H:af) :AC Tryz.prog 206 [.agg (ai.c a0),.d (.str p)] H (RT (.a (.d (Sl.d 1 aB none r))) H):=by
 unfold Bq at b;refine AC.oW 113 [.tmp 4] Tryz.call206 Tryz.func206 ?_;refine ah.tok 1 fun f bm=>?_;refine Y2 ?_;refine s0 (di (k':=1) rfl) rfl ?_;refine Y4 ?_;obtain⟨x3,ay,b⟩:=bO b;refine Sc rfl rfl (oo ay) (Y7 ?_);refine bx 5 _ rfl (kl [1,2]) ?_;refine Y1 ?_;refine sE dx.makeMap rfl (fun _ _ _ ⟨g,Z,az,aC,aD⟩=>?_);subst az aC aD
 obtain⟨bo,Z⟩:=af.dW Z;refine hq ((H.set f (some (.tok 1 0))).set g (some (.map (bK ([]:List Bs))))) (Y2 ?_);refine aR (tl [1,2,5,7]) (fun(z:(List Bs))=>[]) (fun z=>((H.set f (some (.tok 1 0))).set g (some (.map (bK z))))) (fun z=>sZ a0 p x3 z=some r) ?_ ?_
 ·intro bp C;refine Y9 ?_;refine cE b (fun aE b=>?_) (fun aE b=>?_)
  ·refine Y3 ?_;refine dG (mapUpdate (TK rfl) rfl (TK rfl) rfl rfl rfl rfl aA (rK _ _) rfl) rfl rfl ?_;refine hq ((H.set f (some (.tok 1 0))).set g (some (.map (bK (cw ([]:List Bs) p))))) (Y1 ?_);exact C _ (cw ([]:List Bs) p) wA b
  refine Y4 ?_;refine cE b (fun aF b=>?_) (fun aF b=>?_)
  ·refine Y3 ?_;refine aT ag.c a0.aj fun bq=>Y3 ?_;refine bD (tl [1,2,5,7,34,35]) (fun(z:Nat×Nat×(List Bs))=>[(36,vi z.2.1)]) (fun z=>((H.set f (some (.tok 1 0))).set g (some (.map (bK z.2.2))))) (fun z=>z.1) (fun z=>s4 a0 p x3 z.1 z.2.1 z.2.2=some r) ((a0.aj.l.length+1),0,([]:List Bs)) b wA ?_;rintro ⟨E,L,F⟩ b br aG;cases E with
   | zero=>cases b
   | succ E =>
     rw [s4] at b;refine Y3 ?_;refine ar fun bs aH=>?_;refine cE b (fun aI b=>?_) (fun aI b=>?_)
     ·refine sk aH (aR (tl [1,2,5,7,34,35,36]) (fun(z:(List Bs))=>[]) (fun z=>((H.set f (some (.tok 1 0))).set g (some (.map (bK z))))) (fun z=>y9 L ((s4 a0 p x3 E)) z=some r) ?_ ?_)
      ·intro bt ab;refine Y2 ?_;obtain⟨ad,aK,b⟩:=bO b;refine S (ix ag.c L aK) (Y4 ?_);refine bx 9 _ rfl (kl [1,2,5,7,34,35,36]) ?_;refine Y3 ?_;obtain⟨bu,aL,b⟩:=bO b;refine Sc rfl rfl (ML aL) (Y1 ?_);refine cE b (fun aM b=>?_) (fun aM b=>?_)
       ·refine Y4 ?_;refine dG (mapUpdate (TK rfl) rfl (TK rfl) rfl rfl rfl rfl aA (rK _ _) rfl) rfl rfl ?_;refine hq ((H.set f (some (.tok 1 0))).set g (some (.map (bK (cw F ad.aa))))) (Y1 ?_);exact ab _ (cw F ad.aa) wA b
       refine ah.skip ?_;exact ab _ F wA b
      rintro aP b;unfold y9 at b;refine Y4 ?_;exact aG _ (E,(L+1),aP) wA b (nS _)
     refine ah.exit ?_;exact C _ F wA b
  refine Y4 ?_;refine cE b (fun aQ b=>?_) (fun aQ b=>?_)
  ·refine Y3 ?_;refine aT Z8.c x3.1.au fun bv=>Y3 ?_;refine bD (tl [1,2,5,7,50,51]) (fun(z:Nat×Nat×(List Bs))=>[(52,vi z.2.1)]) (fun z=>((H.set f (some (.tok 1 0))).set g (some (.map (bK z.2.2))))) (fun z=>z.1) (fun z=>wD a0 p x3 z.1 z.2.1 z.2.2=some r) ((x3.1.au.l.length+1),0,([]:List Bs)) b wA ?_;rintro ⟨M,ae,N⟩ b bw aU;cases M with
   | zero=>cases b
   | succ M =>
     rw [wD] at b;refine Y3 ?_;refine ar fun bz aV=>?_;refine cE b (fun aW b=>?_) (fun aW b=>?_)
     ·refine sk aV (ar fun bA aX=>Y2 ?_);obtain⟨ak,aY,b⟩:=bO b;refine S (ix Z8.c ae aY) (Y4 ?_);refine bx 11 _ rfl (kl [1,2,5,7,50,51,52]) ?_;refine Y4 ?_;refine dG (mapUpdate (TK rfl) rfl (TK rfl) rfl rfl rfl rfl aA (rK _ _) rfl) rfl rfl ?_;refine hq ((H.set f (some (.tok 1 0))).set g (some (.map (bK (cw N ak.aa))))) (Y1 ?_);refine aX _ ?_;refine Y4 ?_
      exact aU _ (M,(ae+1),(cw N ak.aa)) wA b (nS _)
     refine ah.exit ?_;exact C _ N wA b
  refine ah.skip ?_;exact C _ ([]:List Bs) wA b
 rintro aZ b;unfold sZ at b;refine aR (tl [2,7]) (fun(z:(List Bs))=>[]) (fun z=>((H.set f (some (.tok 1 0))).set g (some (.map (bK z))))) (fun z=>Bp a0 z=some r) ?_ ?_
 ·intro bB a1;refine ar fun bC a2=>ah.O8 g (l:=aZ) aA fun k O j a3=>?_;refine ah.jR (h':=((H.set f (some (.tok 1 0))).set g (some (.ea k (.map (mE O).toArray j))))) (by first|rfl|(rw [af.set_set]; rfl)|(funext n_; simp only [af.set]; (repeat' split)<;>first|rfl|(exfalso; simp_all; done)|(simp_all; done))) ?_;refine Y2 ?_
  refine sE (dx.Pa (TK rfl) rfl rfl aA) rfl ?_;rintro _ _ _ ⟨q,t,u,rfl,rfl,rfl⟩;obtain⟨a4,u⟩:=af.dW u;obtain⟨a5,u⟩:=af.dW u;refine hq (((H.set f (some (.tok 1 0))).set g (some (.ea k (.map (mE O).toArray j)))).set q (some (.ea t (.mapIter (some k) j (#[]) j)))) (Y1 ?_)
  refine a2 _ ?_;refine Y1 ?_;obtain⟨P,a6,b⟩:=bO b;refine bD (tl [1,2,5,7,61]) (fun(z:List (Bs×Nat)×Array Nat)=>[]) (fun z=>(((H.set f (some (.tok 1 0))).set g (some (.ea k (.map (mE z.1).toArray j)))).set q (some (.ea t (.mapIter (some k) j z.2 j))))) (fun z=>(dO z.1 z.2).length) (fun z=>gq (wC a0 p x3) P j z) (O,#[]) (gq.start a6 a3) wA ?_
  rintro ⟨G,v⟩ m bE al;refine ar fun bF an=>Y1 ?_;refine sE (dx.Pb (id:=g) rfl aA aA m.pop.lt (fun x hx=>m.pop.len _ (List.mem_map_of_mem hx))) rfl ?_;rintro _ _ _ ⟨rfl,⟨a7,rfl,rfl⟩|⟨ao,I,w,rfl,rfl⟩⟩
  ·refine Y2 ?_;refine an _ ?_;refine ar fun a8 ap=>ah.O9 g aA m.pop ?_;rw [m.done a7]
   refine ah.jR (h':=(((H.set f (some (.tok 1 0))).set g (some (.map (bK P)))).set q (some (.ea t (.mapIter (some k) j v j))))) (by first|rfl|(rw [af.set_set]; rfl)|(funext n_; simp only [af.set]; (repeat' split)<;>first|rfl|(exfalso; simp_all; done)|(simp_all; done))) ?_;refine ah.cond rfl (fun Q=>by cases Q) fun _=>?_;refine ah.exit ?_
   exact a1 _ P (ck.toFA (by(intro J a9 s); (have a_:J≠q:=fun y=>by rw [y] at s; simp [af.set,u,a5,a4] at s); (rw [<- s]); (simp only [af.set,if_neg a_]); (first|done|rfl))) b
  obtain⟨r,R⟩:=m.told _ (yl w).1;have b:=R;simp only at b;unfold wC at b;refine hq (((H.set f (some (.tok 1 0))).set g (some (.ea k (.map (mE G).toArray j)))).set q (some (.ea t (.mapIter (some k) j (v.push I) j)))) (Y2 ?_);refine an _ ?_;refine ar fun a8 ap=>ah.cond rfl (fun _=>?_) (fun Q=>by cases Q);refine ah.skip ?_;refine ap _ ?_
  refine Y2 ?_;refine s0 (Pe (id:=g) rfl aA aA (yl w).1 m.pop.nodup (m.pop.len _ (List.mem_map_of_mem (yl w).1))) rfl ?_;refine Y6 ?_;obtain⟨bI,a',b⟩:=bO b;refine Sc rfl rfl (oo a') (Y7 ?_);refine bx 13 _ rfl (kl [1,2,5,7,12,14,61]) ?_;refine Y5 ?_;refine Gk 75 ?_;refine Gk 76 ?_;refine Y3 ?_;refine Gk 80 ?_;refine Gk 81 ?_;refine Gk 82 ?_;refine Y2 ?_
  obtain⟨bJ,ba,b⟩:=gO b;refine fE 84 85 rfl rfl rfl rfl rfl rfl (fun hC=>ML (ba hC)) ?_;refine Gk 86 ?_;refine bG 83 rfl (fun hC=>kr rfl rfl rfl) ?_;refine Y2 ?_;refine cE b (fun bb b=>?_) (fun bb b=>?_)
  ·refine Y3 ?_;refine dG (Pc (TK rfl) rfl (TK rfl) rfl rfl rfl rfl aA (fun x hx=>m.pop.len _ (List.mem_map_of_mem hx))) rfl rfl ?_;refine hq (((H.set f (some (.tok 1 0))).set g (some (.ea k (.map (mE (ig G ao)).toArray j)))).set q (some (.ea t (.mapIter (some k) j (v.push I) j)))) (Y1 ?_);obtain rfl:=oJ b;obtain⟨U,W⟩:=m.drop w R
   exact al _ ((ig G ao),v.push I) wA U W
  refine ah.skip ?_;obtain rfl:=oJ b;obtain⟨U,W⟩:=m.keep w R;exact al _ (G,v.push I) wA U W
 rintro bc b;unfold Bp at b;refine Y3 ?_;refine ah.fK 15 1 f rfl aA ?_;refine aR kN (fun(z:(Sl Bs)×(List Bs))=>[(15,.a (.d (Sl.d 1 aB (some f) z.1)))]) (fun z=>((tS H f 1 z.1).set g (some (.map (bK z.2))))) (fun z=>FN z.1 z.2=some r) ?_ ?_
 ·intro bL bd;refine Y3 ?_;refine aT ag.c a0.aj fun bM=>Y3 ?_;refine bD (tl [7,93,94]) (fun(z:Nat×(Sl Bs)×Nat×(List Bs))=>[(15,.a (.d (Sl.d 1 aB (some f) z.2.1))),(95,vi z.2.2.1)]) (fun z=>((tS H f 1 z.2.1).set g (some (.map (bK z.2.2.2))))) (fun z=>z.1) (fun z=>sY a0 z.1 z.2.1 z.2.2.1 z.2.2.2=some r) ((a0.aj.l.length+1),(Sl.nil:Sl Bs),0,bc) b wA ?_
  rintro ⟨K,av,X,B⟩ b bN be;cases K with
  | zero=>cases b
  | succ K =>
    rw [sY] at b;refine Y3 ?_;refine ar fun bP bf=>?_;refine cE b (fun bg b=>?_) (fun bg b=>?_)
    ·refine sk bf (aR (tl [7,93,94,95]) (fun(z:(Sl Bs)×(List Bs))=>[(15,.a (.d (Sl.d 1 aB (some f) z.1)))]) (fun z=>((tS H f 1 z.1).set g (some (.map (bK z.2))))) (fun z=>y8 X ((sY a0 K)) z.1 z.2=some r) ?_ ?_)
     ·intro bQ aw;refine Y2 ?_;obtain⟨ax,bh,b⟩:=bO b;refine S (ix ag.c X bh) (Y4 ?_);refine bx 17 _ rfl (kl [7,15,93,94,95]) ?_;refine Y4 ?_;refine s0 (uk (TK rfl) rfl (TK rfl) (TK rfl) rfl rfl rfl rfl aA) rfl ?_;refine Y1 ?_;refine cE b (fun bi b=>?_) (fun bi b=>?_)
      ·refine Y5 ?_;obtain⟨Y,bj,b⟩:=bO b;refine SH (am aB (TK rfl) rfl (TK rfl) (TK rfl) bj) ?_;refine hq ((tS H f 1 Y).set g (some (.map (bK B)))) (Y6 ?_);refine dG (Pd (TK rfl) rfl (TK rfl) rfl rfl rfl rfl aA) rfl rfl ?_;refine hq ((tS H f 1 Y).set g (some (.map (bK (List.erase B ax.aa))))) (Y1 ?_);exact aw _ (Y,(List.erase B ax.aa)) wA b
      refine ah.skip ?_;exact aw _ (av,B) wA b
     rintro ⟨bk,bl⟩ b;unfold y8 at b;refine Y4 ?_;exact be _ (K,bk,(X+1),bl) wA b (nS _)
    refine ah.exit ?_;exact bd _ (av,B) wA b
 rintro ⟨bR,bS⟩ b;unfold FN at b;refine Y4 ?_;refine ah.dV 4 rfl ?_;refine ry ?_;obtain rfl:=oJ b;refine bH.b9 H rfl ⟨rfl,rfl⟩ ?_;intro J a9 s;have bT:J≠f:=fun y=>by subst y; simp_all [af.set]
 have bU:J≠g:=fun y=>by subst y; simp_all [af.set]
 rw [<- s];simp only [af.set] at s ⊢;(repeat' split)<;>simp_all
def Ep (a0:ai) (b:Bs):Option (Sl Bs):=Bq a0 b
def wF (a0:ai) (f:Bs) (g:Bs):Option Bool:=(Ep a0 g).bind fun x3=>on (lE x3 f) fun b=>some b
theorem Wq {a0 f g r}(b:wF a0 f g=some r) (H:af) :AC Tryz.prog 185 [.agg (ai.c a0),.d (.str f),.d (.str g)] H (RT (.a (.d (.bool r))) H):=by
 unfold wF at b;refine AC.oW 12 [.tmp 6] Tryz.call185 Tryz.func185 ?_;refine Y7 ?_;obtain⟨x3,j,b⟩:=qT rfl b;refine Sc rfl rfl (Wp j) (Y1 ?_);obtain⟨l,k,b⟩:=vT rfl b;refine Sc rfl rfl (xm k) (Y2 ?_);exact rt b
def ph:Nat->ai->aL->aL->Option Bool
 | 0,_,_,_=>none
 | n+1,a0,b,f=>on (iP f) fun k=>bif k then(on (iP b) fun x7=>aY (x7) (qw b) aL.zero fun l=>aY (x7) (qw f) aL.zero fun m=>aY (x7) ((ph n) a0 l m) false fun p=>some (x7&&p)) else(on (iP b) fun q=>bif q then((qw b).bind fun r=>((ph n) a0 r f).bind fun s=>some s) else((sK b).bind fun g=>(sK f).bind fun j=>bif (g.2||j.2) then(aY ((g.2&&j.2)) ((ph n) a0 g.1 j.1) false fun t=>some ((g.2&&j.2)&&t)) else(aY (!((b.aa==f.aa))) (wF a0 b.aa f.aa) false fun u=>some (((b.aa==f.aa))||u))))
def FO (n:Nat):Prop:=∀{a0:ai}{a1:aL}{a2:aL}   {r:Bool},ph n a0 a1 a2=some r->∀(H:af),AC Tryz.prog 156 [.agg (ai.c a0),.agg (aL.c a1),.agg (aL.c a2)] H fun v h'=>v=.a (.d (.bool r))/\h'=H
theorem Ws (n:Nat) (f:FO (av:=av) n):FO (av:=av) (n+1):=by
 intro a0 Y Z   r b H;rw [ph] at b;refine AC.oW 67 [.tmp 6] Tryz.call156 Tryz.func156 ?_;refine Y6 ?_;refine ar fun I g=>Y2 ?_;obtain⟨J,j,b⟩:=vT rfl b;refine Sc rfl rfl (tQ j) (Y1 ?_);refine cE b (fun l b=>?_) (fun l b=>?_)
 ·refine Y2 ?_;obtain⟨x7,m,b⟩:=vT rfl b;refine cH rfl rfl (tQ m) (Y3 ?_);obtain⟨K,p,b⟩:=eE rfl b;refine oH 17 rfl rfl rfl rfl rfl (fun hC=>zP (p hC)) ?_;refine Y1 ?_;obtain⟨L,q,b⟩:=eE rfl b;refine oH 19 rfl rfl rfl rfl rfl (fun hC=>zP (q hC)) ?_;obtain⟨M,s,b⟩:=eE rfl b
  refine aN.gC rfl rfl (fun hC=>jS (k:=16) rfl (jS (k:=18) rfl (jS (k:=20) rfl (jQ rfl rfl (fun H=>f (s hC) H))))) rfl ?_;refine Y3 ?_;exact rt b
 refine sk g (ar fun N t=>Y2 ?_);obtain⟨O,u,b⟩:=vT rfl b;refine Sc rfl rfl (tQ u) (Y1 ?_);refine cE b (fun v b=>?_) (fun v b=>?_)
 ·refine Y3 ?_;obtain⟨P,w,b⟩:=qT rfl b;refine cH rfl rfl (zP w) (Y1 ?_);obtain⟨Q,y,b⟩:=qT rfl b;refine cH rfl rfl (f y) (Y2 ?_);exact rt b
 refine sk t (Y2 ?_);obtain⟨R,z,b⟩:=qT rfl b;refine Sc rfl rfl (FM z) (Y7 ?_);refine bx 7 _ rfl (kl [3,4,5,8]) ?_;refine Y2 ?_;obtain⟨S,B,b⟩:=qT rfl b;refine Sc rfl rfl (FM B) (Y7 ?_);refine bx 9 _ rfl (kl [3,4,5,7,8,10]) ?_;refine ar fun U C=>Y6 ?_;refine cE b (fun E b=>?_) (fun E b=>?_)
 ·refine Y9 ?_;obtain⟨W,F,b⟩:=eE rfl b;refine gC rfl rfl (fun hC=>jS (k:=49) rfl (jS (k:=50) rfl (jS (k:=51) rfl (jQ rfl rfl (fun H=>f (F hC) H))))) rfl ?_;refine Y3 ?_;exact rt b
 refine sk C (Y9 ?_);refine Gk 61 ?_;refine Y1 ?_;refine Gk 63 ?_;obtain⟨X,G,b⟩:=eE rfl b;refine gC rfl rfl (fun hC=>jS (k:=60) rfl (jS (k:=62) rfl (jS (k:=64) rfl (jQ rfl rfl (fun H=>Wq (G hC) H))))) rfl ?_;refine Y3 ?_;exact rt b
theorem MM:∀(n:Nat),(FO (av:=av) n)
 | 0=>fun b=>by first|cases b|(rw [ph] at b; cases b)
 | n+1=>Ws n (MM n)
def Wt (a0:ai) (b:aL) (f:aL):Option Bool:=ph F0 a0 b f
theorem Wu {a0 b f r}(g:Wt a0 b f=some r) (H:af) :AC Tryz.prog 156 [.agg (ai.c a0),.agg (aL.c b),.agg (aL.c f)] H fun v h'=>v=.a (.d (.bool r))/\h'=H:=(MM F0) g H 
def Bu (a0:ai) (b:aL) (f:aL):Option Bool:=ph F0 a0 b f
def oZ (f:Bs):List Z7->Unit ⊕ ((Z7×Bool))
 | []=>Sum.inl ()
 | g::j=>on (g) fun b=>bif ((b.aa==f)) then(Sum.inr (b,true)) else(oZ f (j) )
def o4 (a0:(Sl Z7)) (g:Bs):(Z7×Bool):=on (oZ g a0.l ) fun b=>match b with|Sum.inl _=>(on (()) fun _=>((Z7.mk [] aL.zero false Z9.zero Sl.nil),false))|Sum.inr f=>(f)
theorem CA {a0 f w0 r}(b:some (o4 a0 f)=some r) (H:af) :AC Tryz.prog 157 [.d (Sl.d 10 Z7.c w0 a0),.d (.str f)] H (RT (.cI [.agg (Z7.c r.1),.d (.bool r.2)]) H):=by
 unfold o4 at b;refine AC.oW 21 [.cell 4 81,.tmp 5] Tryz.call157 Tryz.func157 ?_;refine Y4 ?_;refine cT (tl [4]) (fun(z:Z7)=>[]) (fun z=>[Z7.c z]) (fun z=>H) (fun z=>some (((Z7.mk [] aL.zero false Z9.zero Sl.nil),false))=some r) ?_ ?_
 ·intro C q;refine Y2 ?_;refine aT Z7.c a0 fun E=>Y3 ?_;obtain⟨g,j,b⟩:=dX b;refine eZ (tl [1,4,8,9]) (fun(z:Nat×Z7)=>[(10,vi z.1)]) (fun z=>[Z7.c z.2]) (fun z=>H) (fun z=>a0.l.length-z.1) (fun z=>g (oZ f (a0.l.drop z.1) )=some r) (0,Z7.zero) b wA ?_;rintro ⟨k,m⟩ b F s;refine Y3 ?_;refine ar fun G t=>?_
  refine ah.bL (fun l=>g (oZ f l )=some r) b rfl (fun I p u b=>?_) (fun u b=>?_)
  ·rw [oZ] at b;refine sk t (ar fun J v=>Y2 ?_);obtain⟨K,w,b⟩:=vP p b;refine S (ix Z7.c k w) (Y4 ?_);refine bx 7 _ rfl (kl [1,4,8,9,10]) ?_;refine Y6 ?_;refine cP b (fun y b=>?_) (fun y b=>?_)
   ·refine Y5 ?_;exact rs (ku j b:)
   refine sk v (Y4 ?_);exact s _ ((k+1),m) wA b (dl p)
  rw [oZ] at b;have b:=ku j b;refine ah.exit ?_;obtain⟨L,B,b⟩:=dX b;exact q _ m wA (ku B b:)
 rintro M b;refine Y5 ?_;exact rt b
def nK (f:(Sl Int)):List Int->Nat->Option (Unit ⊕ Bool)
 | [],b=>some (Sum.inl ())
 | g::j,b=>on (g) fun k=>(f.l[b]?).bind fun m=>bif (!decide (k=m)) then(some (Sum.inr false)) else(nK f (j) (b+1) )
def wx (a0:(Sl Int)) (b:(Sl Int)):Option Bool:=bif (!decide (((a0.l.length:Nat):Int)=((b.l.length:Nat):Int))) then(some false) else(Option.bind (nK b a0.l 0 ) fun f=>match f with|Sum.inl _=>(on (()) fun _=>some true)|Sum.inr g=>(some g))
theorem Wv {a0 f w0 p r}(b:wx a0 f=some r) (H:af) :AC Tryz.prog 186 [.d (Sl.d 1 (bI .i64) w0 a0),.d (Sl.d 1 (bI .i64) p f)] H (RT (.a (.d (.bool r))) H):=by
 unfold wx at b;refine AC.oW 26 [.tmp 4] Tryz.call186 Tryz.func186 ?_;refine Y3 ?_;refine ar fun G q=>Y2 ?_;refine aT (bI .i64) a0 fun I=>Y1 ?_;refine aT (bI .i64) f fun J=>Y2 ?_;refine cE b (fun s b=>?_) (fun s b=>?_)
 ·refine Y3 ?_;exact rt b
 refine sk q (aR kN (fun(z:Unit)=>[]) (fun z=>H) (fun z=>(some true)=some r) ?_ ?_)
 ·intro K t;refine Y2 ?_;refine aT (bI .i64) a0 fun L=>Y3 ?_;obtain⟨j,k,b⟩:=bZ b;refine bD (tl [0,1,12]) (fun(z:Nat)=>[(13,vi z)]) (fun z=>H) (fun z=>a0.l.length-z) (fun z=>Option.bind (nK f (a0.l.drop z) z ) j=some r) 0 b wA ?_;rintro g b M u;refine Y3 ?_;refine ar fun N v=>?_
  refine ah.bL (fun l=>Option.bind (nK f l g ) j=some r) b rfl (fun O m w b=>?_) (fun w b=>?_)
  ·rw [nK] at b;refine sk v (ar fun P y=>Y8 ?_);obtain⟨Q,B,b⟩:=vO m b;refine Sd (ix (bI .i64) g B) (Y3 ?_);obtain⟨R,C,b⟩:=qO rfl b;refine Sd (ix (bI .i64) g C) (Y3 ?_);refine cO b (fun E b=>?_) (fun E b=>?_)
   ·refine Y3 ?_;exact rs (ku k b:)
   refine sk y (Y4 ?_);exact u _ (g+1) wA b (dl m)
  rw [nK] at b;have b:=ku k b;refine ah.exit ?_;obtain⟨S,F,b⟩:=bW b;exact t _ () wA (ku F b:)
 rintro _ b;refine Y3 ?_;exact rt b
def za (a0:aL) (b:aL):Option Bool:=aY (((a0.aa==b.aa))) (wx a0.aK b.aK) false fun x3=>some (((a0.aa==b.aa))&&x3)
theorem Ww {a0 f r}(b:za a0 f=some r) (H:af) :AC Tryz.prog 158 [.agg (aL.c a0),.agg (aL.c f)] H (RT (.a (.d (.bool r))) H):=by
 unfold za at b;refine AC.oW 17 [.tmp 4] Tryz.call158 Tryz.func158 ?_;refine HY ?_;refine Gk 11 ?_;refine Y1 ?_;refine Gk 13 ?_;obtain⟨x3,g,b⟩:=eE rfl b;refine fE 12 14 rfl rfl rfl rfl rfl rfl (fun hC=>Wv (g hC)) ?_;refine Y3 ?_;exact rt b
def mC (j:Bs) (k:(Z6×Bool)):List Z7->Z0->Option (Z0)
 | [],b=>some b
 | l::m,b=>on (l) fun f=>on (o4 k.1.az f.aa) fun g=>aY (!(!g.2)) (za f.ax g.1.ax) false fun p=>Option.bind (bif ((!g.2)||(!p)) then((bV j ([40]:Bs)).bind fun q=>(bV q f.aa).bind fun r=>(bV r ([41]:Bs)).bind fun s=>(kJ b (22:Int) s).bind fun t=>some t) else(some b)) fun u=>mC j k (m) u
def mD (g:Z6) (j:Bs):List Z7->Z0->Option (Z0)
 | [],b=>some b
 | l::m,b=>on (l) fun f=>on (o4 g.az f.aa) fun k=>on (bif (!k.2) then iP f.ax else false) fun p=>Option.bind (bif (((!k.2)&&p)&&(!f.b_)) then((bV j ([40]:Bs)).bind fun q=>(bV q f.aa).bind fun r=>(bV r ([41]:Bs)).bind fun s=>(kJ b (22:Int) s).bind fun t=>some t) else(some b)) fun u=>mD g j (m) u
def pw (k:ag):List Z6->Z0->Option (Z0)
 | [],b=>some b
 | m::p,b=>on (m) fun f=>(bV k.aa ([46]:Bs)).bind fun q=>(bV q f.aa).bind fun g=>on (yV k f.aa) fun j=>Option.bind (bif (!j.2) then((kJ b (20:Int) g).bind fun r=>some r) else((Bu b.Fd j.1.ax f.ax).bind fun s=>Option.bind (bif (!s) then((kJ b (10:Int) g).bind fun t=>some t) else(some b)) fun u=>Option.bind (mC g j f.az.l u) fun v=>on (v) fun w=>Option.bind (mD f g j.1.az.l w) fun y=>some y)) fun z=>pw k (p) z
def zc (a0:Z0) (f:ag) (g:ag):Option Z0:=Option.bind (pw f g.an.l a0) fun b=>some b
theorem Wx {a0 s p c0 f r}(b:zc a0 s p=some r) (H:af) (bX:H c0=some (.cells (Z0.cg (some f) a0))) (a':H f=some (.tok 2 a0.dR.l.length)):AC Tryz.prog 128 [.d (.ptr c0 0),.agg (ag.c s),.agg (ag.c p)] H fun v h'=>v=.cI []/\h'=((tS H f 2 r.dR).set c0 (some (.cells (Z0.cg (some f) r)))):=by
 unfold zc at b;refine AC.oW 128 [] Tryz.call128 Tryz.func128 ?_;have ba:c0≠f:=fun W=>by subst W; simp_all
 refine hz ((tS H f 2 a0.dR).set c0 (some (.cells (Z0.cg (some f) a0)))) (Y7 ?_);refine aT Z6.c p.an fun bb=>Y3 ?_;obtain⟨u,X,b⟩:=bZ b;refine bD (tl [0,4,20,21]) (fun(z:Nat×Z0)=>[(22,vi z.1)]) (fun z=>((tS H f 2 z.2.dR).set c0 (some (.cells (Z0.cg (some f) z.2))))) (fun z=>p.an.l.length-z.1) (fun z=>Option.bind (pw s (p.an.l.drop z.1) z.2) u=some r) (0,a0) b wA ?_
 rintro ⟨w,t⟩ b bc Y;refine Y3 ?_;refine ar fun bd Z=>?_;refine ah.bL (fun l=>Option.bind (pw s l t) u=some r) b rfl (fun be G aa b=>?_) (fun aa b=>?_)
 ·rw [pw] at b;refine sk Z (aR (tl [0,4,20,21,22]) (fun(z:Z0)=>[]) (fun z=>((tS H f 2 z.dR).set c0 (some (.cells (Z0.cg (some f) z))))) (fun z=>Option.bind (pw s (p.an.l.drop (w+1)) z) u=some r) ?_ ?_)
  ·intro bf I;refine Y2 ?_;obtain⟨g,ab,b⟩:=vO G b;refine S (ix Z6.c w ab) (Y4 ?_);refine bx 7 _ rfl (kl [0,4,20,21,22]) ?_;refine Y3 ?_;obtain⟨bg,ad,b⟩:=qO rfl b;refine S (dy ad) (Y2 ?_);obtain⟨k,ae,b⟩:=qO rfl b;refine S (dy ae) (Y6 ?_);obtain⟨j,ai,b⟩:=vO rfl b;refine Sc rfl rfl (Wn ai) (Y7 ?_);refine bx 9 _ rfl (kl [0,4,7,8,10,20,21,22]) ?_
   refine ar fun bh aj=>Y4 ?_;obtain⟨J,K,b⟩:=cM b;refine cO b (fun ak b=>?_) (fun ak b=>?_)
   ·refine Y3 ?_;obtain⟨al,am,b⟩:=qO rfl b;refine sH (bS rfl rfl (xw am _ aA aA)) rfl ?_;refine Y1 ?_;refine ah.exit ?_;exact I _ al wA (ku K b:)
   refine sk aj (aR (tl [0,4,7,8,9,20,21,22]) (fun(z:Z0)=>[]) (fun z=>((tS H f 2 z.dR).set c0 (some (.cells (Z0.cg (some f) z))))) (fun z=>Option.bind (Option.bind (mC k j g.az.l z) fun q=>on (q) fun y=>Option.bind (mD g k j.1.az.l y) fun m=>some m) J=some r) ?_ ?_)
   ·intro bi L;refine Y9 ?_;obtain⟨bj,ao,b⟩:=qO rfl b;refine cH rfl rfl (Wu ao) (Y2 ?_);obtain⟨bk,M,b⟩:=cM b;refine cO b (fun ap b=>?_) (fun ap b=>?_)
    ·refine Y3 ?_;obtain⟨au,av,b⟩:=qO rfl b;refine sH (bS rfl rfl (xw av _ aA aA)) rfl ?_;refine Y1 ?_;exact L _ au wA (ku M b:)
    refine ah.skip ?_;exact L _ t wA (ku M b:)
   rintro aw b;refine aR (tl [0,4,7,8,9,20,21,22]) (fun(z:Z0)=>[]) (fun z=>((tS H f 2 z.dR).set c0 (some (.cells (Z0.cg (some f) z))))) (fun z=>Option.bind (Option.bind (mD g k j.1.az.l z) fun m=>some m) J=some r) ?_ ?_
   ·intro bl ax;refine Y3 ?_;refine aT Z7.c g.az fun bm=>Y3 ?_;obtain⟨B,ay,b⟩:=cM b;refine bD (tl [0,4,7,8,9,20,21,22,58,59]) (fun(z:Nat×Z0)=>[(60,vi z.1)]) (fun z=>((tS H f 2 z.2.dR).set c0 (some (.cells (Z0.cg (some f) z.2))))) (fun z=>g.az.l.length-z.1) (fun z=>Option.bind (mC k j (g.az.l.drop z.1) z.2) B=some r) (0,aw) b wA ?_;rintro ⟨C,q⟩ b bo aB
    refine Y3 ?_;refine ar fun bp aC=>?_;refine ah.bL (fun l=>Option.bind (mC k j l q) B=some r) b rfl (fun bq N aD b=>?_) (fun aD b=>?_)
    ·rw [mC] at b;refine sk aC (aR (tl [0,4,7,8,9,20,21,22,58,59,60]) (fun(z:Z0)=>[]) (fun z=>((tS H f 2 z.dR).set c0 (some (.cells (Z0.cg (some f) z))))) (fun z=>Option.bind (mC k j (g.az.l.drop (C+1)) z) B=some r) ?_ ?_)
     ·intro br O;refine Y2 ?_;obtain⟨bs,aE,b⟩:=vO N b;refine S (ix Z7.c C aE) (Y4 ?_);refine bx 12 _ rfl (kl [0,4,7,8,9,20,21,22,58,59,60]) ?_;refine Y5 ?_;obtain⟨bt,aF,b⟩:=vO rfl b;refine Sc rfl rfl (CA aF) (Y7 ?_);refine bx 13 _ rfl (kl [0,4,7,8,9,12,14,20,21,22,58,59,60]) ?_;refine Y5 ?_;refine Gk 75 ?_;refine Y1 ?_;refine Gk 77 ?_;obtain⟨bu,aG,b⟩:=e8 rfl b
      refine fE 76 78 rfl rfl rfl rfl rfl rfl (fun hC=>Ww (aG hC)) ?_;refine Gk 79 ?_;refine Y2 ?_;obtain⟨bv,P,b⟩:=cM b;refine cO b (fun aH b=>?_) (fun aH b=>?_)
      ·refine Y3 ?_;obtain⟨bw,aI,b⟩:=qO rfl b;refine S (dy aI) (Y2 ?_);obtain⟨bz,aK,b⟩:=qO rfl b;refine S (dy aK) ?_;obtain⟨bA,aL,b⟩:=qO rfl b;refine S (dy aL) ?_;obtain⟨aM,aP,b⟩:=qO rfl b;refine sH (bS rfl rfl (xw aP _ aA aA)) rfl ?_;refine Y1 ?_;exact O _ aM wA (ku P b:)
      refine ah.skip ?_;exact O _ q wA (ku P b:)
     rintro aQ b;refine Y4 ?_;exact aB _ ((C+1),aQ) wA b (dl N)
    rw [mC] at b;have b:=ku ay b;refine ah.exit ?_;obtain⟨bB,aU,b⟩:=gM b;exact ax _ q wA (ku aU b:)
   rintro y b;refine Y3 ?_;refine aT Z7.c j.1.az fun bC=>Y3 ?_;obtain⟨E,aV,b⟩:=cM b;refine bD (tl [0,4,7,8,20,21,22,92,93]) (fun(z:Nat×Z0)=>[(94,vi z.1)]) (fun z=>((tS H f 2 z.2.dR).set c0 (some (.cells (Z0.cg (some f) z.2))))) (fun z=>j.1.az.l.length-z.1) (fun z=>Option.bind (mD g k (j.1.az.l.drop z.1) z.2) E=some r) (0,y) b wA ?_
   rintro ⟨F,m⟩ b bE aW;refine Y3 ?_;refine ar fun bF aX=>?_;refine ah.bL (fun l=>Option.bind (mD g k l m) E=some r) b rfl (fun bG Q aY b=>?_) (fun aY b=>?_)
   ·rw [mD] at b;refine sk aX (aR (tl [0,4,7,8,20,21,22,92,93,94]) (fun(z:Z0)=>[]) (fun z=>((tS H f 2 z.dR).set c0 (some (.cells (Z0.cg (some f) z))))) (fun z=>Option.bind (mD g k (j.1.az.l.drop (F+1)) z) E=some r) ?_ ?_)
    ·intro bI R;refine Y2 ?_;obtain⟨bJ,aZ,b⟩:=vO Q b;refine S (ix Z7.c F aZ) (Y4 ?_);refine bx 16 _ rfl (kl [0,4,7,8,20,21,22,92,93,94]) ?_;refine Y5 ?_;obtain⟨bK,a1,b⟩:=vO rfl b;refine Sc rfl rfl (CA a1) (Y7 ?_);refine bx 17 _ rfl (kl [0,4,7,8,16,18,20,21,22,92,93,94]) ?_;refine Y5 ?_;refine Gk 109 ?_;obtain⟨bM,a2,b⟩:=ej (fun _=>rfl) b
     refine dQ 110 rfl rfl rfl rfl rfl (fun hC=>tQ (a2 hC)) ?_;refine Y3 ?_;refine Gk 114 ?_;refine Gk 115 ?_;refine Y2 ?_;obtain⟨bN,U,b⟩:=cM b;refine cO b (fun a3 b=>?_) (fun a3 b=>?_)
     ·refine Y3 ?_;obtain⟨bO,a4,b⟩:=qO rfl b;refine S (dy a4) (Y2 ?_);obtain⟨bP,a5,b⟩:=qO rfl b;refine S (dy a5) ?_;obtain⟨bQ,a6,b⟩:=qO rfl b;refine S (dy a6) ?_;obtain⟨a7,a8,b⟩:=qO rfl b;refine sH (bS rfl rfl (xw a8 _ aA aA)) rfl ?_;refine Y1 ?_;exact R _ a7 wA (ku U b:)
     refine ah.skip ?_;exact R _ m wA (ku U b:)
    rintro a9 b;refine Y4 ?_;exact aW _ ((F+1),a9) wA b (dl Q)
   rw [mD] at b;have b:=ku aV b;refine ah.exit ?_;exact I _ m wA (ku K b:)
  rintro a_ b;refine Y4 ?_;exact Y _ ((w+1),a_) wA b (dl G)
 rw [pw] at b;have b:=ku X b;refine ah.exit ?_;repeat (first|refine fW ?_|refine fV ?_|refine fU ?_)
 obtain rfl:=oJ b;refine bH.gm ((tS H f 2 t.dR).set c0 (some (.cells (Z0.cg (some f) t)))) (xs:=[]) rfl ⟨rfl,rfl⟩ ?_;exact(fun _ _ h=>h)
end Go.Proofs
