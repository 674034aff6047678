import Derived.Test.YtdlobimnfmjonaaGreatDoorV5
set_option maxRecDepth 100000
set_option maxHeartbeats 2000000
set_option linter.unusedVariables false
set_option linter.unusedSimpArgs false
namespace Go.Proofs
open Go Go.Ab
open aK an ag dJ fN
attribute [local irreducible] aK aN ag an
variable {au:bS}
def oq (f:ah):List Bs->Nat->Z0->Option (Z0)
 | [],j,b=>some b
 | p::q,j,b=>on (p) fun k=>on (xd b k (2:Int)) fun g=>on (bif (decide (g=(0:Int))) then(⟨f.aM.nl,f.aM.l.take j⟩:Sl Bs) else(Sl.nil:Sl Bs)) fun r=>on (bif (decide (g=(0:Int))) then lX r k else false) fun s=>on (bif ((decide (g=(0:Int)))&&s) then((7:Int)) else(g)) fun m=>Option.bind (bif (!decide (m=(0:Int))) then((k9 b m f.aa).bind fun t=>some t) else(on (fA b.Fd k) fun u=>(zB b f u.1).bind fun v=>some v)) fun w=>oq f (q) (j+1) w
def BO (a0:Z0) (b:ah):Option Z0:=Option.bind (oq b b.aM.l 0 a0) fun f=>some f
theorem WS {a0 j c0 g r}(b:BO a0 j=some r) (H:af) (b7:H c0=some (.cells (Z0.cg (some g) a0))) (ab:H g=some (.tok 2 a0.ep.l.length)):At 80 [.d (.ptr c0 0),.agg (ah.c j)] H (RT (.cL []) (((tS H g 2 r.ep).set c0 (some (.cells (Z0.cg (some g) r)))))):=by
 unfold BO at b;refine AC.oW 51 [] Tryz.call80 Tryz.func80 ?_;have ad:c0≠g:=fun F=>by subst F; simp_all
 refine hz ((tS H g 2 a0.ep).set c0 (some (.cells (Z0.cg (some g) a0)))) (Y6 ?_);refine aU aG j.aM fun ae=>Y3 ?_;obtain⟨p,G,b⟩:=bZ b
 refine bz (tl [0,3,10,11]) (fun(z:Nat×Z0)=>[(12,vi z.1)]) (fun z=>((tS H g 2 z.2.ep).set c0 (some (.cells (Z0.cg (some g) z.2))))) (fun z=>j.aM.l.length-z.1) (fun z=>Option.bind (oq j (j.aM.l.drop z.1) z.1 z.2) p=some r) (0,a0) b wA ?_;rintro ⟨k,m⟩ b ai I;refine Y3 ?_;refine ar fun aj J=>?_
 refine ag.bJ (fun l=>Option.bind (oq j l k m) p=some r) b rfl (fun ak u v b=>?_) (fun v b=>?_)
 ·rw [oq] at b;have al:=oD v;refine sk J (aO (tl [0,3,10,11,12]) (fun(z:Z0)=>[]) (fun z=>((tS H g 2 z.ep).set c0 (some (.cells (Z0.cg (some g) z))))) (fun z=>Option.bind (oq j (j.aM.l.drop (k+1)) (k+1) z) p=some r) ?_ ?_)
  ·intro am w;refine Y3 ?_;obtain⟨K,L,b⟩:=vO u b;refine S (ix aG k L) (Y7 ?_);obtain⟨M,N,b⟩:=eG b;refine s0 (eE rfl rfl (Na N _ az)) rfl ?_;refine Y2 ?_
   refine aO (tl [0,3,5,10,11,12]) (fun(z:Int)=>[(6,.a (.d (.int .i64 z)))]) (fun z=>((tS H g 2 m.ep).set c0 (some (.cells (Z0.cg (some g) m))))) (fun z=>Option.bind (Option.bind (bif (!decide (z=(0:Int))) then((k9 m z j.aa).bind fun q=>some q) else(on (fA m.Fd K) fun y=>(zB m j y.1).bind fun s=>some s)) fun t=>oq j (j.aM.l.drop (k+1)) (k+1) t) p=some r) ?_ ?_
   ·intro ao B;refine Y5 ?_;refine Gk 23 ?_;refine Y1 ?_;obtain⟨ap,O,b⟩:=ee (fun _=>(Q.uP (by omega))) b;refine fJ 24 25 rfl rfl (fun hC=>lN (f:=aG) (l:=none) (r:=(some ((k:Nat):Int))) (TK rfl) rfl (TK rfl) rfl rfl trivial rfl (O hC)) ?_;refine Y1 ?_;obtain⟨aq,P,b⟩:=ee (fun _=>rfl) b;refine fS 26 27 rfl rfl rfl rfl rfl rfl (fun hC=>xQ (P hC)) ?_;refine Y2 ?_
    obtain⟨au,C,b⟩:=iy b;refine cP b (fun R b=>?_) (fun R b=>?_)
    ·refine Y3 ?_;exact B _ (7:Int) wA (ku C b:)
    refine ag.skip ?_;exact B _ M wA (ku C b:)
   rintro av b;refine ar fun aw U=>Y4 ?_;obtain⟨ax,E,b⟩:=dA b;refine cO b (fun W b=>?_) (fun W b=>?_)
   ·refine Y5 ?_;obtain⟨q,X,b⟩:=aJ b;refine sH (bV rfl rfl (xU X _ az az)) rfl ?_;refine Y1 ?_;refine ag.exit ?_;exact w _ q wA (ku E b:)
   refine sk U (Y6 ?_);obtain⟨y,Y,b⟩:=eG b;refine Sc rfl rfl (oP Y) (Y7 ?_);refine bC 7 _ rfl (kl [0,3,10,11,12]) ?_;refine Y4 ?_;obtain⟨s,Z,b⟩:=aJ b;refine sH (bV rfl rfl (WR Z _ az az)) rfl ?_;refine Y1 ?_;exact w _ s wA (ku E b:)
  rintro t b;refine Y4 ?_;exact I _ ((k+1),t) wA b (dl u)
 rw [oq] at b;have b:=ku G b;refine ag.exit ?_;repeat (first|refine fQ ?_|refine fP ?_|refine fO ?_)
 obtain rfl:=oJ b;refine bU.gj ((tS H g 2 m.ep).set c0 (some (.cells (Z0.cg (some g) m)))) (xs:=[]) rfl ⟨rfl,rfl⟩ ?_;exact(fun _ _ h=>h)
def xV  :Option Int:=some (-1:Int)
def xW (a0:(Sl Z8)) (f:(Z8->Option Bool)) :Nat->Nat->Option Int
 | 0,_=>none
 | g+1,b=>bif (decide (((b:Nat):Int)<((a0.l.length:Nat):Int))) then((a0.l[b]?).bind fun j=>(f j).bind fun k=>bif k then(some ((b:Nat):Int)) else((xW a0 f g) (b+1))) else(xV   )
def xX (a0:(Sl Z8)) (b:(Z8->Option Bool)):Option Int:=xW a0 b (a0.l.length+1) 0
theorem Nd {a0 g w0 j r}(b:xX a0 g=some r) (H:af) (p:∀k r,g k=some r->gN Tryz.prog j [.agg (Z8.c k)] H (RT (.a (.d (.bool r))) H)):At 121 [.d (Sl.d 2 Z8.c w0 a0),.d j] H (RT (.a (.d (.int .i64 r))) H):=by
 unfold xX at b;refine AC.oW 19 [.tmp 4] Tryz.call121 Tryz.func121 ?_;refine Y3 ?_;refine aO kN (fun(z:Unit)=>[]) (fun z=>H) (fun z=>xV =some r) ?_ ?_
 ·intro C q;refine Y2 ?_;refine aU Z8.c a0 fun E=>Y3 ?_;refine bz (tl [0,1,7]) (fun(z:Nat×Nat)=>[(8,vi z.2)]) (fun z=>H) (fun z=>z.1) (fun z=>xW a0 g z.1 z.2=some r) ((a0.l.length+1),0) b wA ?_;rintro ⟨f,m⟩ b F s;cases f with
  | zero=>cases b
  | succ f =>
    rw [xW] at b;refine Y3 ?_;refine ar fun G t=>?_;refine cE b (fun u b=>?_) (fun u b=>?_)
    ·refine sk t (ar fun I v=>Y9 ?_);obtain⟨J,w,b⟩:=bO b;refine S (ix Z8.c m w) (Y1 ?_);obtain⟨K,y,b⟩:=bO b;refine s0 (mv rfl rfl (p _ _ y)) rfl ?_;refine Y1 ?_;refine cE b (fun B b=>?_) (fun B b=>?_)
     ·refine Y4 ?_;exact rt b
     refine sk v (Y4 ?_);exact s _ (f,(m+1)) wA b (nS _)
    refine ag.exit ?_;exact q _ () wA b
 rintro _ b;unfold xV at b;refine Y3 ?_;exact rt b
def ot (f:(Z8->Bool)):List Z8->Nat->Unit ⊕ Int
 | [],b=>Sum.inl ()
 | g::j,b=>on (g) fun k=>on (f k) fun l=>bif l then(Sum.inr ((b:Nat):Int)) else(ot f (j) (b+1) )
theorem WT {a0:Sl Z8}{k:Z8->Bool}(g:(Unit ⊕ Int)->Option Int) (m:∀(f:Nat) (b:Nat),xV   =g (Sum.inl ())) (p:∀e:Int,some e=g (Sum.inr e)):∀(f:Nat) (b:Nat),(0<f/\a0.l.length<b+f)->xW a0 (fun q=>some (k q)) f b=g (ot k (a0.l.drop b) b ):=by
 intro f;induction f with
 | zero=>intro b hn; exact absurd hn.1 (by omega)
 | succ f r =>
  intro b hn;rw [xW];by_cases bn:b<a0.l.length
  ·obtain⟨s,j⟩:=Qa bn;rw [Q.mz j,ot];refine QT bn ?_;refine Q.wq j fun t u=>?_;refine Q.wq rfl fun v w=>?_;refine Q.A_ ?_ ?_
   ·all_goals exact p _
   all_goals exact r _ ⟨by omega,by omega⟩
  rw [dL (by omega),ot];refine QF bn ?_;exact m f b
def zC (a0:(Sl Z8)) (g:(Z8->Bool)):Int:=on (ot g a0.l 0 ) fun b=>match b with|Sum.inl _=>(on (()) fun _=>(-1:Int))|Sum.inr f=>(f)
theorem WU (a0:(Sl Z8)) (a1:(Z8->Bool)):xX a0 (fun f=>some (a1 f))=some (zC a0 a1):=by
 unfold xX zC;refine Q.Bb fun g b=>?_;refine WT  g ?_ ?_ _ _ ⟨Nat.succ_pos _,by omega⟩
 ·intro m p;refine Qe (b _) ?_;try dsimp only
  refine Q.Bb fun j k=>?_;have l:xV  =j ():=by
   refine Qe (k _) ?_;unfold xV;all_goals rfl
  all_goals exact l
 intro q;refine Qe (b _) ?_;try dsimp only
 all_goals rfl
def xY (a0:(Sl Z8)) (b:(Z8->Option Bool)):Option Bool:=(xX a0 b).bind fun x3=>some (decide ((0:Int)<=x3))
theorem Nf {a0 j w0 f r}(b:xY a0 j=some r) (H:af) (k:∀g r,j g=some r->gN Tryz.prog f [.agg (Z8.c g)] H (RT (.a (.d (.bool r))) H)):At 82 [.d (Sl.d 2 Z8.c w0 a0),.d f] H (RT (.a (.d (.bool r))) H):=by
 unfold xY at b;refine AC.oW 9 [.tmp 4] Tryz.call82 Tryz.func82 ?_;refine Y6 ?_;obtain⟨x3,l,b⟩:=bO b;refine s0 (eE rfl rfl (Nd l _ k)) rfl ?_;refine Y3 ?_;exact rt b
def tI (a0:(Sl Z8)) (b:(Z8->Bool)):Bool:=on (zC a0 b) fun x3=>(decide ((0:Int)<=x3))
theorem Ng (a0:(Sl Z8)) (a1:(Z8->Bool)):xY a0 (fun b=>some (a1 b))=some (tI a0 a1):=by
 unfold xY tI;refine Q.wq (WU _ _) fun x3 f=>?_;all_goals rfl
def vf (a0:Z8) (b:Z8):Bool:=((a0.aa==b.aa))
def CR (a0:Z8) (b:Z8):Option Bool:=some (vf a0 b)
theorem WV (a0:Z8) (a1:Z8):CR a0 a1=some (vf a0 a1):=rfl
theorem WW {a0 f r}(b:CR a0 f=some r) (H:af) :At 83 [.agg (Z8.c a0),.d (.view (Z8.c f))] H (RT (.a (.d (.bool r))) H):=by
 unfold CR vf at b;refine AC.oW 9 [.tmp 3] Tryz.call83 Tryz.func83 ?_;refine yU ?_;exact rt b
def ou (f:ah):List Z8->Nat->Z0->Option (Z0)
 | [],j,b=>some b
 | p::q,j,b=>on (p) fun k=>on (xd b k.aa (1:Int)) fun g=>on (bif (decide (g=(0:Int))) then(⟨f.ax.nl,f.ax.l.take j⟩:Sl Z8) else(Sl.nil:Sl Z8)) fun r=>on (bif (decide (g=(0:Int))) then tI r (fun s=>vf s k) else false) fun t=>on (bif ((decide (g=(0:Int)))&&t) then((7:Int)) else(g)) fun m=>Option.bind (bif (!decide (m=(0:Int))) then((a_ f.aa ([46]:Bs)).bind fun u=>(a_ u k.aa).bind fun v=>(k9 b m v).bind fun w=>some w) else(some b)) fun y=>ou f (q) (j+1) y
def pZ :List ah->Z0->Option (Z0)
 | [],b=>some b
 | g::j,b=>on (g) fun f=>Option.bind (bif (decide (f.ai=(1:Int))) then((BO b f).bind fun k=>some k) else(bif (decide (f.ai=(3:Int))) then(Option.bind (ou f f.ax.l 0 b) fun m=>some m) else(some b))) fun p=>pZ  (j) p
def zD (a0:ak):Option (Sl Z5):=Option.bind (pZ  a0.aj.l (Z0.mk a0 Sl.nil)) fun b=>on (b) fun f=>some f.ep
theorem WX {a0:ak}{r:Sl Z5}(b:zD a0=some r) (H:af){g:Nat}(aS:H g=some (.tok 2 0)):At 45 [.agg (ak.c a0)] H (RT (.a (.d (Sl.d 2 Z5.c (some g) r))) (H.set g (some (.tok 2 r.l.length)))):=by
 unfold zD at b;refine AC.oW 67 [.tmp 2] Tryz.call45 Tryz.func45 ?_;refine hz (H.set g (some (.tok 2 0))) (Y7 ?_);refine sE (dm.yD rfl) rfl (fun _ _ _ ⟨p,G,W,X,Y⟩=>?_);subst W X Y;obtain⟨aV,G⟩:=af.eA G;refine aK.ph p _ az (fun j w cs hh hx=>tok_cell 1 2 2 hh (t:=g) az hx rfl) ?_;refine Y2 ?_
 refine aO (tl [3]) (fun(z:Z0)=>[]) (fun z=>((tS H g 2 z.ep).set p (some (.cells (Z0.cg (some g) z))))) (fun z=>(some z.ep)=some r) ?_ ?_
 ·intro aW Z;refine Y3 ?_;refine aU ah.c a0.aj fun aX=>Y3 ?_;obtain⟨v,ab,b⟩:=bZ b;refine bz (tl [3,13,14]) (fun(z:Nat×Z0)=>[(15,vi z.1)]) (fun z=>((tS H g 2 z.2.ep).set p (some (.cells (Z0.cg (some g) z.2))))) (fun z=>a0.aj.l.length-z.1) (fun z=>Option.bind (pZ  (a0.aj.l.drop z.1) z.2) v=some r) (0,(Z0.mk a0 Sl.nil)) b wA ?_;rintro ⟨y,s⟩ b aY ad
  refine Y3 ?_;refine ar fun aZ ae=>?_;refine ag.bJ (fun l=>Option.bind (pZ  l s) v=some r) b rfl (fun a1 I ai b=>?_) (fun ai b=>?_)
  ·rw [pZ] at b;refine sk ae (aO (tl [3,13,14,15]) (fun(z:Z0)=>[]) (fun z=>((tS H g 2 z.ep).set p (some (.cells (Z0.cg (some g) z))))) (fun z=>Option.bind (pZ  (a0.aj.l.drop (y+1)) z) v=some r) ?_ ?_)
   ·intro a2 B;refine Y2 ?_;obtain⟨k,al,b⟩:=vO I b;refine S (ix ah.c y al) (Y4 ?_);refine bC 5 _ rfl (kl [3,13,14,15]) ?_;refine Y9 ?_;obtain⟨a3,C,b⟩:=dA b;refine cO b (fun am b=>?_) (fun am b=>?_)
    ·refine Y3 ?_;obtain⟨ao,ap,b⟩:=aJ b;refine sH (bV rfl rfl (WS ap _ az az)) rfl ?_;refine Y1 ?_;exact B _ ao wA (ku C b:)
    refine Y4 ?_;refine cO b (fun aq b=>?_) (fun aq b=>?_)
    ·refine Y3 ?_;refine aU Z8.c k.ax fun a4=>Y3 ?_;obtain⟨u,au,b⟩:=dA b;refine bz (tl [3,5,13,14,15,29,30]) (fun(z:Nat×Z0)=>[(31,vi z.1)]) (fun z=>((tS H g 2 z.2.ep).set p (some (.cells (Z0.cg (some g) z.2))))) (fun z=>k.ax.l.length-z.1) (fun z=>Option.bind (ou k (k.ax.l.drop z.1) z.1 z.2) u=some r) (0,s) b wA ?_;rintro ⟨m,q⟩ b a5 av
     refine Y3 ?_;refine ar fun a6 aw=>?_;refine ag.bJ (fun l=>Option.bind (ou k l m q) u=some r) b rfl (fun a7 J K b=>?_) (fun K b=>?_)
     ·rw [ou] at b;have a8:=oD K;refine sk aw (aO (tl [3,5,13,14,15,29,30,31]) (fun(z:Z0)=>[]) (fun z=>((tS H g 2 z.ep).set p (some (.cells (Z0.cg (some g) z))))) (fun z=>Option.bind (ou k (k.ax.l.drop (m+1)) (m+1) z) u=some r) ?_ ?_)
      ·intro a9 L;refine Y3 ?_;obtain⟨M,ay,b⟩:=vO J b;refine S (ix Z8.c m ay) (Y5 ?_);refine bC 7 _ rfl (kl [3,5,6,13,14,15,29,30,31]) ?_;refine Y4 ?_;obtain⟨aA,aB,b⟩:=eG b;refine s0 (eE rfl rfl (Na aB _ az)) rfl ?_;refine Y2 ?_
       refine aO (tl [3,5,7,13,14,15,29,30,31]) (fun(z:Int)=>[(8,.a (.d (.int .i64 z)))]) (fun z=>((tS H g 2 q.ep).set p (some (.cells (Z0.cg (some g) q))))) (fun z=>Option.bind (Option.bind (bif (!decide (z=(0:Int))) then((a_ k.aa ([46]:Bs)).bind fun N=>(a_ N M.aa).bind fun O=>(k9 q z O).bind fun E=>some E) else(some q)) fun F=>ou k (k.ax.l.drop (m+1)) (m+1) F) u=some r) ?_ ?_
       ·intro a' P;refine Y5 ?_;refine Gk 43 ?_;refine Y1 ?_;obtain⟨aC,aD,b⟩:=ee (fun _=>(Q.uP (by omega))) b;refine fJ 44 45 rfl rfl (fun hC=>lN (f:=Z8.c) (l:=none) (r:=(some ((m:Nat):Int))) (TK rfl) rfl (TK rfl) rfl rfl trivial rfl (aD hC)) ?_;refine gC rfl rfl (fun hC=>makeFunc rfl) rfl ?_;obtain⟨ba,aE,b⟩:=ee (o:=xY aC (fun aF=>CR aF M)) (fun _=>(by simp only [WV,Ng])) b
        refine fJ 46 47 rfl rfl (fun hC=>j6 rfl rfl (fun H=>Nf (aE hC) H (fun _ _ hx=>WW hx _))) ?_;refine Y2 ?_;obtain⟨bb,R,b⟩:=iy b;refine cP b (fun aG b=>?_) (fun aG b=>?_)
        ·refine Y3 ?_;exact P _ (7:Int) wA (ku R b:)
        refine ag.skip ?_;exact P _ aA wA (ku R b:)
       rintro bc b;refine Y4 ?_;obtain⟨bd,U,b⟩:=dA b;refine cO b (fun aH b=>?_) (fun aH b=>?_)
       ·refine Y5 ?_;obtain⟨N,aI,b⟩:=aJ b;refine S (bX aI) (Y2 ?_);obtain⟨O,aL,b⟩:=aJ b;refine S (bX aL) ?_;obtain⟨E,aM,b⟩:=aJ b;refine sH (bV rfl rfl (xU aM _ az az)) rfl ?_;refine Y1 ?_;exact L _ E wA (ku U b:)
       refine ag.skip ?_;exact L _ q wA (ku U b:)
      rintro F b;refine Y4 ?_;exact av _ ((m+1),F) wA b (dl J)
     rw [ou] at b;have b:=ku au b;refine ag.exit ?_;exact B _ q wA (ku C b:)
    refine ag.skip ?_;exact B _ s wA (ku C b:)
   rintro aP b;refine Y4 ?_;exact ad _ ((y+1),aP) wA b (dl I)
  rw [pZ] at b;have b:=ku ab b;refine ag.exit ?_;obtain⟨be,aR,b⟩:=bW b;exact Z _ s wA (ku aR b:)
 rintro bf b;refine Y7 ?_;exact rs b
def p5 (a0:Z9) (g:Bs):Option (Z9×Bool):=on (oh a0.aR g) fun x3=>bif (((!decide (a0.ai=(6:Int)))||(decide (x3<(0:Int))))||(decide (((a0.aB.l.length:Nat):Int)<=x3))) then(some ((Z9.mk 0 0 [] true [] Sl.nil),false)) else((c_ a0.aB.l x3).bind fun b=>(q6 b).bind fun f=>some (f,true))
theorem Gh {a0 g r}(b:p5 a0 g=some r) (H:af) :At 159 [.agg (Z9.c a0),.d (.str g)] H (RT (.cL [.agg (Z9.c r.1),.d (.bool r.2)]) H):=by
 unfold p5 at b;refine AC.oW 32 [.cell 4 72,.tmp 5] Tryz.call159 Tryz.func159 ?_;refine Y9 ?_;obtain⟨x3,j,b⟩:=dQ b;refine Sc rfl rfl (M3 j) (Y2 ?_);refine ar fun q k=>Y6 ?_;refine Gk 15 ?_;refine Y4 ?_;refine bI 20 rfl (fun hC=>dK (TK rfl) rfl rfl (Z9.ej _)) ?_;refine bI 21 rfl (fun hC=>dG Z9.c a0.aB) ?_;refine G2 19 22 rfl rfl BI ?_
 refine Y2 ?_;refine cE b (fun l b=>?_) (fun l b=>?_)
 ·refine Y5 ?_;exact rt b
 refine sk k (Y2 ?_);refine s0 (dK (TK rfl) rfl rfl (Z9.ej _)) rfl ?_;refine Y1 ?_;obtain⟨s,m,b⟩:=aX b;refine s0 (iV (f:=Z9.c) (TK rfl) rfl (TK rfl) rfl rfl rfl m) rfl ?_;refine Y1 ?_;obtain⟨t,p,b⟩:=aX b;refine Sc rfl rfl (Aj p) (Y3 ?_);exact rt b
def vj (a0:Z1) (b:Z9):Option Bool:=bif ((!decide (b.ai=(7:Int)))||(!a0.qA)) then(some false) else((p5 a0.eY b.bp).bind fun x7=>some (!x7.2))
theorem Nh {a0 f c0 r}(b:vj a0 f=some r) (H:af) (b7:H c0=some (.cells (Z1.c a0))):At 129 [.d (.ptr c0 0),.agg (Z9.c f)] H (RT (.a (.d (.bool r))) H):=by
 unfold vj at b;refine AC.oW 29 [.tmp 4] Tryz.call129 Tryz.func129 ?_;refine Y4 ?_;refine ar fun l g=>Y6 ?_;refine Gk 11 ?_;refine bI 12 rfl (fun hC=>iK (TK rfl) rfl rfl (TK rfl) rfl rfl) ?_;refine bI 13 rfl (fun hC=>eD (TK rfl) rfl rfl az rfl) ?_;refine Gk 14 ?_;refine Y2 ?_;refine cE b (fun j b=>?_) (fun j b=>?_)
 ·refine Y3 ?_;exact rt b
 refine sk g (Y7 ?_);obtain⟨x7,k,b⟩:=aX b;refine cF rfl rfl (Gh k) (Y7 ?_);refine bC 5 _ rfl (kl [6]) ?_;refine Y5 ?_;exact rt b
def tP (a0:Z9) (b:Int):Option (Z9×Int):=bif (!decide (b=(0:Int))) then(some ((Z9.mk 0 0 [] true [] Sl.nil),b)) else((q6 a0).bind fun x7=>some (x7,(0:Int)))
theorem WY {a0 f r}(b:tP a0 f=some r) (H:af) :At 131 [.agg (Z9.c a0),.d (.int .i64 f)] H (RT (.cL [.agg (Z9.c r.1),.d (.int .i64 r.2)]) H):=by
 unfold tP at b;refine AC.oW 12 [.cell 4 72,.tmp 5] Tryz.call131 Tryz.func131 ?_;refine Y5 ?_;refine ar fun l g=>Y4 ?_;refine cE b (fun j b=>?_) (fun j b=>?_)
 ·refine Y6 ?_;exact rt b
 refine sk g (Y2 ?_);obtain⟨x7,k,b⟩:=aX b;refine Sc rfl rfl (Aj k) (Y3 ?_);exact rt b
def tL (a0:Z1) (b:Int):Option (Int×Z1):=bif (decide ((24:Int)<b)) then(some ((5:Int),a0)) else((cN a0.wv (1:Int)).bind fun x7=>bif (decide ((4096:Int)<x7)) then(some ((4:Int),(Z1.mk a0.Fd a0.eY a0.qA x7))) else(some ((0:Int),(Z1.mk a0.Fd a0.eY a0.qA x7))))
theorem Ni {a0 f c0 r}(b:tL a0 f=some r) (H:af) (b7:H c0=some (.cells (Z1.c a0))):At 163 [.d (.ptr c0 0),.d (.int .i64 f)] H (RT (.a (.d (.int .i64 r.1))) ((cS H c0 (Z1.c r.2)))):=by
 unfold tL at b;refine AC.oW 19 [.tmp 4] Tryz.call163 Tryz.func163 ?_;refine hz (cS H c0 (Z1.c a0)) (Y3 ?_);refine ar fun p g=>Y4 ?_;refine cE b (fun j b=>?_) (fun j b=>?_)
 ·refine Y3 ?_;exact rt b
 refine sk g (Y5 ?_);obtain⟨x7,k,b⟩:=aX b;refine S (fp k) (Y2 ?_);refine dB (gw (TK rfl) rfl rfl az rfl (by repeat (first|exact bE.zero|apply bE.succ))) rfl rfl ?_;refine hq (H.set c0 (some (.cells (Z1.c (Z1.mk a0.Fd a0.eY a0.qA x7))))) (Y1 ?_);refine ar fun q l=>Y7 ?_;refine cE b (fun m b=>?_) (fun m b=>?_)
 ·refine Y3 ?_;exact rt b
 refine sk l (Y3 ?_);exact rt b
def qZ (j:Int) (g:Z1->Z9->Int->Option (Int×Z1)):List Z9->Z1->Option (Z1 ⊕ ((Int×Z1)))
 | [],f=>some (Sum.inl f)
 | k::l,f=>on (k) fun m=>(cN j (1:Int)).bind fun p=>(g f m p).bind fun b=>bif (!decide (b.1=(0:Int))) then(some (Sum.inr (b.1,b.2))) else(qZ j g (l) b.2)
def nh:Nat->Z1->Z9->Int->Option (Int×Z1)
 | 0,_,_,_=>none
 | n+1,a0,p,f=>(tL a0 f).bind fun b=>bif (!decide (b.1=(0:Int))) then(some (b.1,b.2)) else(Option.bind (qZ f (nh n) p.aB.l b.2) fun g=>match g with|Sum.inl j=>(on (j) fun k=>some ((0:Int),k))|Sum.inr m=>(some m))
def Gi (n:Nat):Prop:=∀{a0:Z1}{a1:Z9}{a2:Int}  {c0:Nat}{r:(Int×Z1)},nh n a0 a1 a2=some r->∀(H:af) (b7:H c0=some (.cells (Z1.c a0))),At 162 [.d (.ptr c0 0),.agg (Z9.c a1),.d (.int .i64 a2)] H (RT (.a (.d (.int .i64 r.1))) ((cS H c0 (Z1.c r.2))))
theorem WZ (n:Nat) (t:Gi (au:=au) n):Gi (au:=au) (n+1):=by
 intro a0 f s  c0 r b H b7;rw [nh] at b;refine AC.oW 33 [.tmp 6] Tryz.call162 Tryz.func162 ?_;refine hz (cS H c0 (Z1.c a0)) (Y4 ?_);refine ar fun N u=>Y3 ?_;obtain⟨g,v,b⟩:=aX b;refine sH (bV rfl rfl (Ni v _ az)) rfl ?_;refine hq (cS H c0 (Z1.c g.2)) (Y6 ?_);refine cE b (fun w b=>?_) (fun w b=>?_)
 ·refine Y4 ?_;exact rt b
 refine sk u (aO kN (fun(z:Z1)=>[]) (fun z=>(cS H c0 (Z1.c z))) (fun z=>(some ((0:Int),z))=some r) ?_ ?_)
 ·intro O y;refine Y2 ?_;refine s0 (dK (TK rfl) rfl rfl (Z9.ej _)) rfl ?_;refine aU Z9.c f.aB fun P=>Y3 ?_;obtain⟨j,k,b⟩:=bZ b;refine bz (tl [0,2,18,19]) (fun(z:Nat×Z1)=>[(20,vi z.1)]) (fun z=>(cS H c0 (Z1.c z.2))) (fun z=>f.aB.l.length-z.1) (fun z=>Option.bind (qZ s (nh n) (f.aB.l.drop z.1) z.2) j=some r) (0,g.2) b wA ?_
  rintro ⟨m,p⟩ b Q B;refine Y3 ?_;refine ar fun R C=>?_;refine ag.bJ (fun l=>Option.bind (qZ s (nh n) l p) j=some r) b rfl (fun U q E b=>?_) (fun E b=>?_)
  ·rw [qZ] at b;refine sk C (ar fun W F=>Y2 ?_);obtain⟨X,G,b⟩:=vO q b;refine S (ix Z9.c m G) (Y4 ?_);refine bC 9 _ rfl (kl [0,2,18,19,20]) ?_;refine Y4 ?_;obtain⟨Y,I,b⟩:=aJ b;refine S (fp I) ?_;obtain⟨J,K,b⟩:=aJ b;refine sH (bV rfl rfl (t K _ az)) rfl ?_;refine Y6 ?_;refine cO b (fun L b=>?_) (fun L b=>?_)
   ·refine Y4 ?_;exact rs (ku k b:)
   refine sk F (Y4 ?_);exact B _ ((m+1),J.2) wA b (dl q)
  rw [qZ] at b;have b:=ku k b;refine ag.exit ?_;obtain⟨Z,M,b⟩:=bW b;exact y _ p wA (ku M b:)
 rintro aa b;refine Y3 ?_;exact rt b
theorem Nj:∀(n:Nat),(Gi (au:=au) n)
 | 0=>fun b=>by first|cases b|(rw [nh] at b; cases b)
 | n+1=>WZ n (Nj n)
def W0 (a0:Z1) (b:Z9) (f:Int):Option (Int×Z1):=nh F0 a0 b f
theorem W1 {a0 b f c0 r}(g:W0 a0 b f=some r) (H:af) (b7:H c0=some (.cells (Z1.c a0))):At 162 [.d (.ptr c0 0),.agg (Z9.c b),.d (.int .i64 f)] H (RT (.a (.d (.int .i64 r.1))) ((cS H c0 (Z1.c r.2)))):=(Nj F0) g H b7
def E1 (a0:Z1) (b:Z9) (f:Int):Option (Int×Z1):=nh F0 a0 b f
def Gj (a0:Z9) (f:Bool) (b:Z1):Z1:=(Z1.mk b.Fd a0 f b.wv)
theorem W2 {a0 f b c2 r}(g:some (Gj a0 f b)=some r) (H:af) (j:H c2=some (.cells (Z1.c b))):qt Tryz.prog 207 [.d (.view (Z9.c a0)),.d (.view (v8 f)),.d (.view [.ptr c2 0])] H (RT (.cL []) ((cS H c2 (Z1.c r)))):=by
 unfold Gj at g;refine qt.of_wp (fn:=Tryz.f207) (c:=_) Tryz.bM (fun _ _=>Tryz.call207 _ _) Tryz.func207 rfl (n:=11) rfl (rs:=[]) rfl rfl ?_;refine hz (cS H c2 (Z1.c b)) (Y7 ?_);refine dB (uD (TK rfl) rfl rfl az rfl (Nat.le_of_ble_eq_true rfl) rfl rfl) rfl rfl ?_;refine Y2 ?_;refine dB (gw (TK rfl) rfl rfl az rfl (by repeat (first|exact bE.zero|apply bE.succ))) rfl rfl ?_
 refine hq (H.set c2 (some (.cells (Z1.c (Z1.mk b.Fd a0 f b.wv))))) (Y1 ?_);repeat (first|refine fQ ?_|refine fP ?_|refine fO ?_)
 obtain rfl:=oJ g;refine bU.gj (H.set c2 (some (.cells (Z1.c (Z1.mk b.Fd a0 f b.wv))))) (xs:=[]) rfl ⟨rfl,rfl⟩ ?_;exact(fun _ _ h=>h)
def BY (a0:Bs):Z9:=(Z9.mk 3 0 a0 true [] Sl.nil)
theorem W3 {a0 r}(b:some (BY a0)=some r) (H:af) :At 189 [.d (.str a0)] H (RT (.a (.agg (Z9.c r))) H):=by
 unfold BY at b;refine AC.oW 5 [.cell 2 72] Tryz.call189 Tryz.func189 ?_;refine Y8 ?_;exact rt b
def Tryz.W4:Go.Shelf.Ren:=⟨fun|171=>208|243=>216|246=>219|283=>221|284=>222|285=>223|286=>224|129=>226|317=>225|318=>227|319=>228|320=>229|337=>230|338=>231|n=>n,fun|3=>3|9=>9|2=>2|4=>4|171=>214|0=>0|53=>215|37=>212|5=>5|173=>218|212=>222|51=>223|20=>20|213=>224|46=>226|232=>229|233=>230|n=>n,fun|17=>0|18=>1|19=>2|n=>n⟩
theorem Tryz.W5:Go.Proofs.LaysM.n171 Tryz.prog Tryz.W4:={
 mixed:=by kernel_rfl
 f129:=Tryz.func226.trans (congrArg some (by kernel_rfl))
 f171:=Tryz.func208.trans (congrArg some (by kernel_rfl))
 f243:=Tryz.func216.trans (congrArg some (by kernel_rfl))
 f246:=Tryz.func219.trans (congrArg some (by kernel_rfl))
 f283:=Tryz.func221.trans (congrArg some (by kernel_rfl))
 f284:=Tryz.func222.trans (congrArg some (by kernel_rfl))
 f285:=Tryz.func223.trans (congrArg some (by kernel_rfl))
 f286:=Tryz.func224.trans (congrArg some (by kernel_rfl))
 f317:=Tryz.func225.trans (congrArg some (by kernel_rfl))
 f318:=Tryz.func227.trans (congrArg some (by kernel_rfl))
 f319:=Tryz.func228.trans (congrArg some (by kernel_rfl))
 f320:=Tryz.func229.trans (congrArg some (by kernel_rfl))
 f337:=Tryz.func230.trans (congrArg some (by kernel_rfl))
 f338:=Tryz.func231.trans (congrArg some (by kernel_rfl))
 t0:=Tryz.underlying0
 a0:=Tryz.isAgg0
 z0:=Tryz.sizeOf0
 v0:=Tryz.zeroValue0
 t2:=Tryz.underlying2
 a2:=Tryz.isAgg2
 z2:=Tryz.sizeOf2
 v2:=Tryz.zeroValue2
 t3:=Tryz.underlying3
 a3:=Tryz.isAgg3
 z3:=Tryz.sizeOf3
 v3:=Tryz.zeroValue3
 t4:=Tryz.underlying4
 a4:=Tryz.isAgg4
 z4:=Tryz.sizeOf4
 v4:=Tryz.zeroValue4
 t5:=Tryz.underlying5
 a5:=Tryz.isAgg5
 z5:=Tryz.sizeOf5
 v5:=Tryz.zeroValue5
 t9:=Tryz.underlying9
 a9:=Tryz.isAgg9
 z9:=Tryz.sizeOf9
 v9:=Tryz.zeroValue9
 t20:=Tryz.underlying20
 a20:=Tryz.isAgg20
 z20:=Tryz.sizeOf20
 v20:=Tryz.zeroValue20
 t37:=Tryz.underlying212
 a37:=Tryz.isAgg212
 z37:=Tryz.sizeOf212
 v37:=Tryz.zeroValue212
 t46:=Tryz.underlying226
 a46:=Tryz.isAgg226
 z46:=Tryz.sizeOf226
 v46:=Tryz.zeroValue226
 t51:=Tryz.underlying223
 a51:=Tryz.isAgg223
 z51:=Tryz.sizeOf223
 v51:=Tryz.zeroValue223
 t53:=Tryz.underlying215
 a53:=Tryz.isAgg215
 z53:=Tryz.sizeOf215
 v53:=Tryz.zeroValue215
 t171:=Tryz.underlying214
 a171:=Tryz.isAgg214
 z171:=Tryz.sizeOf214
 v171:=Tryz.zeroValue214
 t173:=Tryz.underlying218
 a173:=Tryz.isAgg218
 z173:=Tryz.sizeOf218
 v173:=Tryz.zeroValue218
 t212:=Tryz.underlying222
 a212:=Tryz.isAgg222
 z212:=Tryz.sizeOf222
 v212:=Tryz.zeroValue222
 t213:=Tryz.underlying224
 a213:=Tryz.isAgg224
 z213:=Tryz.sizeOf224
 t232:=Tryz.underlying229
 a232:=Tryz.isAgg229
 z232:=Tryz.sizeOf229
 v232:=Tryz.zeroValue229
 t233:=Tryz.underlying230
 a233:=Tryz.isAgg230
 z233:=Tryz.sizeOf230
 v233:=Tryz.zeroValue230
 g17:=by kernel_rfl
 g18:=by kernel_rfl
 g19:=by kernel_rfl
 i0:=by kernel_rfl
 i2:=by kernel_rfl
 i3:=by kernel_rfl
 i4:=by kernel_rfl
 i5:=by kernel_rfl
 i9:=by kernel_rfl
 i20:=by kernel_rfl
 i37:=by kernel_rfl
 i46:=by kernel_rfl
 i51:=by kernel_rfl
 i53:=by kernel_rfl
 i171:=by kernel_rfl
 i173:=by kernel_rfl
 i212:=by kernel_rfl
 i232:=by kernel_rfl
 i233:=by kernel_rfl
 m17:=by kernel_rfl
 m18:=by kernel_rfl
 m19:=by kernel_rfl }
def BW (n:Int):Option Bs:=if -9223372036854775808<=n/\n<=9223372036854775807/\(Lib.itoa n).length<=fu then some (Lib.itoa n) else none
def KA (n:Int):Option Bs:=BW n
theorem W6 {a0 oT gT r}(b:BW a0=some r) (H:af) (f:H gT=some oT) (g:iw Tryz.prog oT):At 208 [.d (.int .i64 a0)] H (RT (.a (.d (.str r))) H):=by
 unfold BW at b
 split at b
 ·rename_i h
  obtain rfl:=oJ b;exact PO Tryz.W5 h.1 h.2.1 rfl f g h.2.2
 cases b
def xg (a0:Int):Option Bs:=(KA a0).bind fun x3=>some x3
theorem W7 {a0 oT gT r}(b:xg a0=some r) (H:af) (g:H gT=some oT) (j:iw Tryz.prog oT):At 190 [.d (.int .i64 a0)] H (RT (.a (.d (.str r))) H):=by
 unfold xg at b;refine AC.oW 5 [.tmp 2] Tryz.call190 Tryz.func190 ?_;refine Y5 ?_;obtain⟨x3,f,b⟩:=aX b;refine s0 (eE rfl rfl (W6 (gT:=gT) (oT:=oT) f _ az (by assumption))) rfl ?_;refine Y2 ?_;exact rt b
def zH (a0:Z8) (b:Z9):Bool:=((a0.aa==b.bp))
def CS (a0:Z8) (b:Z9):Option Bool:=some (zH a0 b)
theorem W8 (a0:Z8) (a1:Z9):CS a0 a1=some (zH a0 a1):=rfl
theorem W9 {a0 f r}(b:CS a0 f=some r) (H:af) :At 191 [.agg (Z8.c a0),.d (.view (Z9.c f))] H (RT (.a (.d (.bool r))) H):=by
 unfold CS zH at b;refine AC.oW 9 [.tmp 3] Tryz.call191 Tryz.func191 ?_;refine yU ?_;exact rt b
def tM (a0:Z1) (f:Bs) (b:Z9):Option (Z9×Int):=on (fun(m:Bool) (p:Z9)=>bif (!m) then(some ((Z9.mk 0 0 [] true [] Sl.nil),(23:Int))) else(some (p,(0:Int)))) fun g=>bif ((f==([73,110,116]:Bs))) then(g (((decide (b.ai=(2:Int)))&&(decide ((-2147483648:Int)<=b.bA)))&&(decide (b.bA<(2147483648:Int)))) b) else(bif ((f==([83,116,114,105,110,103]:Bs))) then(g (decide (b.ai=(3:Int))) b) else(bif ((f==([66,111,111,108,101,97,110]:Bs))) then(g (decide (b.ai=(1:Int))) b) else(bif ((f==([73,68]:Bs))) then(Option.bind (bif (decide (b.ai=(2:Int))) then((xg b.bA).bind fun q=>on (BY q) fun r=>some r) else(some b)) fun k=>g (decide (k.ai=(3:Int))) k) else(on (bif ((decide (b.ai=(3:Int)))&&(!a0.qA)) then((Z9.mk 4 b.bA b.bp b.aB.nl b.aB.l b.aR)) else(b)) fun j=>on (fA a0.Fd f) fun s=>on (bif (decide (j.ai=(4:Int))) then tI s.1.ax (fun t=>zH t j) else false) fun u=>bif (!((decide (j.ai=(4:Int)))&&u)) then(some ((Z9.mk 0 0 [] true [] Sl.nil),(23:Int))) else(some (j,(0:Int)))))))
theorem W_ {a0 s f oT c0 gT r}(b:tM a0 s f=some r) (H:af) (b7:H c0=some (.cells (Z1.c a0))) (aa:H gT=some oT) (ab:iw Tryz.prog oT):At 167 [.d (.ptr c0 0),.d (.str s),.agg (Z9.c f)] H (RT (.cL [.agg (Z9.c r.1),.d (.int .i64 r.2)]) H):=by
 unfold tM at b;refine AC.oW 82 [.cell 6 72,.tmp 7] Tryz.call167 Tryz.func167 ?_;refine Y1 ?_;refine sL (wu rfl) rfl ?_;refine Y6 ?_;obtain⟨t,u,b⟩:=mT b;refine ag.Pv (tl [5,6]) (fun(z:Bool×Z9)=>[(8,.a (.d (.bool z.1)))]) (fun z=>[Z9.c z.2,Z9.c Z9.zero]) (fun z=>H) (fun z=>(t z.1 z.2)=some r) ?_ ?_
 ·intro ad g v;refine Y8 ?_;refine cE b (fun y b=>?_) (fun y b=>?_)
  ·refine Y6 ?_;refine gC rfl rfl (fun hC=>v_ (k:=47) rfl (nL (TK rfl) rfl rfl rfl rfl)) rfl ?_;refine Gk 48 ?_;refine Y3 ?_;refine gC rfl rfl (fun hC=>v_ (k:=52) rfl (nL (TK rfl) rfl rfl rfl rfl)) rfl ?_;refine Gk 53 ?_;refine Y3 ?_;exact g _ ((((decide (f.ai=(2:Int)))&&(decide ((-2147483648:Int)<=f.bA)))&&(decide (f.bA<(2147483648:Int)))),f) wA b
  refine Y4 ?_;refine cE b (fun B b=>?_) (fun B b=>?_)
  ·refine Y6 ?_;exact g _ ((decide (f.ai=(3:Int))),f) wA b
  refine Y4 ?_;refine cE b (fun C b=>?_) (fun C b=>?_)
  ·refine Y6 ?_;exact g _ ((decide (f.ai=(1:Int))),f) wA b
  refine Y4 ?_;refine cE b (fun E b=>?_) (fun E b=>?_)
  ·obtain⟨F,G,b⟩:=bZ b;refine dS (tl [5,6]) (fun(z:Z9)=>[]) (fun z=>[Z9.c z,Z9.c Z9.zero]) (fun z=>H) (fun z=>F z=some r) ?_ ?_
   ·intro ae m;refine Y5 ?_;refine cO b (fun I b=>?_) (fun I b=>?_)
    ·refine Y3 ?_;obtain⟨ah,J,b⟩:=aJ b;refine s0 (eE rfl rfl (W7 (gT:=gT) (oT:=oT) J _ az (by assumption))) rfl ?_;obtain⟨K,L,b⟩:=eG b;refine Sc rfl rfl (W3 L) (Y2 ?_);exact m _ K wA b
    refine ag.skip ?_;exact m _ f wA b
   rintro p b;have b:=ku G b;refine Y6 ?_;exact g _ ((decide (p.ai=(3:Int))),p) wA b
  obtain⟨M,N,b⟩:=bW b;refine dS (tl [0,1,5,6]) (fun(z:Z9)=>[]) (fun z=>[Z9.c z,Z9.c Z9.zero]) (fun z=>H) (fun z=>M z=some r) ?_ ?_
  ·intro aj q;refine Y6 ?_;refine Gk 16 ?_;refine bI 17 rfl (fun hC=>iK (TK rfl) rfl rfl (TK rfl) rfl rfl) ?_;refine bI 18 rfl (fun hC=>eD (TK rfl) rfl rfl az rfl) ?_;refine Gk 19 ?_;refine Y2 ?_;refine cP b (fun O b=>?_) (fun O b=>?_)
   ·refine Y2 ?_;refine aK.cU 0 (Z9.cu f) rfl (fun j w cs hh hx=>by rw [<- Z9.mC]; exact hx) ?_;refine Y1 ?_;refine aK.cU 0 (Z9.c (Z9.mk 4 f.bA f.bp f.aB.nl f.aB.l f.aR)) rfl (fun j w cs hh hx=>by rw [Z9.mC]; exact hx) ?_;refine Y1 ?_;exact q _ (Z9.mk 4 f.bA f.bp f.aB.nl f.aB.l f.aR) wA b
   refine ag.skip ?_;exact q _ f wA b
  rintro P b;have b:=ku N b;refine Y6 ?_;obtain⟨Q,R,b⟩:=dQ b;refine Sc rfl rfl (oP R) (Y7 ?_);refine bC 9 _ rfl (kl [5,6]) ?_;refine ag.DH 5 _ rfl rfl ?_;refine Y6 ?_;refine Gk 36 ?_;refine gC rfl rfl (fun hC=>makeFunc rfl) rfl ?_;obtain⟨ak,S,b⟩:=nO (o:=xY Q.1.ax (fun U=>CS U P)) (fun _=>(by simp only [W8,Ng])) b
  refine fJ 37 38 rfl rfl (fun hC=>j6 rfl rfl (fun H=>Nf (S hC) H (fun _ _ hx=>W9 hx _))) ?_;refine Y3 ?_;refine v _ ?_;refine ar fun al W=>Y4 ?_;refine cE b (fun X b=>?_) (fun X b=>?_)
  ·refine Y5 ?_;exact rt b
  refine sk W (Y5 ?_);exact rt b
 rintro ⟨am,ao⟩ b;rw [u] at b;refine ar fun ap Y=>Y4 ?_;refine cE b (fun Z b=>?_) (fun Z b=>?_)
 ·refine Y5 ?_;exact rt b
 refine sk Y (Y5 ?_);exact rt b
def p6 (m:aL) (p:Int) (j:Z1->aL->Z9->Int->Option (Z9×Int×Z1)):List Z9->Z1->Z9->Option (((Z1×Z9)) ⊕ ((Z9×Int×Z1)))
 | [],g,b=>some (Sum.inl (g,b))
 | q::r,g,b=>on (q) fun s=>(cN p (1:Int)).bind fun t=>(j g m s t).bind fun f=>bif (!decide (f.2.1=(0:Int))) then(some (Sum.inr ((Z9.mk 0 0 [] true [] Sl.nil),f.2.1,f.2.2))) else((bh 80 b.aB (⟨false,[f.1]⟩:Sl Z9)).bind fun k=>p6 m p j (r) f.2.2 (Z9.mk b.ai b.bA b.bp k.nl k.l b.aR))
def q_ (a0:Z1) (b:ah):List Bs->Unit ⊕ ((Z9×Int×Z1))
 | []=>Sum.inl ()
 | f::g=>on (f) fun j=>on (pO b.aF j) fun k=>bif (!k.2) then(Sum.inr ((Z9.mk 0 0 [] true [] Sl.nil),(22:Int),a0)) else(q_ a0 b (g) )
def iC (s:ah) (B:Z9) (t:Int) (u:Z1->aL->Z9->Int->Option (Z9×Int×Z1)) (v:Z1->Z7->Int->Option (Z9×Int×Z1)):List Z7->Nat->Z1->Z9->Option (((Z1×Z9)) ⊕ ((Z9×Int×Z1)))
 | [],k,f,b=>some (Sum.inl (f,b))
 | C::E,k,f,b=>on (C) fun g=>on ((⟨s.aF.nl,s.aF.l.take k⟩:Sl Z7)) fun F=>on (pO F g.aa) fun G=>on (fun(H:Z1) (I:Z9)=>iC s B t u v (E) (k+1) H I) fun m=>bif G.2 then(m f b) else((p5 B g.aa).bind fun j=>aZ (j.2) (vj f j.1) false fun J=>on (fun(w:Int) (y:Z1) (K:Z9)=>bif (!decide (w=(0:Int))) then(some (Sum.inr ((Z9.mk 0 0 [] true [] Sl.nil),w,y))) else((bh 16 b.aR (⟨false,[g.aa]⟩:Sl Bs)).bind fun L=>(bh 80 b.aB (⟨false,[K]⟩:Sl Z9)).bind fun z=>m y (Z9.mk b.ai b.bA b.bp z.nl z.l L))) fun p=>bif (j.2&&(!J)) then((cN t (1:Int)).bind fun M=>(u f g.av j.1 M).bind fun q=>p q.2.1 q.2.2 q.1) else(bif g.ck then((cN t (1:Int)).bind fun N=>(v f g N).bind fun r=>p r.2.1 r.2.2 r.1) else(on (jB g.av) fun O=>bif O then(p (22:Int) f Z9.zero) else(m f b))))
mutual
def fL:Nat->Z1->aL->Z9->Int->Option (Z9×Int×Z1)
 | 0,_,_,_,_=>none
 | n+1,a0,f,r,m=>on (ja a0.Fd f.aa) fun v=>bif (!v) then(some ((Z9.mk 0 0 [] true [] Sl.nil),(10:Int),a0)) else(on (fun(w:Z1) (g:Z9)=>(tL w m).bind fun b=>bif (!decide (b.1=(0:Int))) then(some ((Z9.mk 0 0 [] true [] Sl.nil),b.1,b.2)) else(bif (decide (g.ai=(0:Int))) then(on (jB f) fun y=>bif y then(some ((Z9.mk 0 0 [] true [] Sl.nil),(23:Int),b.2)) else(some ((Z9.mk 0 0 [] true [] Sl.nil),(0:Int),b.2))) else((th f).bind fun s=>bif s.2 then(((vl n) b.2 s.1 g m).bind fun p=>some (p.1,p.2.1,p.2.2)) else(on (fA b.2.Fd f.aa) fun j=>on (bif j.2 then cV f.aa else false) fun z=>bif ((j.2&&(!z))&&(decide (j.1.ai=(5:Int)))) then(((vm n) b.2 j.1 g m).bind fun q=>some (q.1,q.2.1,q.2.2)) else((tM b.2 f.aa g).bind fun t=>some (t.1,t.2,b.2)))))) fun u=>bif ((decide (r.ai=(7:Int)))&&a0.qA) then((p5 a0.eY r.bp).bind fun k=>bif (!decide (k.1.ai=(0:Int))) then((E1 a0 k.1 m).bind fun l=>bif (!decide (l.1=(0:Int))) then(some ((Z9.mk 0 0 [] true [] Sl.nil),l.1,l.2)) else(some (k.1,(0:Int),l.2))) else(u a0 k.1)) else(u a0 r))
def vl:Nat->Z1->aL->Z9->Int->Option (Z9×Int×Z1)
 | 0,_,_,_,_=>none
 | n+1,a0,p,b,q=>on (bif (!decide (b.ai=(5:Int))) then((⟨false,[b]⟩:Sl Z9)) else(b.aB)) fun j=>Option.bind (p6 p q (fL n) j.l a0 (Z9.mk 5 0 [] true [] Sl.nil)) fun k=>match k with|Sum.inl f=>(on ((f.1,f.2)) fun g=>some (g.2,(0:Int),g.1))|Sum.inr m=>(some m)
def vm:Nat->Z1->ah->Z9->Int->Option (Z9×Int×Z1)
 | 0,_,_,_,_=>none
 | n+1,a0,b,f,r=>bif (!decide (f.ai=(6:Int))) then(some ((Z9.mk 0 0 [] true [] Sl.nil),(23:Int),a0)) else(on (q_ a0 b f.aR.l ) fun k=>match k with|Sum.inl _=>(on (()) fun _=>Option.bind (iC b f r (fL n) (jE n) b.aF.l 0 a0 (Z9.mk 6 0 [] true [] Sl.nil)) fun m=>match m with|Sum.inl g=>(on ((g.1,g.2)) fun j=>some (j.2,(0:Int),j.1))|Sum.inr p=>(some p))|Sum.inr q=>(some q))
def jE:Nat->Z1->Z7->Int->Option (Z9×Int×Z1)
 | 0,_,_,_=>none
 | n+1,a0,b,g=>((fL n) (Z1.mk a0.Fd (Z9.mk 0 0 [] true [] Sl.nil) true a0.wv) b.av b.cR g).bind fun x5=>on (Gj a0.eY a0.qA x5.2.2) fun f=>some (x5.1,x5.2.1,f)
end
def xZ (n:Nat):Prop:=∀{a0:Z1}{a1:aL}{a2:Z9}{a3:Int}{oT:Ab.Obj}{c0:Nat}{gT:Nat}{r:(Z9×Int×Z1)},fL n a0 a1 a2 a3=some r->∀(H:af) (b7:H c0=some (.cells (Z1.c a0))) (b:H gT=some oT) (f:iw Tryz.prog oT),At 132 [.d (.ptr c0 0),.agg (aL.c a1),.agg (Z9.c a2),.d (.int .i64 a3)] H (RT (.cL [.agg (Z9.c r.1),.d (.int .i64 r.2.1)]) ((cS H c0 (Z1.c r.2.2))))
def x_ (n:Nat):Prop:=∀{a0:Z1}{a1:aL}{a2:Z9}{a3:Int}{oT:Ab.Obj}{c0:Nat}{gT:Nat}{r:(Z9×Int×Z1)},vl n a0 a1 a2 a3=some r->∀(H:af) (b7:H c0=some (.cells (Z1.c a0))) (b:H gT=some oT) (f:iw Tryz.prog oT),At 165 [.d (.ptr c0 0),.agg (aL.c a1),.agg (Z9.c a2),.d (.int .i64 a3)] H (RT (.cL [.agg (Z9.c r.1),.d (.int .i64 r.2.1)]) ((cS H c0 (Z1.c r.2.2))))
def ya (n:Nat):Prop:=∀{a0:Z1}{a1:ah}{a2:Z9}{a3:Int}{oT:Ab.Obj}{c0:Nat}{gT:Nat}{r:(Z9×Int×Z1)},vm n a0 a1 a2 a3=some r->∀(H:af) (b7:H c0=some (.cells (Z1.c a0))) (b:H gT=some oT) (f:iw Tryz.prog oT),At 166 [.d (.ptr c0 0),.agg (ah.c a1),.agg (Z9.c a2),.d (.int .i64 a3)] H (RT (.cL [.agg (Z9.c r.1),.d (.int .i64 r.2.1)]) ((cS H c0 (Z1.c r.2.2))))
def yb (n:Nat):Prop:=∀{a0:Z1}{a1:Z7}{a2:Int}{oT:Ab.Obj}{c0:Nat}{gT:Nat}{r:(Z9×Int×Z1)},jE n a0 a1 a2=some r->∀(H:af) (b7:H c0=some (.cells (Z1.c a0))) (b:H gT=some oT) (f:iw Tryz.prog oT),At 188 [.d (.ptr c0 0),.agg (Z7.c a1),.d (.int .i64 a2)] H (RT (.cL [.agg (Z9.c r.1),.d (.int .i64 r.2.1)]) ((cS H c0 (Z1.c r.2.2))))
theorem Xa (n:Nat) (ai:xZ (au:=au) n) (g:x_ (au:=au) n) (j:ya (au:=au) n) (aj:yb (au:=au) n):xZ (au:=au) (n+1):=by
 intro a0 aL ah aM oT c0 gT r b H b7 ak k;rw [fL] at b;refine AC.oW 119 [.cell 8 72,.tmp 9] Tryz.call132 Tryz.func132 ?_;have al:gT≠c0:=fun l=>by subst l; obtain⟨_,_,_,am,_⟩:=k; simp_all
 refine hz (cS H c0 (Z1.c a0)) (Y2 ?_);refine sL (wu rfl) rfl ?_;refine Y3 ?_;refine ar fun ao m=>Y7 ?_;obtain⟨ap,p,b⟩:=dQ b;refine cF rfl rfl (Gc p) (Y2 ?_);refine cE b (fun q b=>?_) (fun q b=>?_)
 ·refine Y5 ?_;exact rt b
 refine sk m ?_;obtain⟨s,t,b⟩:=mT b;refine dS (tl [0,3,5,6,8]) (fun(z:Z1×Z9×Z9)=>[]) (fun z=>[Z9.c z.2.1,Z9.c z.2.2]) (fun z=>(cS H c0 (Z1.c z.1))) (fun z=>(s z.1 z.2.1)=some r) ?_ ?_
 ·intro aq f;refine Y6 ?_;refine Gk 29 ?_;refine bI 30 rfl (fun hC=>iK (TK rfl) rfl rfl (TK rfl) rfl rfl) ?_;refine bI 31 rfl (fun hC=>eD (TK rfl) rfl rfl az rfl) ?_;refine Y2 ?_;refine cE b (fun u b=>?_) (fun u b=>?_)
  ·refine Y7 ?_;obtain⟨v,w,b⟩:=aX b;refine cF rfl rfl (Gh w) (pq ?_);refine cE b (fun y b=>?_) (fun y b=>?_)
   ·refine Y4 ?_;obtain⟨B,C,b⟩:=aX b;refine sH (bV rfl rfl (W1 C _ az)) rfl ?_;refine hq (cS H c0 (Z1.c B.2)) (Y2 ?_);refine ar fun av E=>Y4 ?_;refine cE b (fun F b=>?_) (fun F b=>?_)
    ·refine Y6 ?_;exact rt b
    refine sk E (Y5 ?_);exact rt b
   refine ag.skip ?_;exact f _ (a0,v.1,Z9.zero) wA b
  refine ag.skip ?_;exact f _ (a0,ah,Z9.zero) wA b
 rintro ⟨aw,ax,ay⟩ b;rw [t] at b;refine ar fun aA G=>Y3 ?_;obtain⟨I,J,b⟩:=aX b;refine sH (bV rfl rfl (Ni J _ az)) rfl ?_;refine hq (cS H c0 (Z1.c I.2)) (Y6 ?_);refine cE b (fun K b=>?_) (fun K b=>?_)
 ·refine Y6 ?_;exact rt b
 refine sk G (ar fun aB L=>Y5 ?_);refine cE b (fun M b=>?_) (fun M b=>?_)
 ·refine ar fun aC N=>Y2 ?_;obtain⟨aD,O,b⟩:=dQ b;refine Sc rfl rfl (um O) (Y1 ?_);refine cE b (fun P b=>?_) (fun P b=>?_)
  ·refine Y5 ?_;exact rt b
  refine sk N (Y5 ?_);exact rt b
 refine sk L (ar fun aE Q=>Y2 ?_);obtain⟨aF,R,b⟩:=aX b;refine Sc rfl rfl (Ge R) (Y7 ?_);refine bC 12 _ rfl (kl [0,3,5,6,8,13]) ?_;refine Y3 ?_;refine cE b (fun S b=>?_) (fun S b=>?_)
 ·refine Y5 ?_;obtain⟨U,W,b⟩:=aX b;refine sH (bV rfl rfl (g (gT:=gT) (oT:=oT) W _ az az (by assumption))) rfl ?_;refine hq (cS H c0 (Z1.c U.2.2)) (Y5 ?_);exact rt b
 refine sk Q (ar fun aG X=>Y7 ?_);obtain⟨aH,Y,b⟩:=dQ b;refine cF rfl rfl (oP Y) (Y7 ?_);refine bC 14 _ rfl (kl [0,3,5,6,8,15]) ?_;refine Y4 ?_;refine Gk 95 ?_;obtain⟨aI,Z,b⟩:=nO (fun _=>rfl) b;refine dP 96 rfl rfl rfl rfl rfl (fun hC=>vE (Z hC)) ?_;refine Gk 97 ?_;refine Y3 ?_;refine Gk 101 ?_;refine Gk 102 ?_;refine Y2 ?_
 refine cE b (fun aa b=>?_) (fun aa b=>?_)
 ·refine Y5 ?_;obtain⟨ab,ad,b⟩:=aX b;refine sH (bV rfl rfl (j (gT:=gT) (oT:=oT) ad _ az az (by assumption))) rfl ?_;refine hq (cS H c0 (Z1.c ab.2.2)) (Y5 ?_);exact rt b
 refine sk X (Y5 ?_);obtain⟨aJ,ae,b⟩:=aX b;refine s0 (eE rfl rfl (W_ (gT:=gT) (oT:=oT) ae _ az az (by assumption))) rfl ?_;refine Y5 ?_;exact rt b
theorem Xb (n:Nat) (K:xZ (au:=au) n) (al:x_ (au:=au) n) (ao:ya (au:=au) n) (ap:yb (au:=au) n):x_ (au:=au) (n+1):=by
 intro a0 G I J oT c0 gT r b H b7 aq L;rw [vl] at b;refine AC.oW 51 [.cell 8 72,.tmp 9] Tryz.call165 Tryz.func165 ?_;have av:gT≠c0:=fun k=>by subst k; obtain⟨_,_,_,aw,_⟩:=L; simp_all
 refine hz (cS H c0 (Z1.c a0)) (Y8 ?_);refine s0 (dK (TK rfl) rfl rfl (Z9.ej _)) rfl ?_;refine Y2 ?_;obtain⟨M,N,b⟩:=bW b;refine aO (tl [0,3,5,8]) (fun(z:(Sl Z9))=>[(10,.a (.d (Sl.d 5 Z9.c none z)))]) (fun z=>(cS H c0 (Z1.c a0))) (fun z=>M z=some r) ?_ ?_
 ·intro ax p;refine Y5 ?_;refine cP b (fun O b=>?_) (fun O b=>?_)
  ·refine Y5 ?_;exact p _ (⟨false,[I]⟩:Sl Z9) wA b
  refine ag.skip ?_;exact p _ I.aB wA b
 rintro m b;have b:=ku N b;refine Y3 ?_;refine aK.tok 5 fun f q=>?_;obtain⟨ay,q⟩:=af.eA q;have aA:f≠gT:=fun k=>by subst k; simp_all
 refine aK.cU 1 _ rfl (fun j w cs hh hx=>tok_cell 3 5 5 hh (t:=f) az hx rfl) ?_;refine Y1 ?_;refine aK.cU 1 _ rfl (fun j w cs hh hx=>tok_cell 3 5 5 hh (t:=f) az hx rfl) ?_;refine Y1 ?_
 refine dS (tl [8,11]) (fun(z:Z1×Z9×Z9)=>[]) (fun z=>[Z9.c z.2.1,((bL .i64) z.2.2.ai++(bL .i64) z.2.2.bA++aG z.2.2.bp++[Sl.d 5 Z9.c (some f) z.2.2.aB]++(fun s=>[Sl.d 1 aG none s]) z.2.2.aR)]) (fun z=>(tS (cS H c0 (Z1.c z.1)) f 5 z.2.2.aB)) (fun z=>(some (z.2.2,(0:Int),z.1))=some r) ?_ ?_
 ·intro aC P;refine Y2 ?_;refine aU Z9.c m fun aD=>Y3 ?_;obtain⟨u,v,b⟩:=bZ b
  refine gz (tl [0,3,5,8,11,24,25]) (fun(z:Nat×Z1×Z9×Z9)=>[(26,vi z.1)]) (fun z=>[Z9.c z.2.2.1,((bL .i64) z.2.2.2.ai++(bL .i64) z.2.2.2.bA++aG z.2.2.2.bp++[Sl.d 5 Z9.c (some f) z.2.2.2.aB]++(fun s=>[Sl.d 1 aG none s]) z.2.2.2.aR)]) (fun z=>(tS (cS H c0 (Z1.c z.2.1)) f 5 z.2.2.2.aB)) (fun z=>m.l.length-z.1) (fun z=>Option.bind (p6 G J (fL n) (m.l.drop z.1) z.2.1 z.2.2.2) u=some r) (0,a0,Z9.zero,(Z9.mk 5 0 [] true [] Sl.nil)) b wA ?_
  rintro ⟨y,B,C,g⟩ b aE Q;refine Y3 ?_;refine ar fun aF R=>?_;refine ag.bJ (fun l=>Option.bind (p6 G J (fL n) l B g) u=some r) b rfl (fun aH E U b=>?_) (fun U b=>?_)
  ·rw [p6] at b;refine sk R (ar fun aI W=>Y2 ?_);obtain⟨aL,X,b⟩:=vO E b;refine S (ix Z9.c y X) (Y4 ?_);refine bC 13 _ rfl (kl [0,3,5,8,11,24,25,26]) ?_;refine Y5 ?_;obtain⟨aM,Y,b⟩:=aJ b;refine S (fp Y) ?_;obtain⟨Z,aa,b⟩:=aJ b;refine sH (bV rfl rfl (K (gT:=gT) (oT:=oT) aa _ az az (by assumption))) rfl ?_;refine Y7 ?_
   refine bC 14 _ rfl (kl [0,3,5,8,11,15,24,25,26]) ?_;refine ar fun aP ab=>Y4 ?_;refine cO b (fun ad b=>?_) (fun ad b=>?_)
   ·refine Y6 ?_;exact rs (ku v b:)
   refine sk ab (Y5 ?_);obtain⟨F,ae,b⟩:=aJ b;refine SH (am Z9.c (TK rfl) rfl (TK rfl) (TK rfl) ae) ?_;refine Y3 ?_;refine W _ ?_;refine Y4 ?_;exact Q _ ((y+1),Z.2.2,C,(Z9.mk g.ai g.bA g.bp F.nl F.l g.aR)) wA b (dl E)
  rw [p6] at b;have b:=ku v b;refine ag.exit ?_;obtain⟨aS,ah,b⟩:=bW b;exact P _ (B,C,g) wA (ku ah b:)
 rintro ⟨aV,aW,aj⟩ b;refine ar fun aX ak=>ag.cU 1 _ rfl (fun j w cs hh hx=>kH 3 hx rfl) ?_;refine ag.cU 1 (Z9.c aj) rfl (fun j w cs hh hx=>by rw [Z9.mC]; exact hx) ?_;refine Y5 ?_;refine ak _ ?_;exact rs b
theorem Xc (n:Nat) (ad:xZ (au:=au) n) (bg:x_ (au:=au) n) (bi:ya (au:=au) n) (ae:yb (au:=au) n):ya (au:=au) (n+1):=by
 intro a0 k s C oT c0 gT r b H b7 bj ah;rw [vm] at b;refine AC.oW 124 [.cell 8 72,.tmp 9] Tryz.call166 Tryz.func166 ?_;have bk:gT≠c0:=fun u=>by subst u; obtain⟨_,_,_,bl,_⟩:=ah; simp_all
 refine hz (cS H c0 (Z1.c a0)) (Y6 ?_);refine ar fun bm aj=>Y5 ?_;refine cE b (fun ak b=>?_) (fun ak b=>?_)
 ·refine Y5 ?_;exact rt b
 refine sk aj (dS (tl [0,3,5,6,8]) (fun(z:Z9)=>[]) (fun z=>[Z9.c z]) (fun z=>(cS H c0 (Z1.c a0))) (fun z=>(Option.bind (iC k s C (fL n) (jE n) k.aF.l 0 a0 (Z9.mk 6 0 [] true [] Sl.nil)) fun al=>match al with|Sum.inl M=>(on ((M.1,M.2)) fun N=>some (N.2,(0:Int),N.1))|Sum.inr am=>(some am))=some r) ?_ ?_)
 ·intro bn ao;refine Y3 ?_;refine aU aG s.aR fun bo=>Y3 ?_;obtain⟨O,P,b⟩:=bW b;refine gz (tl [0,3,5,6,8,28,29]) (fun(z:Nat×Z9)=>[(30,vi z.1)]) (fun z=>[Z9.c z.2]) (fun z=>(cS H c0 (Z1.c a0))) (fun z=>s.aR.l.length-z.1) (fun z=>O (q_ a0 k (s.aR.l.drop z.1) )=some r) (0,Z9.zero) b wA ?_;rintro ⟨R,U⟩ b bq ap;refine Y3 ?_;refine ar fun br aq=>?_
  refine ag.bJ (fun l=>O (q_ a0 k l )=some r) b rfl (fun bs W av b=>?_) (fun av b=>?_)
  ·rw [q_] at b;refine sk aq (ar fun bt aw=>Y2 ?_);obtain⟨bu,ax,b⟩:=vP W b;refine S (ix aG R ax) (Y7 ?_);obtain⟨bv,ay,b⟩:=ff b;refine Sc rfl rfl (CQ ay) (Y7 ?_);refine bC 12 _ rfl (kl [0,3,5,6,8,13,28,29,30]) ?_;refine Y4 ?_;refine cP b (fun aA b=>?_) (fun aA b=>?_)
   ·refine Y5 ?_;exact rs (ku P b:)
   refine sk aw (Y4 ?_);exact ap _ ((R+1),U) wA b (dl W)
  rw [q_] at b;have b:=ku P b;refine ag.exit ?_;obtain⟨bw,aC,b⟩:=bW b;exact ao _ U wA (ku aC b:)
 rintro aD b;refine Y3 ?_;refine aK.tok 5 fun m X=>?_;obtain⟨bx,X⟩:=af.eA X;have bz:m≠gT:=fun u=>by subst u; simp_all
 refine aK.cU 1 _ rfl (fun j w cs hh hx=>tok_cell 3 5 5 hh (t:=m) az hx rfl) ?_;refine aK.tok 1 fun p E=>?_;obtain⟨bB,E⟩:=af.eA E;obtain⟨bD,E⟩:=af.eA E;have bF:p≠gT:=fun u=>by subst u; simp_all
 refine aK.cU 1 _ rfl (fun j w cs hh hx=>tok_cell 4 1 1 hh (t:=p) az hx rfl) ?_;refine Y1 ?_;refine aK.cU 1 _ rfl (fun j w cs hh hx=>tok_cell 3 5 5 hh (t:=m) az hx rfl) ?_;refine aK.cU 1 _ rfl (fun j w cs hh hx=>tok_cell 4 1 1 hh (t:=p) az hx rfl) ?_;refine Y1 ?_
 refine dS (tl [8,14]) (fun(z:Z1×Z9×Z9)=>[]) (fun z=>[Z9.c z.2.1,((bL .i64) z.2.2.ai++(bL .i64) z.2.2.bA++aG z.2.2.bp++[Sl.d 5 Z9.c (some m) z.2.2.aB]++[Sl.d 1 aG (some p) z.2.2.aR])]) (fun z=>((tS (cS H c0 (Z1.c z.1)) m 5 z.2.2.aB).set p (some (.tok 1 z.2.2.aR.l.length)))) (fun z=>(some (z.2.2,(0:Int),z.1))=some r) ?_ ?_
 ·intro bG aE;refine Y3 ?_;refine aU Z7.c k.aF fun bH=>Y3 ?_;obtain⟨F,Y,b⟩:=bZ b
  refine gz (tl [0,3,5,6,8,14,47,48]) (fun(z:Nat×Z1×Z9×Z9)=>[(49,vi z.1)]) (fun z=>[Z9.c z.2.2.1,((bL .i64) z.2.2.2.ai++(bL .i64) z.2.2.2.bA++aG z.2.2.2.bp++[Sl.d 5 Z9.c (some m) z.2.2.2.aB]++[Sl.d 1 aG (some p) z.2.2.2.aR])]) (fun z=>((tS (cS H c0 (Z1.c z.2.1)) m 5 z.2.2.2.aB).set p (some (.tok 1 z.2.2.2.aR.l.length)))) (fun z=>k.aF.l.length-z.1) (fun z=>Option.bind (iC k s C (fL n) (jE n) (k.aF.l.drop z.1) z.1 z.2.1 z.2.2.2) F=some r) (0,a0,aD,(Z9.mk 6 0 [] true [] Sl.nil)) b wA ?_
  rintro ⟨q,v,y,g⟩ b bI aH;refine Y3 ?_;refine ar fun bK aI=>?_;refine ag.bJ (fun l=>Option.bind (iC k s C (fL n) (jE n) l q v g) F=some r) b rfl (fun bM Z ab b=>?_) (fun ab b=>?_)
  ·rw [iC] at b;have bN:=oD ab;refine sk aI ?_
   refine dS (tl [0,3,5,6,8,14,47,48,49]) (fun(z:Z1×Z9×Z9)=>[]) (fun z=>[Z9.c z.2.1,((bL .i64) z.2.2.ai++(bL .i64) z.2.2.bA++aG z.2.2.bp++[Sl.d 5 Z9.c (some m) z.2.2.aB]++[Sl.d 1 aG (some p) z.2.2.aR])]) (fun z=>((tS (cS H c0 (Z1.c z.1)) m 5 z.2.2.aB).set p (some (.tok 1 z.2.2.aR.l.length)))) (fun z=>Option.bind (iC k s C (fL n) (jE n) (k.aF.l.drop (q+1)) (q+1) z.1 z.2.2) F=some r) ?_ ?_
   ·intro bO G;refine Y3 ?_;obtain⟨aL,aM,b⟩:=vO Z b;refine S (ix Z7.c q aM) (Y5 ?_);refine bC 16 _ rfl (kl [0,3,5,6,8,14,15,47,48,49]) ?_;refine ar fun bP aO=>Y4 ?_;obtain⟨bQ,aP,b⟩:=vO (Q.uP (by omega)) b;refine aN.s0 (lN (f:=Z7.c) (l:=none) (r:=(some ((q:Nat):Int))) (TK rfl) rfl (TK rfl) rfl rfl trivial rfl aP) rfl ?_;refine Y2 ?_;obtain⟨bR,aS,b⟩:=eG b
    refine cF rfl rfl (CQ aS) (Y7 ?_);refine bC 17 _ rfl (kl [0,3,5,6,8,14,16,18,47,48,49]) ?_;refine Y3 ?_;obtain⟨_,rfl,b⟩:=mO b;refine cO b (fun aV b=>?_) (fun aV b=>?_)
    ·refine ag.exit ?_;exact G _ (v,y,g) wA b
    refine sk aO (Y4 ?_);obtain⟨bS,aW,b⟩:=aJ b;refine Sc rfl rfl (Gh aW) (Y7 ?_);refine bC 19 _ rfl (kl [0,3,5,6,8,14,16,20,47,48,49]) ?_;refine Y6 ?_
    refine dS (tl [0,3,5,6,8,14,16,21,47,48,49]) (fun(z:Int×Z1×Z9)=>[(22,.a (.d (.int .i64 z.1)))]) (fun z=>[Z9.c y,((bL .i64) g.ai++(bL .i64) g.bA++aG g.bp++[Sl.d 5 Z9.c (some m) g.aB]++[Sl.d 1 aG (some p) g.aR]),Z9.c z.2.2]) (fun z=>((tS (cS H c0 (Z1.c z.2.1)) m 5 g.aB).set p (some (.tok 1 g.aR.l.length)))) (fun z=>Option.bind (bif (!decide (z.1=(0:Int))) then(some (Sum.inr ((Z9.mk 0 0 [] true [] Sl.nil),z.1,z.2.1))) else((bh 16 g.aR (⟨false,[aL.aa]⟩:Sl Bs)).bind fun I=>(bh 80 g.aB (⟨false,[z.2.2]⟩:Sl Z9)).bind fun B=>(iC k s C (fL n) (jE n) (k.aF.l.drop (q+1)) (q+1) z.2.1 (Z9.mk g.ai g.bA g.bp B.nl B.l I)))) F=some r) ?_ ?_
    ·intro bT J;refine Y6 ?_;obtain⟨bX,aX,b⟩:=fz b;refine fJ 75 76 rfl rfl (fun hC=>eE rfl rfl (Nh (aX hC) _ az)) ?_;refine Gk 77 ?_;refine Y3 ?_;obtain⟨_,rfl,b⟩:=mO b;refine cO b (fun aY b=>?_) (fun aY b=>?_)
     ·refine Y6 ?_;obtain⟨bY,aZ,b⟩:=aJ b;refine S (fp aZ) ?_;obtain⟨K,a1,b⟩:=aJ b;refine sH (bV rfl rfl (ad (gT:=gT) (oT:=oT) a1 _ az az (by assumption))) rfl ?_;refine Y6 ?_;exact J _ (K.2.1,K.2.2,K.1) wA b
     refine Y5 ?_;refine cO b (fun a2 b=>?_) (fun a2 b=>?_)
     ·refine Y4 ?_;obtain⟨b0,a3,b⟩:=aJ b;refine S (fp a3) ?_;obtain⟨L,a4,b⟩:=aJ b;refine sH (bV rfl rfl (ae (gT:=gT) (oT:=oT) a4 _ az az (by assumption))) rfl ?_;refine Y6 ?_;exact J _ (L.2.1,L.2.2,L.1) wA b
     refine Y3 ?_;obtain⟨b1,a5,b⟩:=eG b;refine Sc rfl rfl (um a5) (Y2 ?_);refine cO b (fun a6 b=>?_) (fun a6 b=>?_)
     ·refine Y3 ?_;exact J _ ((22:Int),v,Z9.zero) wA b
     refine ag.exit ?_;exact G _ (v,y,g) wA b
    rintro ⟨b2,a7,b3⟩ b;refine ar fun b4 a8=>Y4 ?_;refine cO b (fun a9 b=>?_) (fun a9 b=>?_)
    ·refine Y6 ?_;exact rs (ku Y b:)
    refine sk a8 (ag.draw rfl ?_);refine Y5 ?_;obtain⟨I,a_,b⟩:=aJ b;refine aN.sH (jy (f:=aG) (TK rfl) rfl (TK rfl) (TK rfl) ⟨_,rfl⟩ rfl rfl (by decide) rfl rfl rfl rfl az rfl a_) rfl ?_;refine Y4 ?_;obtain⟨B,a',b⟩:=aJ b;refine aN.sH (jy (f:=Z9.c) (TK rfl) rfl (TK rfl) (TK rfl) ⟨_,rfl⟩ rfl rfl (by decide) rfl rfl rfl rfl az rfl a') rfl ?_;refine Y1 ?_
    refine aN.iT (mr (TK rfl) rfl rfl rfl rfl (by repeat (first|exact bE.zero|apply bE.succ)) (by repeat (first|exact bE.zero|apply bE.succ))) ?_;refine Y1 ?_;refine aN.iT (mr (TK rfl) rfl rfl rfl rfl (by repeat (first|exact bE.zero|apply bE.succ)) (by repeat (first|exact bE.zero|apply bE.succ))) ?_;refine Y1 ?_
    exact G _ (a7,y,(Z9.mk g.ai g.bA g.bp B.nl B.l I)) wA b
   rintro ⟨ba,bb,bc⟩ b;refine Y4 ?_;exact aH _ ((q+1),ba,bb,bc) wA b (dl Z)
  rw [iC] at b;have b:=ku Y b;refine ag.exit ?_;obtain⟨b5,bd,b⟩:=bW b;exact aE _ (v,y,g) wA (ku bd b:)
 rintro ⟨b6,b8,be⟩ b;refine ar fun b9 bf=>ag.cU 1 _ rfl (fun j w cs hh hx=>kH 3 hx rfl) ?_;refine ag.cU 1 _ rfl (fun j w cs hh hx=>kH 4 hx rfl) ?_;refine ag.cU 1 (Z9.c be) rfl (fun j w cs hh hx=>by rw [Z9.mC]; exact hx) ?_;refine Y5 ?_;refine bf _ ?_;exact rs b
theorem Xd (n:Nat) (j:xZ (au:=au) n) (v:x_ (au:=au) n) (w:ya (au:=au) n) (y:yb (au:=au) n):yb (au:=au) (n+1):=by
 intro a0 J K oT c0 gT r b H b7 z k;rw [jE] at b;apply AC.Pr (fn:=Tryz.f188) (c:=_) Tryz.bM (fun _ _=>Tryz.call188 _ _) Tryz.func188 rfl (n:=35) rfl (rs:=[.cell 6 72,.tmp 7]) rfl rfl;have B:gT≠c0:=fun f=>by subst f; obtain⟨_,_,_,C,_⟩:=k; simp_all
 refine gA.j7 (h':=(cS H c0 (Z1.c a0))) (by funext n_; simp only [af.set]; (repeat' split)<;>simp_all) ?_;refine gA.ar fun E l=>?_;refine Y6 ?_;refine l _ ?_;refine gA.ar fun F m=>?_;refine ag.draw rfl ?_;refine Qq ?_;refine aN.iT (mr (TK rfl) rfl rfl rfl rfl (by repeat (first|exact bE.zero|apply bE.succ)) (by repeat (first|exact bE.zero|apply bE.succ))) ?_;refine Y1 ?_
 refine m _ ?_;refine gA.freeze 9 _ rfl (by repeat (first|exact fw.nil|apply fw.cons)) (kl [2,3,4,6,8]) ?_;refine gA.freeze 8 _ rfl (by repeat (first|exact fw.nil|apply fw.cons)) (kl [2,3,4,6,9]) ?_;refine gA.ar fun G p=>?_;refine ag.draw rfl ?_;refine Y5 ?_;refine aN.dB (uD (TK rfl) rfl rfl az rfl (Nat.le_of_ble_eq_true rfl) rfl rfl) rfl rfl ?_;refine Y2 ?_
 refine aN.dB (gw (TK rfl) rfl rfl az rfl (by repeat (first|exact bE.zero|apply bE.succ))) rfl rfl ?_;refine Y1 ?_;refine p _ ?_;refine gA.done ⟨_,rfl,rfl,fun f_=>?_⟩;refine Y7 ?_;obtain⟨x5,q,b⟩:=aX b;refine sH (bV rfl rfl (j (gT:=gT) (oT:=oT) q _ az az (by assumption))) rfl ?_;refine Y5 ?_;obtain⟨s,t,b⟩:=dQ b;refine ag.ret ?_
 repeat (first|refine yJ ?_|refine yK ?_|refine fQ ?_|refine fP ?_|refine fO ?_)
 refine⟨.inr rfl, ?_⟩;obtain rfl:=oJ b;refine qt.mono (W2 t _ az) fun _ _ ⟨_,f⟩=>?_;subst f;refine⟨_,(cS H c0 (Z1.c s)),rfl, ?_,⟨rfl,rfl⟩⟩;refine fun u I g=>?_;rw [<- g];clear g;exact congrFun (by first|rfl|exact(af.set_set _ _ _ _).symm|(rw [af.set_set]; rfl)|(funext n_; simp only [af.set]; (repeat' split)<;>first|rfl|(exfalso; simp_all; done)|(simp_all; done))) u
theorem jI:∀(n:Nat),(xZ (au:=au) n)/\(x_ (au:=au) n)/\(ya (au:=au) n)/\(yb (au:=au) n)
 | 0=>⟨fun b=>by first|cases b|(rw [fL] at b; cases b),fun b=>by first|cases b|(rw [vl] at b; cases b),fun b=>by first|cases b|(rw [vm] at b; cases b),fun b=>by first|cases b|(rw [jE] at b; cases b)⟩
 | n+1=>⟨Xa n (jI n).1 (jI n).2.1 (jI n).2.2.1 (jI n).2.2.2,Xb n (jI n).1 (jI n).2.1 (jI n).2.2.1 (jI n).2.2.2,Xc n (jI n).1 (jI n).2.1 (jI n).2.2.1 (jI n).2.2.2,Xd n (jI n).1 (jI n).2.1 (jI n).2.2.1 (jI n).2.2.2⟩
def Xe (a0:Z1) (a1:aL) (a2:Z9) (a3:Int):Option (Z9×Int×Z1):=fL F0 a0 a1 a2 a3
theorem Xf {a0 b f g oT c0 gT r}(j:Xe a0 b f g=some r) (H:af) (b7:H c0=some (.cells (Z1.c a0))) (k:H gT=some oT) (l:iw Tryz.prog oT):At 132 [.d (.ptr c0 0),.agg (aL.c b),.agg (Z9.c f),.d (.int .i64 g)] H (RT (.cL [.agg (Z9.c r.1),.d (.int .i64 r.2.1)]) ((cS H c0 (Z1.c r.2.2)))):=(jI F0).1 j H b7 k l
def E8 (a0:Z1) (b:aL) (f:Z9) (g:Int):Option (Z9×Int×Z1):=fL F0 a0 b f g
end Go.Proofs
