import Derived.Test.YtbbkbkhdciklaaaGreatDoorV8
set_option maxRecDepth 100000
set_option maxHeartbeats 2000000
set_option linter.unusedVariables false
set_option linter.unusedSimpArgs false
namespace Go.Proofs
open Go Go.Ab
open aI aq ag dR fO
attribute [local irreducible] aI aH ag aq
variable {ak:bP}
variable {gK:Nat}
def wS  (b:(Sl Bs)) (f:(List Bs)):Option ((Sl Bs)×(List Bs)):=some (b,f)
def wT (b:Nat) (f:(Sl Bs)->Nat->(List Bs)->Option ((Sl Bs)×(List Bs))) (g:(Sl Bs)) (j:(List Bs)):Option ((Sl Bs)×(List Bs)):=f g (b+1) j
def wU (p:aR) (f:Nat) (g:(Sl Bs)) (j:(Sl Bs)->Nat->(List Bs)->Option ((Sl Bs)×(List Bs))) (k:aR->(Sl ai)->(List Bs)->(Sl Bs)->Option ((Sl Bs)×(List Bs))) (l:(Sl ai)) (m:(List Bs)):Option ((Sl Bs)×(List Bs)):=(k p l m g).bind fun b=>wT f j b.1 b.2
def wV (l:aR) (g:Nat) (f:(List Bs)) (b:ai) (j:(Sl Bs)->Nat->(List Bs)->Option ((Sl Bs)×(List Bs))) (m:aR->(Sl ai)->(List Bs)->(Sl Bs)->Option ((Sl Bs)×(List Bs))) (k:(Sl Bs)):Option ((Sl Bs)×(List Bs)):=bif (decide (b.aj=(2:Int))) then((CA l b.aa).bind fun p=>bif ((!p.2)||(f.contains b.aa)) then(wT g j k f) else(wU l g k j m p.1.aK (cB f b.aa))) else(wU l g k j m b.aK f)
def wW (b:Nat) (f:(Sl Bs)->Nat->Option ((Sl Bs)×(List Bs))) (g:(Sl Bs)):Option ((Sl Bs)×(List Bs)):=f g (b+1)
def wX (g:Nat) (b:aP) (j:(Sl Bs)->Nat->Option ((Sl Bs)×(List Bs))):Nat->(Sl Bs)->Nat->Option ((Sl Bs)×(List Bs))
 | 0,_,_=>none
 | m+1,k,f=>bif (decide (((f:Nat):Int)<((b.aG.l.length:Nat):Int))) then((b.aG.l[f]?).bind fun p=>(GY p.dr k).bind fun q=>(wX g b j m) q (f+1)) else(wW g j k)
def pJ (r:aR) (g:Nat) (j:(List Bs)) (b:ai) (k:(Sl Bs)->Nat->(List Bs)->Option ((Sl Bs)×(List Bs))) (m:aR->(Sl ai)->(List Bs)->(Sl Bs)->Option ((Sl Bs)×(List Bs))):Nat->(Sl Bs)->Nat->Option ((Sl Bs)×(List Bs))
 | 0,_,_=>none
 | s+1,p,f=>bif (decide (((f:Nat):Int)<((b.bS.l.length:Nat):Int))) then((b.bS.l[f]?).bind fun q=>wX f q ((pJ r g j b k m s)) (q.aG.l.length+1) p 0) else(wV r g j b k m p)
def wY (p:aR) (f:Nat) (g:(List Bs)) (b:ai) (j:(Sl Bs)->Nat->(List Bs)->Option ((Sl Bs)×(List Bs))) (k:aR->(Sl ai)->(List Bs)->(Sl Bs)->Option ((Sl Bs)×(List Bs))) (m:(Sl Bs)):Option ((Sl Bs)×(List Bs)):=pJ p f g b j k (b.bS.l.length+1) m 0
def wZ (q:aR) (g:Nat) (j:(List Bs)) (b:ai) (k:(Sl Bs)->Nat->(List Bs)->Option ((Sl Bs)×(List Bs))) (m:aR->(Sl ai)->(List Bs)->(Sl Bs)->Option ((Sl Bs)×(List Bs))):Nat->(Sl Bs)->Nat->Option ((Sl Bs)×(List Bs))
 | 0,_,_=>none
 | r+1,p,f=>bif (decide (((f:Nat):Int)<((b.aG.l.length:Nat):Int))) then((b.aG.l[f]?).bind fun s=>(GY s.dr p).bind fun t=>(wZ q g j b k m r) t (f+1)) else(wY q g j b k m p)
def iG (p:aR) (b:(Sl ai)) (g:aR->(Sl ai)->(List Bs)->(Sl Bs)->Option ((Sl Bs)×(List Bs))):Nat->(Sl Bs)->Nat->(List Bs)->Option ((Sl Bs)×(List Bs))
 | 0,_,_,_=>none
 | q+1,j,f,k=>bif (decide (((f:Nat):Int)<((b.l.length:Nat):Int))) then((b.l[f]?).bind fun m=>wZ p f k m ((iG p b g q)) g (m.aG.l.length+1) j 0) else(wS   j k)
def gm:Nat->aR->(Sl ai)->(List Bs)->(Sl Bs)->Option ((Sl Bs)×(List Bs))
 | 0,_,_,_,_=>none
 | n+1,f,b,g,j=>iG f b (gm n) (b.l.length+1) j 0 g
def GZ (n:Nat):Prop:=∀{a0:aR}{b:(Sl ai)}{a2:(List Bs)}{a3:(Sl Bs)}{f:Option Nat}{c2:Nat}{g3:Nat}{r:((Sl Bs)×(List Bs))},gm n a0 b a2 a3=some r->∀(H:ah) (g:H c2=some (.map (bg a2))) (j:H g3=some (.tok 1 a3.l.length)),At 100 [.agg (aR.c a0),.d (Sl.d 7 ai.c f b),.d (.map c2),.d (Sl.d 1 aW (some g3) a3)] H (RT (.a (.d (Sl.d 1 aW (some g3) r.1))) (((H.set c2 (some (.map (bg r.2)))).set g3 (some (.tok 1 r.1.l.length)))))
theorem X3 (n:Nat) (R:GZ (ak:=ak) n):GZ (ak:=ak) (n+1):=by
 intro g k P Q aU c2 g3 r b H aX aY;rw [gm] at b;refine AC.oW 90 [.tmp 8] Tryz.call100 Tryz.func100 ?_;have aZ:g3≠c2:=fun U=>by subst U; simp_all
 refine hz ((H.set c2 (some (.map (bg P)))).set g3 (some (.tok 1 Q.l.length))) (Y4 ?_);refine aN kN (fun(z:(Sl Bs)×(List Bs))=>[(3,.a (.d (Sl.d 1 aW (some g3) z.1)))]) (fun z=>((H.set c2 (some (.map (bg z.2)))).set g3 (some (.tok 1 z.1.l.length)))) (fun z=>wS z.1 z.2=some r) ?_ ?_
 ·intro a0 W;refine Y2 ?_;refine aV ai.c k fun a1=>Y3 ?_;refine bx (tl [2,4,20,21]) (fun(z:Nat×(Sl Bs)×Nat×(List Bs))=>[(3,.a (.d (Sl.d 1 aW (some g3) z.2.1))),(22,vi z.2.2.1)]) (fun z=>((H.set c2 (some (.map (bg z.2.2.2)))).set g3 (some (.tok 1 z.2.1.l.length)))) (fun z=>z.1) (fun z=>iG g k (gm n) z.1 z.2.1 z.2.2.1 z.2.2.2=some r) ((k.l.length+1),Q,0,P) b wA ?_
  rintro ⟨m,G,p,f⟩ b a2 X;try dsimp only at b
  cases m with
  | zero=>cases b
  | succ m =>
    rw [iG] at b;refine Y3 ?_;refine ar fun a3 Y=>?_;refine cE b (fun v b=>?_) (fun v b=>?_)
    ·try dsimp only at v
     have a4:=oD v;refine sk Y (aN (tl [2,4,20,21,22]) (fun(z:(Sl Bs)×(List Bs))=>[(3,.a (.d (Sl.d 1 aW (some g3) z.1)))]) (fun z=>((H.set c2 (some (.map (bg z.2)))).set g3 (some (.tok 1 z.1.l.length)))) (fun z=>wT p ((iG g k (gm n) m)) z.1 z.2=some r) ?_ ?_)
     ·intro a5 I;refine Y2 ?_;obtain⟨j,Z,b⟩:=bO b;refine S (ix ai.c p Z) (Y4 ?_);refine bl 10 _ rfl (kl [2,3,4,20,21,22]) ?_;refine aN (tl [2,4,10,20,21,22]) (fun(z:(Sl Bs))=>[(3,.a (.d (Sl.d 1 aW (some g3) z)))]) (fun z=>((H.set c2 (some (.map (bg f)))).set g3 (some (.tok 1 z.l.length)))) (fun z=>wY g p f j ((iG g k (gm n) m)) (gm n) z=some r) ?_ ?_
      ·intro a6 ab;refine Y3 ?_;refine aV aO.c j.aG fun a7=>Y3 ?_
       refine bx (tl [2,4,10,20,21,22,27,28]) (fun(z:Nat×(Sl Bs)×Nat)=>[(3,.a (.d (Sl.d 1 aW (some g3) z.2.1))),(29,vi z.2.2)]) (fun z=>((H.set c2 (some (.map (bg f)))).set g3 (some (.tok 1 z.2.1.l.length)))) (fun z=>z.1) (fun z=>wZ g p f j ((iG g k (gm n) m)) (gm n) z.1 z.2.1 z.2.2=some r) ((j.aG.l.length+1),G,0) b wA ?_;rintro ⟨w,ad,J⟩ b a8 ae
       try dsimp only at b
       cases w with
       | zero=>cases b
       | succ w =>
         rw [wZ] at b;refine Y3 ?_;refine ar fun a9 af=>?_;refine cE b (fun y b=>?_) (fun y b=>?_)
         ·try dsimp only at y
          have a_:=oD y;refine sk af (ar fun a' aj=>Y2 ?_);obtain⟨ba,al,b⟩:=bO b;refine S (ix aO.c J al) (Y4 ?_);refine bl 12 _ rfl (kl [2,3,4,10,20,21,22,27,28,29]) ?_;refine Y4 ?_;obtain⟨K,am,b⟩:=bO b;refine sH (bF rfl rfl (Nc am _ au)) rfl ?_;refine hq ((H.set c2 (some (.map (bg f)))).set g3 (some (.tok 1 K.l.length))) (Y2 ?_);refine aj _ ?_;refine Y4 ?_
          exact ae _ (w,K,(J+1)) wA b (nS _)
         refine ag.exit ?_;exact ab _ ad wA b
      rintro an b;try dsimp only at b
      unfold wY at b;refine aN (tl [2,4,10,20,21,22]) (fun(z:(Sl Bs))=>[(3,.a (.d (Sl.d 1 aW (some g3) z)))]) (fun z=>((H.set c2 (some (.map (bg f)))).set g3 (some (.tok 1 z.l.length)))) (fun z=>wV g p f j ((iG g k (gm n) m)) (gm n) z=some r) ?_ ?_
      ·intro bb ao;refine Y3 ?_;refine aV aP.c j.bS fun bc=>Y3 ?_
       refine bx (tl [2,4,10,20,21,22,39,40]) (fun(z:Nat×(Sl Bs)×Nat)=>[(3,.a (.d (Sl.d 1 aW (some g3) z.2.1))),(41,vi z.2.2)]) (fun z=>((H.set c2 (some (.map (bg f)))).set g3 (some (.tok 1 z.2.1.l.length)))) (fun z=>z.1) (fun z=>pJ g p f j ((iG g k (gm n) m)) (gm n) z.1 z.2.1 z.2.2=some r) ((j.bS.l.length+1),an,0) b wA ?_;rintro ⟨q,L,s⟩ b bd ap
       try dsimp only at b
       cases q with
       | zero=>cases b
       | succ q =>
         rw [pJ] at b;refine Y3 ?_;refine ar fun be av=>?_;refine cE b (fun B b=>?_) (fun B b=>?_)
         ·try dsimp only at B
          have bf:=oD B;refine sk av (aN (tl [2,4,10,20,21,22,39,40,41]) (fun(z:(Sl Bs))=>[(3,.a (.d (Sl.d 1 aW (some g3) z)))]) (fun z=>((H.set c2 (some (.map (bg f)))).set g3 (some (.tok 1 z.l.length)))) (fun z=>wW s ((pJ g p f j ((iG g k (gm n) m)) (gm n) q)) z=some r) ?_ ?_)
          ·intro bh aw;refine Y2 ?_;obtain⟨C,ax,b⟩:=bO b;refine S (ix aP.c s ax) (Y4 ?_);refine bl 14 _ rfl (kl [2,3,4,10,20,21,22,39,40,41]) ?_;refine Y3 ?_;refine aV aO.c C.aG fun bi=>Y3 ?_
           refine bx (tl [2,4,10,20,21,22,39,40,41,46,47]) (fun(z:Nat×(Sl Bs)×Nat)=>[(3,.a (.d (Sl.d 1 aW (some g3) z.2.1))),(48,vi z.2.2)]) (fun z=>((H.set c2 (some (.map (bg f)))).set g3 (some (.tok 1 z.2.1.l.length)))) (fun z=>z.1) (fun z=>wX s C ((pJ g p f j ((iG g k (gm n) m)) (gm n) q)) z.1 z.2.1 z.2.2=some r) ((C.aG.l.length+1),L,0) b wA ?_
           rintro ⟨E,ay,M⟩ b bj az;try dsimp only at b
           cases E with
           | zero=>cases b
           | succ E =>
             rw [wX] at b;refine Y3 ?_;refine ar fun bk aA=>?_;refine cE b (fun F b=>?_) (fun F b=>?_)
             ·try dsimp only at F
              have bm:=oD F;refine sk aA (ar fun bn aB=>Y2 ?_);obtain⟨bo,aC,b⟩:=bO b;refine S (ix aO.c M aC) (Y4 ?_);refine bl 16 _ rfl (kl [2,3,4,10,20,21,22,39,40,41,46,47,48]) ?_;refine Y4 ?_;obtain⟨N,aD,b⟩:=bO b;refine sH (bF rfl rfl (Nc aD _ au)) rfl ?_;refine hq ((H.set c2 (some (.map (bg f)))).set g3 (some (.tok 1 N.l.length))) (Y2 ?_);refine aB _ ?_;refine Y4 ?_
              exact az _ (E,N,(M+1)) wA b (nS _)
             refine ag.exit ?_;exact aw _ ay wA b
          rintro aE b;try dsimp only at b
          unfold wW at b;refine Y4 ?_;exact ap _ (q,aE,(s+1)) wA b (nS _)
         refine ag.exit ?_;exact ao _ L wA b
      rintro t b;try dsimp only at b
      unfold wV at b;refine Y2 ?_;refine s0 (cA (TK rfl) rfl rfl (congrArg (fun x=>some (A.d x)) (ai.gD _))) rfl ?_;refine Y2 ?_
      refine aN (tl [2,3,4,20,21,22]) (fun(z:(Sl ai)×(List Bs))=>[(17,.a (.d (Sl.d 7 ai.c none z.1)))]) (fun z=>((H.set c2 (some (.map (bg z.2)))).set g3 (some (.tok 1 t.l.length)))) (fun z=>wU g p t ((iG g k (gm n) m)) (gm n) z.1 z.2=some r) ?_ ?_
      ·intro bp O;refine Y5 ?_;refine cE b (fun aF b=>?_) (fun aF b=>?_)
       ·refine Y4 ?_;obtain⟨aJ,aL,b⟩:=bO b;refine Sc rfl rfl (v8 aL) (Y7 ?_);refine bl 18 _ rfl (kl [2,3,4,10,19,20,21,22]) ?_;refine ar fun bq aM=>Y6 ?_;refine Gk 74 ?_;refine fc 73 75 rfl rfl (fun hC=>ul (TK rfl) rfl (TK rfl) (TK rfl) rfl rfl rfl rfl au) ?_;refine Y2 ?_;refine cE b (fun aQ b=>?_) (fun aQ b=>?_)
        ·refine ag.exit ?_;exact I _ (t,f) wA b
        refine sk aM (Y4 ?_);refine eW (mapUpdate (TK rfl) rfl (TK rfl) rfl rfl rfl rfl au (mr _ _) rfl) rfl rfl ?_;refine hq ((H.set c2 (some (.map (bg (cB f j.aa))))).set g3 (some (.tok 1 t.l.length))) (Y6 ?_);exact O _ (aJ.1.aK,(cB f j.aa)) wA b
       refine ag.skip ?_;exact O _ (j.aK,f) wA b
      rintro ⟨br,bs⟩ b;try dsimp only at b
      unfold wU at b;refine Y5 ?_;obtain⟨u,aR,b⟩:=bO b;refine sH (bF rfl rfl (R aR _ au au)) rfl ?_;refine hq ((H.set c2 (some (.map (bg u.2)))).set g3 (some (.tok 1 u.1.l.length))) (Y2 ?_);exact I _ (u.1,u.2) wA b
     rintro ⟨aS,aT⟩ b;try dsimp only at b
     unfold wT at b;refine Y4 ?_;exact X _ (m,aS,(p+1),aT) wA b (nS _)
    refine ag.exit ?_;exact W _ (G,f) wA b
 rintro ⟨bt,bu⟩ b;try dsimp only at b
 unfold wS at b;refine Y4 ?_;exact rt b
theorem Nd:∀(n:Nat),(GZ (ak:=ak) n)
 | 0=>fun b=>by first|cases b|(rw [gm] at b; cases b)
 | n+1=>X3 n (Nd n)
def C3 (f:aR) (b:(Sl ai)) (g:(List Bs)) (j:(Sl Bs)):Option ((Sl Bs)×(List Bs)):=gm F0 f b g j
theorem X4 {g f j b k c2 g3 r}(m:C3 g f j b=some r) (H:ah) (p:H c2=some (.map (bg j))) (q:H g3=some (.tok 1 b.l.length)):At 100 [.agg (aR.c g),.d (Sl.d 7 ai.c k f),.d (.map c2),.d (Sl.d 1 aW (some g3) b)] H (RT (.a (.d (Sl.d 1 aW (some g3) r.1))) (((H.set c2 (some (.map (bg r.2)))).set g3 (some (.tok 1 r.1.l.length))))):=(Nd F0) m H p q
def vL :List aO->(Sl Bs)->Option ((Sl Bs))
 | [],b=>some b
 | f::g,b=>on (f) fun j=>(y2 j.dr b).bind fun k=>vL  (g) k
theorem X5 {t:aR}{k:Nat}{m:List Bs}{j:ai}{p:(Sl Bs)->Nat->(List Bs)->Option ((Sl Bs)×(List Bs))}{q:aR->(Sl ai)->(List Bs)->(Sl Bs)->Option ((Sl Bs)×(List Bs))}(r:((Sl Bs))->Option ((Sl Bs)×(List Bs))) (u:∀(b:Nat) (f:(Sl Bs)) (g:Nat),wY t k m j p q f=r f):∀(b:Nat) (f:(Sl Bs)) (g:Nat),(0<b/\j.aG.l.length<g+b)->wZ t k m j p q b f g=Option.bind (vL  (j.aG.l.drop g) f) r:=by
 intro b;induction b with
 | zero=>intro f g hn; exact absurd hn.1 (by omega)
 | succ b v =>
  intro f g hn;rw [wZ];by_cases aJ:g<j.aG.l.length
  ·obtain⟨w,s⟩:=Qa aJ;rw [Q.gP s,vL];refine QT aJ ?_;refine Q.iB s fun y z=>?_;refine Q.ji rfl fun B=>?_;all_goals exact v _ _ ⟨by omega,by omega⟩
  rw [dL (by omega),vL];refine QF aJ ?_;exact u b f g
def tI :List aO->(Sl Bs)->Option ((Sl Bs))
 | [],b=>some b
 | f::g,b=>on (f) fun j=>(y2 j.dr b).bind fun k=>tI  (g) k
theorem X6 {k:Nat}{j:aP}{m:(Sl Bs)->Nat->Option ((Sl Bs)×(List Bs))}(p:((Sl Bs))->Option ((Sl Bs)×(List Bs))) (r:∀(b:Nat) (f:(Sl Bs)) (g:Nat),wW k m f=p f):∀(b:Nat) (f:(Sl Bs)) (g:Nat),(0<b/\j.aG.l.length<g+b)->wX k j m b f g=Option.bind (tI  (j.aG.l.drop g) f) p:=by
 intro b;induction b with
 | zero=>intro f g hn; exact absurd hn.1 (by omega)
 | succ b s =>
  intro f g hn;rw [wX];by_cases aJ:g<j.aG.l.length
  ·obtain⟨t,q⟩:=Qa aJ;rw [Q.gP q,tI];refine QT aJ ?_;refine Q.iB q fun u v=>?_;refine Q.ji rfl fun w=>?_;all_goals exact s _ _ ⟨by omega,by omega⟩
  rw [dL (by omega),tI];refine QF aJ ?_;exact r b f g
def tH :List aP->(Sl Bs)->Option ((Sl Bs))
 | [],b=>some b
 | f::g,b=>on (f) fun j=>Option.bind (tI  j.aG.l b) fun k=>on (k) fun m=>tH  (g) m
theorem X7 {s:aR}{k:Nat}{m:List Bs}{j:ai}{p:(Sl Bs)->Nat->(List Bs)->Option ((Sl Bs)×(List Bs))}{q:aR->(Sl ai)->(List Bs)->(Sl Bs)->Option ((Sl Bs)×(List Bs))}(t:((Sl Bs))->Option ((Sl Bs)×(List Bs))) (v:∀(b:Nat) (g:(Sl Bs)) (f:Nat),wV s k m j p q g=t g):∀(b:Nat) (g:(Sl Bs)) (f:Nat),(0<b/\j.bS.l.length<f+b)->pJ s k m j p q b g f=Option.bind (tH  (j.bS.l.drop f) g) t:=by
 intro b;induction b with
 | zero=>intro g f hn; exact absurd hn.1 (by omega)
 | succ b w =>
  intro g f hn;rw [pJ];by_cases aJ:f<j.bS.l.length
  ·obtain⟨F,u⟩:=Qa aJ;rw [Q.gP u,tH];refine QT aJ ?_;refine Q.iB u fun G H=>?_;refine Q.kF fun y z=>?_;refine X6  y ?_ _ _ _ ⟨Nat.succ_pos _,by omega⟩;intro I J K;refine Qe (z _) ?_;refine Q.lu fun B C=>?_;have E:∀(r:(Sl Bs)),wW f (pJ s k m j p q b) r=B r:=by
    intro r;refine Qe (C _) ?_;unfold wW;all_goals exact w _ _ ⟨by omega,by omega⟩
   all_goals exact E _
  rw [dL (by omega),tH];refine QF aJ ?_;exact v b g f
def ru (j:aR) (k:aR->(Sl ai)->(List Bs)->(Sl Bs)->Option ((Sl Bs)×(List Bs))):List ai->(Sl Bs)->(List Bs)->Option (((Sl Bs)×(List Bs)))
 | [],g,f=>some (g,f)
 | t::u,g,f=>on (t) fun b=>Option.bind (vL  b.aG.l g) fun v=>on (v) fun w=>Option.bind (tH  b.bS.l w) fun y=>on (y) fun m=>Option.bind (on (fun(z:(Sl ai)) (B:(List Bs))=>(k j z B m).bind fun p=>some (p.1,p.2)) fun q=>bif (decide (b.aj=(2:Int))) then(on (jV j b.aa) fun r=>bif ((!r.2)||(f.contains b.aa)) then(some (m,f)) else(q r.1.aK (cB f b.aa))) else(q b.aK f)) fun s=>ru j k (u) s.1 s.2
theorem X8 {k:aR}{m:Sl ai}{j:aR->(Sl ai)->(List Bs)->(Sl Bs)->Option ((Sl Bs)×(List Bs))}(w:(((Sl Bs)×(List Bs)))->Option ((Sl Bs)×(List Bs))) (F:∀(b:Nat) (p:(Sl Bs)) (f:Nat) (g:(List Bs)),wS   p g=w (p,g)):∀(b:Nat) (p:(Sl Bs)) (f:Nat) (g:(List Bs)),(0<b/\m.l.length<f+b)->iG k m j b p f g=Option.bind (ru k j (m.l.drop f) p g) w:=by
 intro b;induction b with
 | zero=>intro p f g hn; exact absurd hn.1 (by omega)
 | succ b G =>
  intro p f g hn;rw [iG];by_cases aJ:f<m.l.length
  ·obtain⟨X,y⟩:=Qa aJ;rw [Q.gP y,ru];refine QT aJ ?_;refine Q.iB y fun z Y=>?_;refine Q.kF fun H I=>?_;refine X5  H ?_ _ _ _ ⟨Nat.succ_pos _,by omega⟩;intro Z aa ab;refine Qe (I _) ?_;refine Q.lu fun J K=>?_;have L:∀(r:(Sl Bs)),wY k f g z (iG k m j b) j r=J r:=by
    intro r;refine Qe (K _) ?_;unfold wY;refine Q.kF fun M N=>?_;refine X7  M ?_ _ _ _ ⟨Nat.succ_pos _,by omega⟩;intro ad ae af;refine Qe (N _) ?_;refine Q.lu fun O P=>?_;have R:∀(q:(Sl Bs)),wV k f g z (iG k m j b) j q=O q:=by
     intro q;refine Qe (P _) ?_;unfold wV;refine Q.kF fun B S=>?_;have C:∀(s:(Sl Bs)) (t:(List Bs)),wT f (iG k m j b) s t=B (s,t):=by
      intro s t;refine Qe (S _) ?_;try dsimp only
      unfold wT;all_goals exact G _ _ _ ⟨by omega,by omega⟩
     refine Q.I4 fun U W=>?_;have E:∀(u:(Sl ai)) (v:(List Bs)),wU k f q (iG k m j b) j u v=Option.bind (U u v) B:=by
      intro u v;unfold wU;rw [W];try dsimp only
      refine Q.ji rfl fun aj=>?_;all_goals exact C _ _
     refine Q.kE ?_ ?_
     ·refine Q.iB rfl fun ak al=>?_;refine Q.kE ?_ ?_
      ·all_goals exact C _ _
      all_goals exact E _ _
     all_goals exact E _ _
    all_goals exact R _
   all_goals exact L _
  rw [dL (by omega),ru];refine QF aJ ?_;exact F b p f g
def pg:Nat->aR->(Sl ai)->(List Bs)->(Sl Bs)->Option ((Sl Bs)×(List Bs))
 | 0,_,_,_,_=>none
 | n+1,g,f,j,k=>Option.bind (ru g (pg n) f.l k j) fun b=>on ((b.1,b.2)) fun z2=>some (z2.1,z2.2)
theorem X9:∀n:Nat,gm n=pg n:=by
 intro n;induction n with
 | zero=>exact(by funext r g s t; first|rfl|(rw [gm,pg]))
 | succ n j =>
  funext r g s t
  refine Qs ?_;rw [gm,pg];try rw [j]
  refine Q.kF fun k l=>?_;refine X8  k ?_ _ _ _ _ ⟨Nat.succ_pos _,by omega⟩;intro u v w y;refine Qe (l _) ?_;try dsimp only
  refine Q.lu fun m p=>?_;have q:∀(b:(Sl Bs)) (f:(List Bs)),wS  b f=m (b,f):=by
   intro b f;refine Qe (p _) ?_;try dsimp only
   unfold wS;all_goals rfl
  all_goals exact q _ _
def FU (f:aR) (b:(Sl ai)) (g:(List Bs)) (j:(Sl Bs)):Option ((Sl Bs)×(List Bs)):=pg F0 f b g j
theorem UA (a0:aR) (b:(Sl ai)) (a2:(List Bs)) (a3:(Sl Bs)):C3 a0 b a2 a3=FU a0 b a2 a3:=by
 unfold C3 FU; rw [(X9 F0)]
def G0  (b:(Sl Bs)):Option (Sl Bs):=some b
def y5 (b:Int) (f:(Sl Bs)->Int->Option (Sl Bs)) (g:(Sl Bs)):Option (Sl Bs):=(cV b (1:Int)).bind fun j=>f g j
def rz (b:((Sl Bs)×(List Bs))) :Nat->(Sl Bs)->Int->Option (Sl Bs)
 | 0,_,_=>none
 | j+1,f,g=>bif (decide (g<((b.1.l.length:Nat):Int))) then((dc b.1.l g).bind fun k=>(zm f k).bind fun m=>bif (!m) then((bq 16 f (⟨false,[k]⟩:Sl Bs)).bind fun p=>y5 g ((rz b j)) p) else(y5 g ((rz b j)) f)) else(G0   f)
def Cd (f:aR) (b:Int):Option (Sl Bs):=bif ((decide (b<(0:Int)))||(decide (((f.bw.l.length:Nat):Int)<=b))) then(some (Sl.nil:Sl Bs)) else((dc f.bw.l b).bind fun g=>(C3 f g.aK ([]:List Bs) (Sl.nil:Sl Bs)).bind fun j=>rz j F0 (Sl.nil:Sl Bs) (0:Int))
theorem X_ {y B r}(b:Cd y B=some r) (H:ah) :At 50 [.agg (aR.c y),.d (.int .i64 B)] H (RT (.a (.d (Sl.d 1 aW none r))) H):=by
 unfold Cd at b;refine AC.oW 41 [.tmp 4] Tryz.call50 Tryz.func50 ?_;refine ag.tok 1 fun j ai=>?_;refine Y2 ?_;refine s0 (dM (k':=1) rfl) rfl ?_;refine Y1 ?_;refine ar fun aj I=>Y6 ?_;refine Gk 12 ?_;refine bE 13 rfl (fun hC=>dW bJ.c y.bw) ?_;refine G2 11 14 rfl rfl BI ?_;refine Y2 ?_;refine cE b (fun J b=>?_) (fun J b=>?_)
 ·refine Y1 ?_;refine s0 (dM (k':=1) rfl) rfl ?_;refine Y1 ?_;refine ry ?_;obtain rfl:=oJ b;refine bR.cK H rfl ⟨rfl,rfl⟩ ?_;exact sy
 refine sk I (Y3 ?_);refine ag.gv 5 1 j rfl au ?_;refine aN kN (fun(z:(Sl Bs))=>[(5,.a (.d (Sl.d 1 aW (some j) z)))]) (fun z=>(tS H j 1 z)) (fun z=>G0 z=some r) ?_ ?_
 ·intro ak K;refine ag.tok 0 fun k v=>?_;obtain⟨L,v⟩:=ah.dP v;refine ag.tok 1 fun m p=>?_;obtain⟨al,p⟩:=ah.dP p;obtain⟨M,p⟩:=ah.dP p;refine Y5 ?_;obtain⟨an,N,b⟩:=bO b;refine aH.s0 (iK (f:=bJ.c) (TK rfl) rfl (TK rfl) rfl rfl rfl N) rfl ?_;refine Y2 ?_
  refine aH.sH (N8 (id:=k) au) rfl ?_;refine aH.Dh (((H.set j (some (.tok 1 0))).set k (some (.map (bg ([]:List Bs))))).set m (some (.tok 1 0))) ?_;obtain⟨g,O,b⟩:=bO b;refine aH.sH (bF rfl rfl (AC.uk (.cons (.refl _) (.cons (.refl _) (.cons (.refl _) (.cons (jf.nil (k':=1) (t:=m) au) .nil)))) (X4 O _ au au))) rfl ?_
  refine aH.Dh (((H.set j (some (.tok 1 0))).set k (some (.map (bg g.2)))).set m (some (.tok 1 g.1.l.length))) ?_;refine aH.s0 (mv (f:=aW) (s:=g.1) (TK rfl) rfl rfl rfl) rfl ?_;refine Y2 ?_;refine ag.eG 25 rfl ?_;refine Y1 ?_
  refine bx (tl [25,26]) (fun(z:Nat×(Sl Bs)×Int)=>[(5,.a (.d (Sl.d 1 aW (some j) z.2.1))),(27,.a (.d (.int .i64 z.2.2)))]) (fun z=>(((tS H j 1 z.2.1).set k (some (.map (bg g.2)))).set m (some (.tok 1 g.1.l.length)))) (fun z=>z.1) (fun z=>rz g z.1 z.2.1 z.2.2=some r) (F0,(Sl.nil:Sl Bs),(0:Int)) b wA ?_;rintro ⟨u,C,P⟩ b ao Q;try dsimp only at b
  cases u with
  | zero=>cases b
  | succ u =>
    rw [rz] at b;refine Y3 ?_;refine ar fun ap R=>?_;refine cE b (fun U b=>?_) (fun U b=>?_)
    ·refine sk R (aN (tl [25,26,27]) (fun(z:(Sl Bs))=>[(5,.a (.d (Sl.d 1 aW (some j) z)))]) (fun z=>(((tS H j 1 z).set k (some (.map (bg g.2)))).set m (some (.tok 1 g.1.l.length)))) (fun z=>y5 P ((rz g u)) z=some r) ?_ ?_)
     ·intro av E;refine Y2 ?_;obtain⟨aw,W,b⟩:=bO b;refine s0 (iK (f:=aW) (TK rfl) rfl (TK rfl) rfl rfl rfl W) rfl ?_;refine Y6 ?_;obtain⟨ax,X,b⟩:=bO b;refine Sc rfl rfl (tP X) (Y2 ?_);refine cE b (fun Y b=>?_) (fun Y b=>?_)
      ·refine Y4 ?_;obtain⟨F,Z,b⟩:=bO b;refine SH (am aW (TK rfl) rfl (TK rfl) (TK rfl) Z) ?_;refine hq (((tS H j 1 F).set k (some (.map (bg g.2)))).set m (some (.tok 1 g.1.l.length))) (Y2 ?_);exact E _ F wA b
      refine ag.skip ?_;exact E _ C wA b
     rintro aa b;try dsimp only at b
     unfold y5 at b;refine Y1 ?_;obtain⟨ab,ad,b⟩:=bO b;refine S (gh ad) (Y2 ?_);exact Q _ (u,aa,ab) wA b (nS _)
    refine ag.exit ?_;exact K _ C (cI.toFA (by(intro G ay q); (have ae:G≠k:=fun w=>by rw [w] at q; simp [ah.set,v,L] at q); (have af:G≠m:=fun w=>by rw [w] at q; simp [ah.set,p,M] at q); (rw [<- q]); (simp only [ah.set,if_neg ae,if_neg af]); (first|done|rfl))) b
 rintro az b;try dsimp only at b
 unfold G0 at b;refine Y4 ?_;refine ag.eG 4 rfl ?_;refine ry ?_;obtain rfl:=oJ b;refine bR.cK H rfl ⟨rfl,rfl⟩ ?_;exact sy
def FT (f:aR) (b:Int):Option (Sl Bs):=Cd f b
def y9 (f:bN) (b:af):Bool:=((f.aa==b.bK))
def C4 (f:bN) (b:af):Option Bool:=some (y9 f b)
theorem Ya (a0:bN) (b:af):C4 a0 b=some (y9 a0 b):=rfl
theorem Yb {g b r}(f:C4 g b=some r) (H:ah) :At 185 [.agg (bN.c g),.d (.view (af.c b))] H (RT (.a (.d (.bool r))) H):=by
 unfold C4 y9 at f;refine AC.oW 9 [.tmp 3] Tryz.call185 Tryz.func185 ?_;refine kH ?_;exact rt f
def Tryz.Yc:Go.Shelf.Ren:=⟨fun|10=>252|6=>261|n=>n,fun|22=>54|23=>3|25=>268|3=>3|4=>4|0=>0|n=>n,fun|n=>n⟩
theorem Tryz.Yd:Go.Proofs.SlLaysH.n10 Tryz.prog Tryz.Yc:={
 mixed:=by kernel_rfl
 f6:=⟨Tryz.f261.name,by decide,Tryz.func261.trans (congrArg some (by kernel_rfl))⟩
 f10:=⟨Tryz.f252.name,by decide,Tryz.func252.trans (congrArg some (by kernel_rfl))⟩
 t0:=Tryz.underlying0
 a0:=Tryz.isAgg0
 z0:=Tryz.sizeOf0
 v0:=Tryz.zeroValue0
 t3:=Tryz.underlying3
 a3:=Tryz.isAgg3
 z3:=Tryz.sizeOf3
 v3:=Tryz.zeroValue3
 t4:=Tryz.underlying4
 a4:=Tryz.isAgg4
 z4:=Tryz.sizeOf4
 v4:=Tryz.zeroValue4
 t22:=Tryz.underlying54
 a22:=Tryz.isAgg54
 z22:=Tryz.sizeOf54
 v22:=Tryz.zeroValue54
 a23:=Tryz.isAgg3
 z23:=Tryz.sizeOf3
 t25:=Tryz.underlying268
 a25:=Tryz.isAgg268
 z25:=Tryz.sizeOf268
 v25:=Tryz.zeroValue268 }
theorem Ye {s:Sl Int}{f:Int->Option Bool}{g:Nat}(ht:∀x,∃z,f x=some z) (b:∀args w,(callFunc g args).run Tryz.prog w=.ok (.enter g args) w) (hg:∀x z w,f x=some z->Calls Tryz.prog g #[.int .i64 x] w fun e w'=>e=.returned (.bool z)/\w'=w)
  {H:ah}{id m:Nat}{nl:Bool}(hH:H id=some (.arr 1 (s.l.map (bM .i64)))) (hm:m=s.l.length) (hn:nl=s.nl):At 252 [.d (.arr 1 id nl m),.d (.func g [])] H fun r h'=>r=.a (.d (Sl.d 1 (bM .i64) none (DU f s)))/\h'=H.set id none :=
 Pg Tryz.Yd Tryz.zeroValue3 ht b hg hH hm hn rfl
def C5 (b:Int):Option Bool:=some (decide (b=(1:Int)))
theorem Yf (x:Int):∃z,C5 x=some z:=⟨_,rfl⟩
theorem Yg (args:Array Value) (w:World):(callFunc 253 args).run Tryz.prog w=.ok (.enter 253 args) w:=Tryz.call253 args w
theorem Yh (x:Int) (z:Bool) (w:World) (h:C5 x=some z):Calls Tryz.prog 253 #[.int .i64 x] w fun e w'=>e=.returned (.bool z)/\w'=w:=by
 obtain rfl:=oJ h
 go_enter Tryz.func253,Tryz.ntmps253
 go_wp2
 go_ret
 exact⟨rfl,rfl⟩
def vt (g:(Sl Int)):Option (Sl Int):=(mN g).bind fun b=>(some (DU C5 b)).bind fun f=>some f
theorem Nf {j w0 r}(b:vt j=some r) (H:ah) :At 244 [.d (Sl.d 1 (bM .i64) w0 j)] H (RT (.a (.d (Sl.d 1 (bM .i64) none r))) H):=by
 unfold vt at b;refine AC.oW 6 [.tmp 2] Tryz.call244 Tryz.func244 ?_;refine ag.ON 1 fun k t=>?_;refine Y1 ?_;refine s0 (dM (k':=1) rfl) rfl ?_;refine Y3 ?_;obtain⟨g,m,b⟩:=bz b;refine sH (bF rfl rfl (Wu m _ au)) rfl ?_;refine hq (H.set k (some (.arr 1 (g.l.map (bM .i64))))) ?_;obtain⟨u,p,b⟩:=bz b;have q:=oJ p
 refine sH (bF rfl rfl (Ye (s:=g) (f:=C5) Yf Yg Yh au (by first|rfl|simp [Sl.Ir,Sl.nil,IE]) rfl)) rfl ?_;refine hq H ?_;rw [q];refine Y2 ?_;exact rt b
def yN (f:ax) (b:ax):Option Bool:=a_ (((f.aa==b.aa))) (vt f.av) (Sl.nil:Sl Int) fun g=>a_ (((f.aa==b.aa))) (vt b.av) (Sl.nil:Sl Int) fun j=>a_ (((f.aa==b.aa))) (oz g j) false fun k=>some (((f.aa==b.aa))&&k)
def C6 (f:ax) (b:ax):Option Bool:=yN f b
theorem TP (a0:ax) (b:ax):C6 a0 b=yN a0 b:=rfl
theorem Yi {g f r}(b:C6 g f=some r) (H:ah) :At 241 [.agg (ax.c g),.agg (ax.c f)] H (RT (.a (.d (.bool r))) H):=by
 unfold C6 yN at b;refine AC.oW 19 [.tmp 4] Tryz.call241 Tryz.func241 ?_;refine xB ?_;refine cG 11 ?_;obtain⟨m,j,b⟩:=dV b;refine uw 12 rfl rfl rfl rfl rfl (fun hC=>Nf (j hC)) ?_;refine Y1 ?_;refine cG 14 ?_;obtain⟨p,k,b⟩:=dV b;refine uw 15 rfl rfl rfl rfl rfl (fun hC=>Nf (k hC)) ?_;obtain⟨q,l,b⟩:=dV b
 refine nP 13 16 rfl rfl rfl rfl rfl rfl (fun hC=>GH (l hC)) ?_;refine Y3 ?_;exact rt b
def vu (j:ax) (k:ax) (l:ax) (m:ax->ax->ax->ax->Option (ax×Bool)) (b:ax):Option (ax×Bool):=(zB j).bind fun f=>(zB k).bind fun g=>bif ((!f.2)||(!g.2)) then(some (b,true)) else((bq 8 b.av (⟨false,[(2:Int)]⟩:Sl Int)).bind fun p=>m f.1 g.1 l (ax.mk b.aa p))
def oZ :Nat->ax->ax->ax->ax->Option (ax×Bool)
 | 0,_,_,_,_=>none
 | j+1,b,f,k,g=>(zu b).bind fun l=>a_ (l) (zu f) false fun m=>bif (l&&m) then((bq 8 g.av (⟨false,[(1:Int)]⟩:Sl Int)).bind fun p=>vu b f k ((oZ  j)) (ax.mk g.aa p)) else(vu b f k ((oZ  j)) g)
def BH (b:ax) (f:ax):Option (ax×Bool):=(C6 b f).bind fun g=>bif (!g) then(some ((ax.mk [] Sl.nil),false)) else(oZ F0 b f ax.zero (ax.mk b.aa Sl.nil))
theorem Yj {k l r}(b:BH k l=some r) (H:ah) :At 234 [.agg (ax.c k),.agg (ax.c l)] H (RT (.b_ [.agg (ax.c r.1),.d (.bool r.2)]) H):=by
 unfold BH at b;refine AC.oW 54 [.cell 4 56,.tmp 5] Tryz.call234 Tryz.func234 ?_;refine Y1 ?_;refine sL (pX rfl) rfl ?_;refine sL (pX rfl) rfl ?_;refine Y3 ?_;refine ar fun W B=>Y3 ?_;obtain⟨X,C,b⟩:=bO b;refine Sc rfl rfl (Yi C) (Y2 ?_);refine cE b (fun E b=>?_) (fun E b=>?_)
 ·refine Y5 ?_;exact rt b
 refine sk B (Y5 ?_);refine aI.tok 1 fun f Y=>?_;refine aI.dU 3 _ rfl (fun j w cs hh hx=>tok_cell 1 1 1 hh (t:=f) au hx rfl) ?_;refine Y1 ?_;refine aI.dU 3 _ rfl (fun j w cs hh hx=>tok_cell 1 1 1 hh (t:=f) au hx rfl) ?_;refine Y2 ?_
 refine iA (tl [2,3,4,6]) (fun(z:Nat×ax×ax×ax×ax)=>[]) (fun z=>[ax.c z.2.1,ax.c z.2.2.1,ax.c z.2.2.2.1,(aW z.2.2.2.2.aa++[Sl.d 1 (bM .i64) (some f) z.2.2.2.2.av])]) (fun z=>(tS H f 1 z.2.2.2.2.av)) (fun z=>z.1) (fun z=>oZ z.1 z.2.1 z.2.2.1 z.2.2.2.1 z.2.2.2.2=some r) (F0,k,l,ax.zero,(ax.mk k.aa Sl.nil)) b wA ?_;rintro ⟨g,p,q,m,s⟩ b Z F
 try dsimp only at b
 cases g with
 | zero=>cases b
 | succ g =>
   rw [oZ] at b;refine Y1 ?_;refine fh (tl [2,3,4,6]) (fun(z:ax)=>[]) (fun z=>[ax.c p,ax.c q,ax.c m,(aW z.aa++[Sl.d 1 (bM .i64) (some f) z.av])]) (fun z=>(tS H f 1 z.av)) (fun z=>vu p q m ((oZ g)) z=some r) ?_ ?_
   ·intro ab u;refine Y2 ?_;obtain⟨ad,G,b⟩:=bO b;refine Sc rfl rfl (pI G) (Y2 ?_);obtain⟨ae,I,b⟩:=gO b;refine dx 22 rfl rfl rfl rfl rfl (fun hC=>pI (I hC)) ?_;refine Y2 ?_;refine cE b (fun J b=>?_) (fun J b=>?_)
    ·refine Y4 ?_;obtain⟨v,K,b⟩:=bO b;refine SH (am (bM .i64) (TK rfl) rfl (TK rfl) (TK rfl) K) ?_;refine hq (tS H f 1 v) (Y3 ?_);exact u _ (ax.mk s.aa v) wA b
    refine ag.skip ?_;exact u _ s wA b
   rintro L b;try dsimp only at b
   unfold vu at b;refine Y2 ?_;obtain⟨M,N,b⟩:=bO b;refine Sc rfl rfl (zC N) (Y7 ?_);refine bl 7 _ rfl (kl [2,3,4,6,8]) ?_;refine Y2 ?_;obtain⟨O,P,b⟩:=bO b;refine Sc rfl rfl (zC P) (Y7 ?_);refine bl 9 _ rfl (kl [2,3,4,6,7,8,10]) ?_;refine ar fun af Q=>Y5 ?_;refine Gk 43 ?_;refine Y2 ?_;refine cE b (fun R b=>?_) (fun R b=>?_)
   ·refine ar fun ai S=>ag.dU 3 _ rfl (fun j w cs hh hx=>nG 1 hx rfl) ?_;refine Y5 ?_;refine S _ ?_;refine ry ?_;obtain rfl:=oJ b;refine bR.cK H rfl ⟨rfl,rfl⟩ ?_;exact sy
   refine sk Q (Y4 ?_);obtain⟨y,U,b⟩:=bO b;refine SH (am (bM .i64) (TK rfl) rfl (TK rfl) (TK rfl) U) ?_;refine hq (tS H f 1 y) (Y3 ?_);refine ag.draw rfl ?_;refine Y5 ?_;exact F _ (g,M.1,O.1,m,(ax.mk L.aa y)) wA b (nS _)
def BG (f:ax) (b:ax):Option (ax×Bool):=BH f b
def yO (j:ax) (f:ax):Option Bool:=(BG j f).bind fun b=>a_ (b.2) (sM b.1 f) false fun g=>some (b.2&&g)
theorem Yk {g f r}(b:yO g f=some r) (H:ah) :At 220 [.agg (ax.c g),.agg (ax.c f)] H (RT (.a (.d (.bool r))) H):=by
 unfold yO at b;refine AC.oW 19 [.tmp 4] Tryz.call220 Tryz.func220 ?_;refine Y8 ?_;obtain⟨l,j,b⟩:=bz b;refine Sc rfl rfl (Yj j) (Y7 ?_);refine bl 5 _ rfl (kl [3,6]) ?_;refine Y5 ?_;obtain⟨m,k,b⟩:=dV b;refine fV 15 16 rfl rfl rfl rfl rfl rfl (fun hC=>MX (k hC)) ?_;refine Y3 ?_;exact rt b
def Ce (j:an) (b:bN) (g:ax) (k:Bool):Option Bool:=(yO b.aM g).bind fun f=>some f
theorem Yl {g f j k r}(b:Ce g f j k=some r) (H:ah) :At 186 [.agg (an.c g),.agg (bN.c f),.agg (ax.c j),.d (.bool k)] H (RT (.a (.d (.bool r))) H):=by
 unfold Ce at b;refine AC.oW 13 [.tmp 8] Tryz.call186 Tryz.func186 ?_;refine jM ?_;obtain⟨m,l,b⟩:=bz b;refine Sc rfl rfl (Yk l) (Y2 ?_);exact rt b
def tJ (j:Bool) (k:Bs) (b:(ax×Bool)) (g:bf->af->ax->Bool->Bs->Option bf):List af->bf->Option (bf)
 | [],f=>some f
 | l::m,f=>on (l) fun p=>(g f p b.1 (j&&b.2) k).bind fun q=>tJ j k b g (m) q
def ph (g:af) (q:Bool) (r:Bs) (b:(ay×Bool)) (k:bf->af->ax->Bool->Bs->Option bf):List af->Nat->bf->Option (bf)
 | [],f,j=>some j
 | s::t,f,j=>on (s) fun u=>Option.bind (bif (((b.2&&q)&&(decide (b.1.aj=(5:Int))))&&(decide (((f:Nat):Int)<((g.aX.l.length:Nat):Int)))) then((g.aX.l[f]?).bind fun v=>on (iq b.1.bG v) fun m=>some (m.2,m.1)) else(some (false,az.zero))) fun p=>(k j u p.2.aM p.1 r).bind fun w=>on (w) fun y=>ph g q r b k (t) (f+1) y
def iF:Nat->bf->af->ax->Bool->Bs->Option bf
 | 0,_,_,_,_,_=>none
 | n+1,b,f,k,j,m=>bif (decide (f.aj=(7:Int))) then(on (td b.dG (fun p=>y9 p f)) fun g=>a_ ((!(decide (g<(0:Int)))&&j)) (dc b.dG.l (if (0:Int)>g then(0:Int) else g)) bN.zero fun q=>a_ ((!(decide (g<(0:Int)))&&j)) (Ce b.Fd q k false) false fun r=>(jB b ((decide (g<(0:Int)))||(j&&(!r))) (27:Int) m).bind fun s=>some s) else(bif (decide (f.aj=(5:Int))) then((oh k).bind fun t=>Option.bind (tJ j m t (iF n) f.aB.l b) fun u=>some u) else(bif (decide (f.aj=(6:Int))) then(on (cL b.Fd k.aa) fun v=>Option.bind (ph f j m v (iF n) f.aB.l 0 b) fun w=>some w) else(some b)))
def G3 (n:Nat):Prop:=∀{a0:bf}{g:af}{a2:ax}{a3:Bool}{a4:Bs}  {f:Nat}{b:Nat}{r:bf},iF n a0 g a2 a3 a4=some r->∀(H:ah) (j:H f=some (.cells (bf.cg (some b) a0))) (k:H b=some (.tok 2 a0.aC.l.length)),At 146 [.d (.ptr f 0),.agg (af.c g),.agg (ax.c a2),.d (.bool a3),.d (.str a4)] H (RT (.b_ []) (((tS H b 2 r.aC).set f (some (.cells (bf.cg (some b) r))))))
theorem Ym (n:Nat) (I:G3 (ak:=ak) n):G3 (ak:=ak) (n+1):=by
 intro p m be t u  j g r b H aM aO;rw [iF] at b;refine AC.oW 136 [] Tryz.call146 Tryz.func146 ?_;have aP:j≠g:=fun Q=>by subst Q; simp_all
 refine hz ((tS H g 2 p.aC).set j (some (.cells (bf.cg (some g) p)))) (xB ?_);refine cE b (fun R b=>?_) (fun R b=>?_)
 ·refine Y5 ?_;refine s0 (makeFunc rfl) rfl ?_;obtain⟨aR,U,b⟩:=vT (o:=wM p.dG (fun W=>C4 W m)) (by simp only [Ya,M7]) b;refine s0 (fT rfl rfl (fun H=>M6 U H (fun _ _ hx=>Yb hx _))) rfl ?_;refine Y2 ?_;refine ag.draw rfl ?_;refine Y5 ?_;refine cG 35 ?_;refine Y1 ?_;refine cG 37 ?_;refine fL 38 rfl (fun hC=>iJ (TK rfl) rfl rfl (TK rfl) rfl rfl) ?_
  refine fL 39 rfl (fun hC=>iI (TK rfl) rfl rfl au rfl) ?_;refine Y1 ?_;refine cG 41 ?_;refine fL 42 rfl (fun hC=>iJ (TK rfl) rfl rfl (TK rfl) rfl rfl) ?_;refine fL 43 rfl (fun hC=>iI (TK rfl) rfl rfl au rfl) ?_;refine Y1 ?_;refine fL 45 rfl (fun hC=>Io rfl rfl) ?_;obtain⟨aS,X,b⟩:=dV b;refine nQ 44 46 rfl rfl (fun hC=>iK (f:=bN.c) (TK rfl) rfl (TK rfl) rfl rfl rfl (X hC)) ?_
  refine cG 47 ?_;refine Y1 ?_;obtain⟨aT,Y,b⟩:=dV b;refine aH.gC rfl rfl (fun hC=>fm (k:=40) rfl (fm (k:=48) rfl (fm (k:=49) rfl (fT rfl rfl (fun H=>Yl (Y hC) H))))) rfl ?_;refine cG 50 ?_;refine fL 36 rfl (fun hC=>f_ rfl rfl rfl) ?_;refine Y2 ?_;obtain⟨v,Z,b⟩:=bz b;refine aH.sH (bF rfl rfl (wN Z _ au au)) rfl ?_
  refine aH.Dh ((tS H g 2 v.aC).set j (some (.cells (bf.cg (some g) v)))) ?_;refine Y1 ?_;repeat (first|refine eS ?_|refine eR ?_|refine eP ?_)
  obtain rfl:=oJ b;refine bR.eX ((tS H g 2 v.aC).set j (some (.cells (bf.cg (some g) v)))) (xs:=[]) rfl ⟨rfl,rfl⟩ ?_;exact(fun _ _ h=>h)
 refine Y4 ?_;refine cE b (fun aa b=>?_) (fun aa b=>?_)
 ·refine Y2 ?_;obtain⟨J,ab,b⟩:=bz b;refine Sc rfl rfl (zC ab) (Y7 ?_);refine bl 11 _ rfl (kl [0,3,4,6,12]) ?_;refine Y2 ?_;refine s0 (cA (TK rfl) rfl rfl (af.dX _)) rfl ?_;refine aV af.c m.aB fun aU=>Y3 ?_;obtain⟨K,ad,b⟩:=b5 b
  refine bx (tl [0,3,4,11,12,64,65]) (fun(z:Nat×bf)=>[(66,vi z.1)]) (fun z=>((tS H g 2 z.2.aC).set j (some (.cells (bf.cg (some g) z.2))))) (fun z=>m.aB.l.length-z.1) (fun z=>Option.bind (tJ t u J (iF n) (m.aB.l.drop z.1) z.2) K=some r) (0,p) b wA ?_;rintro ⟨L,w⟩ b aY ae;try dsimp only at b
  refine Y3 ?_;refine ar fun aZ ai=>?_;refine ag.bW (fun l=>Option.bind (tJ t u J (iF n) l w) K=some r) b rfl (fun a0 M y b=>?_) (fun y b=>?_)
  ·rw [tJ] at b;try dsimp only at y
   have a1:=oD y;refine sk ai (ar fun a2 aj=>Y2 ?_);obtain⟨a3,al,b⟩:=vO M b;refine S (ix af.c L al) (Y4 ?_);refine bl 14 _ rfl (kl [0,3,4,11,12,64,65,66]) ?_;refine Y9 ?_;obtain⟨B,am,b⟩:=aQ b;refine sH (bF rfl rfl (I am _ au au)) rfl ?_;refine hq ((tS H g 2 B.aC).set j (some (.cells (bf.cg (some g) B)))) (Y1 ?_);refine aj _ ?_;refine Y4 ?_
   exact ae _ ((L+1),B) wA b (dl M)
  rw [tJ] at b;have b:=ku ad b;refine ag.exit ?_;repeat (first|refine eS ?_|refine eR ?_|refine eP ?_)
  obtain rfl:=oJ b;refine bR.eX ((tS H g 2 w.aC).set j (some (.cells (bf.cg (some g) w)))) (xs:=[]) rfl ⟨rfl,rfl⟩ ?_;exact(fun _ _ h=>h)
 refine Y4 ?_;refine cE b (fun an b=>?_) (fun an b=>?_)
 ·refine Y7 ?_;obtain⟨C,ao,b⟩:=dD b;refine ck rfl rfl (iM ao) (Y7 ?_);refine bl 15 _ rfl (kl [0,3,4,6,16]) ?_;refine Y7 ?_;refine Gk 97 ?_;refine Gk 98 ?_;refine Y5 ?_;refine s0 (cA (TK rfl) rfl rfl (af.dX _)) rfl ?_;refine aV af.c m.aB fun a4=>Y3 ?_;obtain⟨E,ap,b⟩:=b5 b
  refine bx (tl [0,4,6,15,16,102,103]) (fun(z:Nat×bf)=>[(104,vi z.1)]) (fun z=>((tS H g 2 z.2.aC).set j (some (.cells (bf.cg (some g) z.2))))) (fun z=>m.aB.l.length-z.1) (fun z=>Option.bind (ph m t u C (iF n) (m.aB.l.drop z.1) z.1 z.2) E=some r) (0,p) b wA ?_;rintro ⟨q,s⟩ b a5 av;try dsimp only at b
  refine Y3 ?_;refine ar fun a6 aw=>?_;refine ag.bW (fun l=>Option.bind (ph m t u C (iF n) l q s) E=some r) b rfl (fun a7 N F b=>?_) (fun F b=>?_)
  ·rw [ph] at b;try dsimp only at F
   have a8:=oD F;refine sk aw (aN (tl [0,4,6,15,16,102,103,104]) (fun(z:bf)=>[]) (fun z=>((tS H g 2 z.aC).set j (some (.cells (bf.cg (some g) z))))) (fun z=>Option.bind (ph m t u C (iF n) (m.aB.l.drop (q+1)) (q+1) z) E=some r) ?_ ?_)
   ·intro a9 ax;refine Y3 ?_;obtain⟨a_,ay,b⟩:=vO N b;refine S (ix af.c q ay) (Y5 ?_);refine bl 18 _ rfl (kl [0,4,6,15,16,17,102,103,104]) ?_;refine Y6 ?_;obtain⟨aA,aD,b⟩:=eB b
    refine fh (tl [0,4,6,15,16,18,19,102,103,104]) (fun(z:Bool×az)=>[(20,.a (.d (.bool z.1)))]) (fun z=>[az.c z.2]) (fun z=>((tS H g 2 s.aC).set j (some (.cells (bf.cg (some g) s))))) (fun z=>aA (z.1,z.2)=some r) ?_ ?_
    ·intro a' O;refine Y5 ?_;refine Gk 112 ?_;refine bE 113 rfl (fun hC=>dW aW m.aX) ?_;refine G2 111 114 rfl rfl BI ?_;refine Y2 ?_;refine cO b (fun aE b=>?_) (fun aE b=>?_)
     ·refine ag.draw rfl ?_;refine Y5 ?_;obtain⟨ba,aF,b⟩:=aQ b;refine Sd (ix aW q aF) (Y1 ?_);obtain⟨P,aG,b⟩:=dm b;refine ck rfl rfl (wv aG) (Y6 ?_);exact O _ (P.2,P.1) wA b
     refine ag.skip ?_;exact O _ (false,az.zero) wA b
    rintro ⟨bb,bc⟩ b;try dsimp only at b
    have b:=ku aD b;try dsimp only at b
    refine Y7 ?_;obtain⟨G,aJ,b⟩:=aQ b;refine sH (bF rfl rfl (I aJ _ au au)) rfl ?_;refine hq ((tS H g 2 G.aC).set j (some (.cells (bf.cg (some g) G)))) (Y1 ?_);obtain⟨bd,aK,b⟩:=gB b;exact ax _ G wA (ku aK b:)
   rintro aL b;try dsimp only at b
   refine Y4 ?_;exact av _ ((q+1),aL) wA b (dl N)
  rw [ph] at b;have b:=ku ap b;refine ag.exit ?_;repeat (first|refine eS ?_|refine eR ?_|refine eP ?_)
  obtain rfl:=oJ b;refine bR.eX ((tS H g 2 s.aC).set j (some (.cells (bf.cg (some g) s)))) (xs:=[]) rfl ⟨rfl,rfl⟩ ?_;exact(fun _ _ h=>h)
 refine ag.skip ?_;repeat (first|refine eS ?_|refine eR ?_|refine eP ?_)
 obtain rfl:=oJ b;refine bR.eX ((tS H g 2 p.aC).set j (some (.cells (bf.cg (some g) p)))) (xs:=[]) rfl ⟨rfl,rfl⟩ ?_;exact(fun _ _ h=>h)
theorem Ng:∀(n:Nat),(G3 (ak:=ak) n)
 | 0=>fun b=>by first|cases b|(rw [iF] at b; cases b)
 | n+1=>Ym n (Ng n)
def Yn (f:bf) (b:af) (g:ax) (j:Bool) (k:Bs):Option bf:=iF F0 f b g j k
theorem Nh {g j k m p f b r}(q:Yn g j k m p=some r) (H:ah) (s:H f=some (.cells (bf.cg (some b) g))) (t:H b=some (.tok 2 g.aC.l.length)):At 146 [.d (.ptr f 0),.agg (af.c j),.agg (ax.c k),.d (.bool m),.d (.str p)] H (RT (.b_ []) (((tS H b 2 r.aC).set f (some (.cells (bf.cg (some b) r)))))):=(Ng F0) q H s t
def y_ (f:bf) (b:af) (g:ax) (j:Bool) (k:Bs):Option bf:=iF F0 f b g j k
def pn (j:Bs) (b:aP):List aO->bf->Option (bf)
 | [],f=>some f
 | k::l,f=>on (k) fun g=>on (ov ([66,111,111,108,101,97,110]:Bs)) fun m=>(ou m).bind fun p=>(y_ f g.dr p (((g.aa==([105,102]:Bs)))&&(((b.aa==([115,107,105,112]:Bs)))||((b.aa==([105,110,99,108,117,100,101]:Bs))))) j).bind fun q=>pn j b (l) q
def rB (g:Bs):List aP->bf->Option (bf)
 | [],b=>some b
 | j::k,b=>on (j) fun f=>Option.bind (pn g f f.aG.l b) fun m=>on (m) fun p=>rB g (k) p
def kY (g:bf) (b:(Sl aP)) (j:Bs):Option bf:=Option.bind (rB j b.l g) fun f=>some f
theorem G4 {m k j G g f r}(b:kY m k j=some r) (H:ah) (ab:H g=some (.cells (bf.cg (some f) m))) (ad:H f=some (.tok 2 m.aC.l.length)):At 101 [.d (.ptr g 0),.d (Sl.d 2 aP.c G k),.d (.str j)] H (RT (.b_ []) (((tS H f 2 r.aC).set g (some (.cells (bf.cg (some f) r)))))):=by
 unfold kY at b;refine AC.oW 47 [] Tryz.call101 Tryz.func101 ?_;have ae:g≠f:=fun I=>by subst I; simp_all
 refine hz ((tS H f 2 m.aC).set g (some (.cells (bf.cg (some f) m)))) (Y2 ?_);refine aV aP.c k fun af=>Y3 ?_;obtain⟨s,J,b⟩:=b5 b;refine bx (tl [0,2,11,12]) (fun(z:Nat×bf)=>[(13,vi z.1)]) (fun z=>((tS H f 2 z.2.aC).set g (some (.cells (bf.cg (some f) z.2))))) (fun z=>k.l.length-z.1) (fun z=>Option.bind (rB j (k.l.drop z.1) z.2) s=some r) (0,m) b wA ?_
 rintro ⟨t,q⟩ b ai K;try dsimp only at b
 refine Y3 ?_;refine ar fun aj L=>?_;refine ag.bW (fun l=>Option.bind (rB j l q) s=some r) b rfl (fun ak y u b=>?_) (fun u b=>?_)
 ·rw [rB] at b;try dsimp only at u
  have al:=oD u;refine sk L (aN (tl [0,2,11,12,13]) (fun(z:bf)=>[]) (fun z=>((tS H f 2 z.aC).set g (some (.cells (bf.cg (some f) z))))) (fun z=>Option.bind (rB j (k.l.drop (t+1)) z) s=some r) ?_ ?_)
  ·intro am M;refine Y2 ?_;obtain⟨p,N,b⟩:=vO y b;refine S (ix aP.c t N) (Y4 ?_);refine bl 7 _ rfl (kl [0,2,11,12,13]) ?_;refine Y3 ?_;refine aV aO.c p.aG fun an=>Y3 ?_;obtain⟨B,O,b⟩:=eB b
   refine bx (tl [0,2,7,11,12,13,18,19]) (fun(z:Nat×bf)=>[(20,vi z.1)]) (fun z=>((tS H f 2 z.2.aC).set g (some (.cells (bf.cg (some f) z.2))))) (fun z=>p.aG.l.length-z.1) (fun z=>Option.bind (pn j p (p.aG.l.drop z.1) z.2) B=some r) (0,q) b wA ?_;rintro ⟨C,E⟩ b ao P;try dsimp only at b
   refine Y3 ?_;refine ar fun ap Q=>?_;refine ag.bW (fun l=>Option.bind (pn j p l E) B=some r) b rfl (fun av F v b=>?_) (fun v b=>?_)
   ·rw [pn] at b;try dsimp only at v
    have aw:=oD v;refine sk Q (ar fun ax R=>Y2 ?_);obtain⟨ay,U,b⟩:=vO F b;refine S (ix aO.c C U) (Y4 ?_);refine bl 9 _ rfl (kl [0,2,7,11,12,13,18,19,20]) ?_;refine Y6 ?_;refine Gk 28 ?_;refine Gk 29 ?_;refine Gk 30 ?_;refine Y1 ?_;refine Gk 32 ?_;refine Gk 33 ?_;refine bE 31 rfl (fun hC=>kB rfl rfl rfl) ?_;refine Y3 ?_;refine ag.draw rfl ?_;refine Y3 ?_
    obtain⟨az,W,b⟩:=dm b;refine ck rfl rfl (Gw W) ?_;obtain⟨aA,X,b⟩:=aQ b;refine ck rfl rfl (Gv X) (Y2 ?_);obtain⟨w,Y,b⟩:=aQ b;refine aH.sH (bF rfl rfl (Nh Y _ au au)) rfl ?_;refine aH.Dh ((tS H f 2 w.aC).set g (some (.cells (bf.cg (some f) w)))) ?_;refine Y1 ?_;refine R _ ?_;refine Y4 ?_;exact P _ ((C+1),w) wA b (dl F)
   rw [pn] at b;have b:=ku O b;refine ag.exit ?_;obtain⟨aB,Z,b⟩:=gB b;exact M _ E wA (ku Z b:)
  rintro aa b;try dsimp only at b
  refine Y4 ?_;exact K _ ((t+1),aa) wA b (dl y)
 rw [rB] at b;have b:=ku J b;refine ag.exit ?_;repeat (first|refine eS ?_|refine eR ?_|refine eP ?_)
 obtain rfl:=oJ b;refine bR.eX ((tS H f 2 q.aC).set g (some (.cells (bf.cg (some f) q)))) (xs:=[]) rfl ⟨rfl,rfl⟩ ?_;exact(fun _ _ h=>h)
def pu (j:Bs) (g:Bs) (k:bf->ai->Bs->Bs->Option bf) (l:bf->(Sl ai)->Bs->Bs->Option bf):List ai->bf->Option (bf)
 | [],f=>some f
 | m::p,f=>on (m) fun b=>Option.bind (bif (decide (b.aj=(2:Int))) then((kY f b.bS g).bind fun q=>some q) else(bif (decide (b.aj=(3:Int))) then((kY f b.bS g).bind fun r=>on (bif (!(b.b9==([]:Bs))) then(b.b9) else(j)) fun s=>(l r b.aK s g).bind fun t=>some t) else((k f b j g).bind fun u=>some u))) fun v=>pu j g k l (p) v
def pq (f:Bs) (g:aT):List aO->bf->Option (bf)
 | [],b=>some b
 | l::m,b=>on (l) fun j=>on (iq g.aG j.aa) fun k=>(y_ b j.dr k.1.aM k.2 f).bind fun p=>pq f g (m) p
mutual
def ja:Nat->bf->(Sl ai)->Bs->Bs->Option bf
 | 0,_,_,_,_=>none
 | n+1,g,b,j,k=>Option.bind (pu j k (ko n) (ja n) b.l g) fun f=>some f
def ko:Nat->bf->ai->Bs->Bs->Option bf
 | 0,_,_,_,_=>none
 | n+1,j,b,m,y=>on (bif ((b.cq==([]:Bs))) then(b.aa) else(b.cq)) fun p=>(cC ([47]:Bs) p).bind fun q=>(cC y q).bind fun f=>on (cL j.Fd m) fun g=>on (bif g.2 then fC j.Fd m else false) fun r=>on (bif (g.2&&r) then(on (kM g.1 b.aa) fun s=>s.1) else(aT.zero)) fun k=>Option.bind (pq f k b.aG.l j) fun t=>on (t) fun u=>(kY u b.bS f).bind fun v=>((ja n) v b.aK k.aM.aa f).bind fun w=>some w
end
def C7 (n:Nat):Prop:=∀{a0:bf}{g:(Sl ai)}{a2:Bs}{a3:Bs}{j:Option Nat}{f:Nat}{b:Nat}{r:bf},ja n a0 g a2 a3=some r->∀(H:ah) (k:H f=some (.cells (bf.cg (some b) a0))) (m:H b=some (.tok 2 a0.aC.l.length)),At 51 [.d (.ptr f 0),.d (Sl.d 7 ai.c j g),.d (.str a2),.d (.str a3)] H (RT (.b_ []) (((tS H b 2 r.aC).set f (some (.cells (bf.cg (some b) r))))))
def C8 (n:Nat):Prop:=∀{a0:bf}{g:ai}{a2:Bs}{a3:Bs}  {f:Nat}{b:Nat}{r:bf},ko n a0 g a2 a3=some r->∀(H:ah) (j:H f=some (.cells (bf.cg (some b) a0))) (k:H b=some (.tok 2 a0.aC.l.length)),At 102 [.d (.ptr f 0),.agg (ai.c g),.d (.str a2),.d (.str a3)] H (RT (.b_ []) (((tS H b 2 r.aC).set f (some (.cells (bf.cg (some b) r))))))
theorem Yo (n:Nat) (I:C7 (ak:=ak) n) (J:C8 (ak:=ak) n):C7 (ak:=ak) (n+1):=by
 intro C j m E ae g f r b H af aj;rw [ja] at b;refine AC.oW 51 [] Tryz.call51 Tryz.func51 ?_;have al:g≠f:=fun K=>by subst K; simp_all
 refine hz ((tS H f 2 C.aC).set g (some (.cells (bf.cg (some f) C)))) (Y2 ?_);refine aV ai.c j fun am=>Y3 ?_;obtain⟨p,L,b⟩:=b5 b
 refine bx (tl [0,2,3,11,12]) (fun(z:Nat×bf)=>[(13,vi z.1)]) (fun z=>((tS H f 2 z.2.aC).set g (some (.cells (bf.cg (some f) z.2))))) (fun z=>j.l.length-z.1) (fun z=>Option.bind (pu m E (ko n) (ja n) (j.l.drop z.1) z.2) p=some r) (0,C) b wA ?_;rintro ⟨q,s⟩ b an M;try dsimp only at b
 refine Y3 ?_;refine ar fun ao N=>?_;refine ag.bW (fun l=>Option.bind (pu m E (ko n) (ja n) l s) p=some r) b rfl (fun ap F t b=>?_) (fun t b=>?_)
 ·rw [pu] at b;try dsimp only at t
  have av:=oD t;refine sk N (aN (tl [0,2,3,11,12,13]) (fun(z:bf)=>[]) (fun z=>((tS H f 2 z.aC).set g (some (.cells (bf.cg (some f) z))))) (fun z=>Option.bind (pu m E (ko n) (ja n) (j.l.drop (q+1)) z) p=some r) ?_ ?_)
  ·intro aw u;refine Y2 ?_;obtain⟨O,P,b⟩:=vO F b;refine S (ix ai.c q P) (Y4 ?_);refine bl 9 _ rfl (kl [0,2,3,11,12,13]) ?_;refine Y9 ?_;obtain⟨ax,v,b⟩:=eB b;refine cO b (fun Q b=>?_) (fun Q b=>?_)
   ·refine Y5 ?_;obtain⟨w,R,b⟩:=aQ b;refine sH (bF rfl rfl (G4 R _ au au)) rfl ?_;refine hq ((tS H f 2 w.aC).set g (some (.cells (bf.cg (some f) w)))) (Y1 ?_);exact u _ w wA (ku v b:)
   refine Y4 ?_;refine cO b (fun U b=>?_) (fun U b=>?_)
   ·refine Y5 ?_;obtain⟨k,W,b⟩:=aQ b;refine sH (bF rfl rfl (G4 W _ au au)) rfl ?_;refine hq ((tS H f 2 k.aC).set g (some (.cells (bf.cg (some f) k)))) (Y5 ?_);obtain⟨X,Y,b⟩:=gB b;refine aN (tl [0,2,3,9,11,12,13]) (fun(z:Bs)=>[(10,.a (.d (.str z)))]) (fun z=>((tS H f 2 k.aC).set g (some (.cells (bf.cg (some f) k))))) (fun z=>X z=some r) ?_ ?_
    ·intro ay G;refine Y5 ?_;refine cP b (fun Z b=>?_) (fun Z b=>?_)
     ·refine Y5 ?_;exact G _ O.b9 wA b
     refine ag.skip ?_;exact G _ m wA b
    rintro az b;try dsimp only at b
    have b:=ku Y b;refine Y3 ?_;refine s0 (cA (TK rfl) rfl rfl (congrArg (fun x=>some (A.d x)) (ai.gD _))) rfl ?_;refine Y2 ?_;obtain⟨y,aa,b⟩:=aQ b;refine sH (bF rfl rfl (I aa _ au au)) rfl ?_;refine hq ((tS H f 2 y.aC).set g (some (.cells (bf.cg (some f) y)))) (Y1 ?_);exact u _ y wA (ku v b:)
   refine Y5 ?_;obtain⟨B,ab,b⟩:=aQ b;refine sH (bF rfl rfl (J ab _ au au)) rfl ?_;refine hq ((tS H f 2 B.aC).set g (some (.cells (bf.cg (some f) B)))) (Y1 ?_);exact u _ B wA (ku v b:)
  rintro ad b;try dsimp only at b
  refine Y4 ?_;exact M _ ((q+1),ad) wA b (dl F)
 rw [pu] at b;have b:=ku L b;refine ag.exit ?_;repeat (first|refine eS ?_|refine eR ?_|refine eP ?_)
 obtain rfl:=oJ b;refine bR.eX ((tS H f 2 s.aC).set g (some (.cells (bf.cg (some f) s)))) (xs:=[]) rfl ⟨rfl,rfl⟩ ?_;exact(fun _ _ h=>h)
theorem Yp (n:Nat) (I:C7 (ak:=ak) n) (ao:C8 (ak:=ak) n):C8 (ak:=ak) (n+1):=by
 intro m g aZ a0  j f r b H ap av;rw [ko] at b;refine AC.oW 88 [] Tryz.call102 Tryz.func102 ?_;have aw:j≠f:=fun J=>by subst J; simp_all
 refine hz ((tS H f 2 m.aC).set j (some (.cells (bf.cg (some f) m)))) (Y8 ?_);obtain⟨K,L,b⟩:=b8 b;refine aN (tl [0,2,3,5]) (fun(z:Bs)=>[(8,.a (.d (.str z)))]) (fun z=>((tS H f 2 m.aC).set j (some (.cells (bf.cg (some f) m))))) (fun z=>K z=some r) ?_ ?_
 ·intro ax w;refine Y4 ?_;refine cP b (fun M b=>?_) (fun M b=>?_)
  ·refine Y5 ?_;exact w _ g.aa wA b
  refine ag.skip ?_;exact w _ g.cq wA b
 rintro ay b;try dsimp only at b
 have b:=ku L b;refine Y3 ?_;obtain⟨az,N,b⟩:=bz b;refine S (eN N) ?_;obtain⟨p,O,b⟩:=bz b;refine S (eN O) (Y5 ?_)
 refine fh (tl [0,3,5,9]) (fun(z:aT)=>[]) (fun z=>[aT.c z]) (fun z=>((tS H f 2 m.aC).set j (some (.cells (bf.cg (some f) m))))) (fun z=>(Option.bind (pq p z g.aG.l m) fun s=>on (s) fun y=>(kY y g.bS p).bind fun q=>((ja n) q g.aK z.aM.aa p).bind fun k=>some k)=some r) ?_ ?_
 ·intro aA B;refine Y6 ?_;obtain⟨aB,P,b⟩:=dD b;refine Sc rfl rfl (iM P) (Y7 ?_);refine bl 10 _ rfl (kl [0,2,3,5,9,11]) ?_;refine Y4 ?_;refine Gk 37 ?_;refine bE 38 rfl (fun hC=>iJ (TK rfl) rfl rfl (TK rfl) rfl rfl) ?_;refine bE 39 rfl (fun hC=>iI (TK rfl) rfl rfl au rfl) ?_;refine Y1 ?_;obtain⟨aD,Q,b⟩:=jv (fun _=>rfl) b
  refine fV 40 41 rfl rfl rfl rfl rfl rfl (fun hC=>me (Q hC)) ?_;refine Y2 ?_;obtain⟨aE,C,b⟩:=b8 b;refine cP b (fun R b=>?_) (fun R b=>?_)
  ·refine Y4 ?_;obtain⟨U,W,b⟩:=eL b;refine Sc rfl rfl (CD W) (Y5 ?_);exact B _ U.1 wA (ku C b:)
  refine ag.skip ?_;exact B _ aT.zero wA (ku C b:)
 rintro t b;try dsimp only at b
 refine aN (tl [0,3,5,9]) (fun(z:bf)=>[]) (fun z=>((tS H f 2 z.aC).set j (some (.cells (bf.cg (some f) z))))) (fun z=>((kY z g.bS p).bind fun q=>((ja n) q g.aK t.aM.aa p).bind fun k=>some k)=some r) ?_ ?_
 ·intro aF X;refine Y3 ?_;refine aV aO.c g.aG fun aJ=>Y3 ?_;obtain⟨E,Y,b⟩:=b5 b;refine bx (tl [0,3,5,9,52,53]) (fun(z:Nat×bf)=>[(54,vi z.1)]) (fun z=>((tS H f 2 z.2.aC).set j (some (.cells (bf.cg (some f) z.2))))) (fun z=>g.aG.l.length-z.1) (fun z=>Option.bind (pq p t (g.aG.l.drop z.1) z.2) E=some r) (0,m) b wA ?_;rintro ⟨F,s⟩ b aL Z
  try dsimp only at b
  refine Y3 ?_;refine ar fun aP ab=>?_;refine ag.bW (fun l=>Option.bind (pq p t l s) E=some r) b rfl (fun aR G u b=>?_) (fun u b=>?_)
  ·rw [pq] at b;try dsimp only at u
   have aS:=oD u;refine sk ab (ar fun aU ad=>Y2 ?_);obtain⟨aW,ae,b⟩:=vO G b;refine S (ix aO.c F ae) (Y4 ?_);refine bl 13 _ rfl (kl [0,3,5,9,52,53,54]) ?_;refine Y5 ?_;obtain⟨aX,af,b⟩:=dm b;refine Sc rfl rfl (wv af) (Y7 ?_);refine bl 14 _ rfl (kl [0,3,5,9,13,15,52,53,54]) ?_;refine Y8 ?_;obtain⟨v,aj,b⟩:=aQ b
   refine sH (bF rfl rfl (Nh aj _ au au)) rfl ?_;refine hq ((tS H f 2 v.aC).set j (some (.cells (bf.cg (some f) v)))) (Y1 ?_);refine ad _ ?_;refine Y4 ?_;exact Z _ ((F+1),v) wA b (dl G)
  rw [pq] at b;have b:=ku Y b;refine ag.exit ?_;obtain⟨aY,al,b⟩:=b8 b;exact X _ s wA (ku al b:)
 rintro y b;try dsimp only at b
 refine Y5 ?_;obtain⟨q,am,b⟩:=bz b;refine sH (bF rfl rfl (G4 am _ au au)) rfl ?_;refine hq ((tS H f 2 q.aC).set j (some (.cells (bf.cg (some f) q)))) (Y4 ?_);refine s0 (cA (TK rfl) rfl rfl (congrArg (fun x=>some (A.d x)) (ai.gD _))) rfl ?_;refine Y4 ?_;obtain⟨k,an,b⟩:=bz b;refine sH (bF rfl rfl (I an _ au au)) rfl ?_
 refine hq ((tS H f 2 k.aC).set j (some (.cells (bf.cg (some f) k)))) (Y1 ?_);repeat (first|refine eS ?_|refine eR ?_|refine eP ?_)
 obtain rfl:=oJ b;refine bR.eX ((tS H f 2 k.aC).set j (some (.cells (bf.cg (some f) k)))) (xs:=[]) rfl ⟨rfl,rfl⟩ ?_;exact(fun _ _ h=>h)
theorem zV:∀(n:Nat),(C7 (ak:=ak) n)/\(C8 (ak:=ak) n)
 | 0=>⟨fun b=>by first|cases b|(rw [ja] at b; cases b),fun b=>by first|cases b|(rw [ko] at b; cases b)⟩
 | n+1=>⟨Yo n (zV n).1 (zV n).2,Yp n (zV n).1 (zV n).2⟩
def Yq (a0:bf) (b:(Sl ai)) (a2:Bs) (a3:Bs):Option bf:=ja F0 a0 b a2 a3
theorem Ni {g j k m p f b r}(q:Yq g j k m=some r) (H:ah) (s:H f=some (.cells (bf.cg (some b) g))) (t:H b=some (.tok 2 g.aC.l.length)):At 51 [.d (.ptr f 0),.d (Sl.d 7 ai.c p j),.d (.str k),.d (.str m)] H (RT (.b_ []) (((tS H b 2 r.aC).set f (some (.cells (bf.cg (some b) r)))))):=(zV F0).1 q H s t
def Ch (f:bf) (b:(Sl ai)) (g:Bs) (j:Bs):Option bf:=ja F0 f b g j
def rA (f:aR):List Bs->Bool->Option (Bool)
 | [],b=>some b
 | g::j,b=>on (g) fun k=>on (jV f k) fun l=>a_ (b) (jX f l.1) false fun m=>rA f (j) (b&&(!m))
def y7 (f:aR) (g:(Sl ai)):Option ((Sl Bs)×Bool):=(sP f g (Sl.nil:Sl Bs)).bind fun b=>Option.bind (rA f b.1.l b.2) fun j=>on (j) fun k=>some (b.1,k)
theorem Yr {j p v r}(b:y7 j p=some r) (H:ah) :At 52 [.agg (aR.c j),.d (Sl.d 7 ai.c v p)] H (RT (.b_ [.d (Sl.d 1 aW none r.1),.d (.bool r.2)]) H):=by
 unfold y7 at b;refine AC.oW 40 [.tmp 4,.tmp 5] Tryz.call52 Tryz.func52 ?_;refine Y2 ?_;refine s0 (dM (k':=1) rfl) rfl ?_;refine Y2 ?_;refine ag.tok 1 fun g M=>?_;refine Y3 ?_;obtain⟨f,w,b⟩:=qT (Gr _ _ _) b;refine sH (bF rfl rfl (AC.uk (.cons (.refl _) (.cons (.refl _) (.cons (jf.nil (k':=1) (t:=g) au) .nil))) (Gq w _ au))) rfl ?_
 refine hq (tS H g 1 f.1) (Y6 ?_);refine ag.eG 6 rfl ?_;refine aN (tl [6]) (fun(z:Bool)=>[(7,.a (.d (.bool z)))]) (fun z=>(tS H g 1 f.1)) (fun z=>(some (f.1,z))=some r) ?_ ?_
 ·intro N y;refine Y2 ?_;refine aV aW f.1 fun O=>Y3 ?_;obtain⟨q,B,b⟩:=b5 b;refine bx (tl [2,6,18,19]) (fun(z:Bool×Nat)=>[(7,.a (.d (.bool z.1))),(20,vi z.2)]) (fun z=>(tS H g 1 f.1)) (fun z=>f.1.l.length-z.2) (fun z=>Option.bind (rA j (f.1.l.drop z.2) z.1) q=some r) (f.2,0) b wA ?_;rintro ⟨k,s⟩ b P C;try dsimp only at b
  refine Y3 ?_;refine ar fun Q E=>?_;refine ag.bW (fun l=>Option.bind (rA j l k) q=some r) b rfl (fun R u m b=>?_) (fun m b=>?_)
  ·rw [rA] at b;try dsimp only at m
   have U:=oD m;refine sk E (ar fun W F=>Y2 ?_);obtain⟨X,G,b⟩:=vO u b;refine S (ix aW s G) (Y6 ?_);obtain⟨Y,I,b⟩:=dm b;refine Sc rfl rfl (v8 I) (Y7 ?_);refine bl 10 _ rfl (kl [2,6,7,18,19,20]) ?_;refine Y5 ?_;obtain⟨J,K,b⟩:=fG b;refine fV 32 33 rfl rfl rfl rfl rfl rfl (fun hC=>MM (K hC)) ?_;refine Gk 34 ?_;refine Y3 ?_;refine F _ ?_
   refine Y4 ?_;exact C _ ((k&&(!J)),(s+1)) wA b (dl u)
  rw [rA] at b;have b:=ku B b;refine ag.exit ?_;obtain⟨Z,L,b⟩:=b8 b;exact y _ k wA (ku L b:)
 rintro aa b;try dsimp only at b
 refine Y6 ?_;refine ry ?_;obtain rfl:=oJ b;refine bR.cK H rfl ⟨rfl,rfl⟩ ?_;exact sy
def tK (g:aR):List Bs->bf->Option (bf)
 | [],b=>some b
 | j::k,b=>on (j) fun l=>on (jV g l) fun f=>(Ch b f.1.aK f.1.b9 f.1.aa).bind fun m=>tK g (k) m
def py (f:aR):List bJ->Nat->bf->Option (bf)
 | [],j,g=>some g
 | k::m,j,g=>on (k) fun b=>(FT f ((j:Nat):Int)).bind fun p=>(Ci (bf.mk g.Fd b.fe g.aC) b p).bind fun q=>on (gE b.aj) fun r=>(Ch q b.aK r b.aa).bind fun s=>(y7 f b.aK).bind fun t=>Option.bind (tK f t.1.l s) fun u=>on (u) fun v=>py f (m) (j+1) v
def za (j:an) (b:aR):Option (Sl Z9):=Option.bind (py b b.bw.l 0 (bf.mk j Sl.nil Sl.nil)) fun f=>on (f) fun g=>some g.aC
def C9 (f:an) (b:aR):Option (Sl Z9):=za f b
theorem UQ (a0:an) (b:aR):C9 a0 b=za a0 b:=rfl
theorem Yt {q g oT gT r}(b:C9 q g=some r) (H:ah) (ay:H gT=some oT) (az:gz Tryz.prog oT):At 21 [.agg (an.c q),.agg (aR.c g)] H (RT (.a (.d (Sl.d 2 Z9.c none r))) H):=by
 unfold C9 za at b;refine AC.oW 78 [.tmp 4] Tryz.call21 Tryz.func21 ?_;refine Y3 ?_;refine s0 (dM (k':=2) rfl) rfl ?_;refine Y4 ?_;refine aI.tok 2 fun f aA=>?_;have aB:f≠gT:=fun s=>by subst s; simp_all
 refine sE (dA.rN rfl) rfl (fun _ _ _ ⟨k,F,N,O,P⟩=>?_);subst N O P;obtain⟨aD,F⟩:=ah.dP F;have aE:k≠gT:=fun s=>by subst s; simp_all
 refine aI.lp k _ au (fun j w cs hh hx=>tok_cell 2 2 2 hh (t:=f) au hx rfl) ?_;refine hq ((H.set f (some (.tok 2 0))).set k (some (.cells (bf.cg (some f) (bf.mk q Sl.nil Sl.nil))))) (Y2 ?_);refine aN (tl [5]) (fun(z:bf)=>[]) (fun z=>((tS H f 2 z.aC).set k (some (.cells (bf.cg (some f) z))))) (fun z=>(some z.aC)=some r) ?_ ?_
 ·intro aF Q;refine Y3 ?_;refine aV bJ.c g.bw fun aG=>Y3 ?_;obtain⟨u,R,b⟩:=b5 b;refine bx (tl [3,5,18,19]) (fun(z:Nat×bf)=>[(20,vi z.1)]) (fun z=>((tS H f 2 z.2.aC).set k (some (.cells (bf.cg (some f) z.2))))) (fun z=>g.bw.l.length-z.1) (fun z=>Option.bind (py g (g.bw.l.drop z.1) z.1 z.2) u=some r) (0,(bf.mk q Sl.nil Sl.nil)) b wA ?_
  rintro ⟨m,p⟩ b aJ U;try dsimp only at b
  refine Y3 ?_;refine ar fun aK W=>?_;refine ag.bW (fun l=>Option.bind (py g l m p) u=some r) b rfl (fun aL G v b=>?_) (fun v b=>?_)
  ·rw [py] at b;try dsimp only at v
   have aM:=oD v;refine sk W (aN (tl [3,5,18,19,20]) (fun(z:bf)=>[]) (fun z=>((tS H f 2 z.aC).set k (some (.cells (bf.cg (some f) z))))) (fun z=>Option.bind (py g (g.bw.l.drop (m+1)) (m+1) z) u=some r) ?_ ?_)
   ·intro aO X;refine Y3 ?_;obtain⟨Y,Z,b⟩:=vO G b;refine S (ix bJ.c m Z) (Y5 ?_);refine bl 7 _ rfl (kl [3,5,6,18,19,20]) ?_;refine Y6 ?_;refine eW (kz (TK rfl) rfl rfl au rfl (by repeat (first|exact cZ.zero|apply cZ.succ))) rfl rfl ?_
    refine hq ((tS H f 2 p.aC).set k (some (.cells (bf.cg (some f) (bf.mk p.Fd Y.fe p.aC))))) (Y6 ?_);obtain⟨aP,aa,b⟩:=aQ b;refine ck rfl rfl (X_ aa) ?_;obtain⟨I,ab,b⟩:=aQ b;refine aH.sH (bF rfl rfl (X1 (gT:=gT) (oT:=oT) ab _ au au au (by assumption))) rfl ?_
    refine aH.Dh ((tS H f 2 I.aC).set k (some (.cells (bf.cg (some f) I)))) ?_;refine Y7 ?_;obtain⟨aS,ad,b⟩:=dm b;refine ck rfl rfl (zk ad) (Y2 ?_);obtain⟨y,ae,b⟩:=aQ b;refine aH.sH (bF rfl rfl (Ni ae _ au au)) rfl ?_;refine aH.Dh ((tS H f 2 y.aC).set k (some (.cells (bf.cg (some f) y)))) ?_;refine Y5 ?_
    obtain⟨B,af,b⟩:=aQ b;refine Sc rfl rfl (Yr af) (Y8 ?_);refine aV aW B.1 fun aT=>Y3 ?_;obtain⟨J,ai,b⟩:=eB b;refine bx (tl [3,5,18,19,20,52,53]) (fun(z:Nat×bf)=>[(54,vi z.1)]) (fun z=>((tS H f 2 z.2.aC).set k (some (.cells (bf.cg (some f) z.2))))) (fun z=>B.1.l.length-z.1) (fun z=>Option.bind (tK g (B.1.l.drop z.1) z.2) J=some r) (0,y) b wA ?_
    rintro ⟨K,L⟩ b aU aj;try dsimp only at b
    refine Y3 ?_;refine ar fun aX ak=>?_;refine ag.bW (fun l=>Option.bind (tK g l L) J=some r) b rfl (fun aY M C b=>?_) (fun C b=>?_)
    ·rw [tK] at b;try dsimp only at C
     have aZ:=oD C;refine sk ak (ar fun a0 al=>Y2 ?_);obtain⟨a1,am,b⟩:=vO M b;refine S (ix aW K am) (Y6 ?_);obtain⟨a2,ao,b⟩:=dm b;refine Sc rfl rfl (v8 ao) (Y7 ?_);refine bl 12 _ rfl (kl [3,5,18,19,20,52,53,54]) ?_;refine Y8 ?_;obtain⟨E,ap,b⟩:=aQ b;refine sH (bF rfl rfl (Ni ap _ au au)) rfl ?_
     refine hq ((tS H f 2 E.aC).set k (some (.cells (bf.cg (some f) E)))) (Y1 ?_);refine al _ ?_;refine Y4 ?_;exact aj _ ((K+1),E) wA b (dl M)
    rw [tK] at b;have b:=ku ai b;refine ag.exit ?_;obtain⟨a3,av,b⟩:=gB b;exact X _ L wA (ku av b:)
   rintro aw b;try dsimp only at b
   refine Y4 ?_;exact U _ ((m+1),aw) wA b (dl G)
  rw [py] at b;have b:=ku R b;refine ag.exit ?_;obtain⟨a4,ax,b⟩:=b8 b;exact Q _ p wA (ku ax b:)
 rintro a5 b;try dsimp only at b
 refine Y7 ?_;refine ag.eG 4 rfl ?_;exact rs b
def r_ (f:an) (b:aR) (kk:((Sl Z9)->Option Unit)):Option Unit:=(Cy f b).bind fun g=>bif (decide ((0:Int)<((g.l.length:Nat):Int))) then(kk g) else((CE f b).bind fun j=>bif (decide ((0:Int)<((j.l.length:Nat):Int))) then(kk j) else((CR f b).bind fun k=>Ca f b fun m=>(bq 24 k m).bind fun p=>(C9 f b).bind fun q=>(bq 24 p q).bind fun r=>kk r))
theorem Jx {k g kk oT gT r}(b:r_ k g kk=some r) (H:ah) (J:H gT=some oT) (K:gz Tryz.prog oT):At 6 [.agg (an.c k),.agg (aR.c g)] H fun v h'=>(∃x,(∃j,x=.d (Sl.d 2 Z9.c none j)/\kk j=some r)/\v=.a x)/\h'=H:=by
 unfold r_ at b;refine AC.oW 35 [.tmp 4] Tryz.call6 Tryz.func6 ?_;refine Y3 ?_;refine s0 (dM (k':=2) rfl) rfl ?_;refine Y1 ?_;refine ar fun L l=>Y3 ?_;obtain⟨m,p,b⟩:=bO b;refine Sc rfl rfl (V_ p) (Y4 ?_);refine aV Z9.c m fun M=>Y2 ?_;refine cE b (fun q b=>?_) (fun q b=>?_)
 ·refine Y4 ?_;refine ry ?_;refine bR.cK H rfl ⟨⟨_,⟨_,rfl,b⟩,rfl⟩,rfl⟩ ?_;exact(fun _ _ h=>h)
 refine sk l (ar fun N s=>Y3 ?_);obtain⟨t,u,b⟩:=bO b;refine Sc rfl rfl (Wp u) (Y4 ?_);refine aV Z9.c t fun O=>Y2 ?_;refine cE b (fun w b=>?_) (fun w b=>?_)
 ·refine Y4 ?_;refine ry ?_;refine bR.cK H rfl ⟨⟨_,⟨_,rfl,b⟩,rfl⟩,rfl⟩ ?_;exact(fun _ _ h=>h)
 refine sk s (ag.tok 2 fun f P=>?_);have Q:f≠gT:=fun y=>by subst y; simp_all
 refine Y3 ?_;obtain⟨z,B,b⟩:=bO b;refine sH (bF rfl rfl (W7 B _ au)) rfl ?_;refine hq (tS H f 2 z) (Y6 ?_);refine s0 (eV rfl rfl (AC.sm (Xx b _))) rfl ?_;refine aI.kD 28 rfl ?_;rintro _ ⟨R,rfl,b⟩;obtain⟨C,E,b⟩:=bO b;refine SH (am Z9.c (TK rfl) rfl (TK rfl) (TK rfl) E) ?_;refine hq (tS H f 2 C) (Y6 ?_);obtain⟨S,F,b⟩:=bO b
 refine s0 (eV rfl rfl (Yt (gT:=gT) (oT:=oT) F _ au (by assumption))) rfl ?_;obtain⟨G,I,b⟩:=bO b;refine SH (am Z9.c (TK rfl) rfl (TK rfl) (TK rfl) I) ?_;refine hq (tS H f 2 G) (Y2 ?_);refine ag.eG 4 rfl ?_;refine ry ?_;refine bR.cK H rfl ⟨⟨_,⟨_,rfl,b⟩,rfl⟩,rfl⟩ ?_;exact sy
def rE (f:Bs):List bJ->Nat->Unit ⊕ ((Int×Int))
 | [],b=>Sum.inl ()
 | g::j,b=>on (g) fun k=>bif ((k.aa==f)) then(Sum.inr (((b:Nat):Int),(0:Int))) else(rE f (j) (b+1) )
def zg (f:aR) (b:Bs):(Int×Int):=bif ((b==([]:Bs))) then(bif (decide (((f.bw.l.length:Nat):Int)=(1:Int))) then(((0:Int),(0:Int))) else(((0:Int),(8:Int)))) else(on (rE b f.bw.l 0 ) fun g=>match g with|Sum.inl _=>(on (()) fun _=>((0:Int),(8:Int)))|Sum.inr j=>(j))
def xR (f:aR) (b:Bs):Option (Int×Int):=some (zg f b)
theorem UY (a0:aR) (b:Bs):xR a0 b=some (zg a0 b):=rfl
theorem Jy {f g r}(b:xR f g=some r) (H:ah) :At 8 [.agg (aR.c f),.d (.str g)] H (RT (.b_ [.d (.int .i64 r.1),.d (.int .i64 r.2)]) H):=by
 unfold xR zg at b;refine AC.oW 28 [.tmp 4,.tmp 5] Tryz.call8 Tryz.func8 ?_;refine Y5 ?_;refine ar fun I s=>Y4 ?_;refine cP b (fun t b=>?_) (fun t b=>?_)
 ·refine ar fun J u=>Y3 ?_;refine aV bJ.c f.bw fun K=>Y2 ?_;refine cP b (fun v b=>?_) (fun v b=>?_)
  ·refine Y4 ?_;exact rt b
  refine sk u (Y4 ?_);exact rt b
 refine sk s (aN kN (fun(z:Unit)=>[]) (fun z=>H) (fun z=>some (((0:Int),(8:Int)))=some r) ?_ ?_)
 ·intro L w;refine Y3 ?_;refine aV bJ.c f.bw fun M=>Y3 ?_;obtain⟨m,p,b⟩:=eH b;refine bx (tl [1,15,16]) (fun(z:Nat)=>[(17,vi z)]) (fun z=>H) (fun z=>f.bw.l.length-z) (fun z=>m (rE g (f.bw.l.drop z) z )=some r) 0 b wA ?_;rintro j b N y;try dsimp only at b
  refine Y3 ?_;refine ar fun O B=>?_;refine ag.bW (fun l=>m (rE g l j )=some r) b rfl (fun P q k b=>?_) (fun k b=>?_)
  ·rw [rE] at b;try dsimp only at k
   have Q:=oD k;refine sk B (ar fun R C=>Y3 ?_);obtain⟨U,E,b⟩:=vP q b;refine S (ix bJ.c j E) (Y5 ?_);refine bl 7 _ rfl (kl [1,6,15,16,17]) ?_;refine Y6 ?_;refine cP b (fun F b=>?_) (fun F b=>?_)
   ·refine Y5 ?_;exact rs (ku p b:)
   refine sk C (Y4 ?_);exact y _ (j+1) wA b (dl q)
  rw [rE] at b;have b:=ku p b;try dsimp only at b
  refine ag.exit ?_;obtain⟨W,G,b⟩:=eH b;exact w _ () wA (ku G b:)
 rintro _ b;try dsimp only at b
 refine Y4 ?_;exact rt b
def mH (f:Z8) (b:Bool) (g:Int) (j:Bs):Option Z8:=bif b then(none) else(some f)
theorem p9 {f k m p g b r}(j:mH f k m p=some r) (H:ah) (t:H g=some (.cells (Z8.cg (some b) f))) (u:H b=some (.tok 2 f.dw.l.length)):At 104 [.d (.ptr g 0),.d (.bool k),.d (.int .i64 m),.d (.str p)] H (RT (.b_ []) (((tS H b 2 r.dw).set g (some (.cells (Z8.cg (some b) r)))))):=by
 unfold mH at j;refine AC.oW 21 [] Tryz.call104 Tryz.func104 ?_;have v:g≠b:=fun q=>by subst q; simp_all
 refine hz ((tS H b 2 f.dw).set g (some (.cells (Z8.cg (some b) f)))) (Y3 ?_);refine cE j (fun s j=>?_) (fun s j=>?_)
 ·cases j
 refine ag.skip ?_;repeat (first|refine eS ?_|refine eR ?_|refine eP ?_)
 obtain rfl:=oJ j;refine bR.eX ((tS H b 2 f.dw).set g (some (.cells (Z8.cg (some b) f)))) (xs:=[]) rfl ⟨rfl,rfl⟩ ?_;exact(fun _ _ h=>h)
def G5  :Option Bool:=some true
def C_ (g:Bs) :Nat->Nat->Option Bool
 | 0,_=>none
 | j+1,f=>bif (decide (((f:Nat):Int)<((g.length:Nat):Int))) then((g[f]?).bind fun b=>bif (!(((((decide ((97:Int)<=((b.toNat:Nat):Int)))&&(decide (((b.toNat:Nat):Int)<=(122:Int))))||((decide ((65:Int)<=((b.toNat:Nat):Int)))&&(decide (((b.toNat:Nat):Int)<=(90:Int)))))||((decide ((48:Int)<=((b.toNat:Nat):Int)))&&(decide (((b.toNat:Nat):Int)<=(57:Int)))))||(decide (((b.toNat:Nat):Int)=(95:Int))))) then(none) else((C_ g j) (f+1))) else(G5   )
def AW (b:Bs):Option Bool:=a_ (!(((b==([]:Bs)))||(decide ((64:Int)<((b.length:Nat):Int))))) (b[0]?) (0:UInt8) fun f=>a_ ((!(((b==([]:Bs)))||(decide ((64:Int)<((b.length:Nat):Int))))&&(decide ((48:Int)<=((f.toNat:Nat):Int))))) (b[0]?) (0:UInt8) fun g=>bif ((((b==([]:Bs)))||(decide ((64:Int)<((b.length:Nat):Int))))||((decide ((48:Int)<=((f.toNat:Nat):Int)))&&(decide (((g.toNat:Nat):Int)<=(57:Int))))) then(none) else(C_ b (b.length+1) 0)
theorem Jv {f r}(b:AW f=some r) (H:ah) :At 150 [.d (.str f)] H (RT (.a (.d (.bool r))) H):=by
 unfold AW at b;refine AC.oW 58 [.tmp 2] Tryz.call150 Tryz.func150 ?_;refine Y3 ?_;refine ar fun B l=>Y5 ?_;refine bE 8 rfl (fun hC=>Ao (TK rfl) rfl rfl rfl) ?_;refine Gk 9 ?_;refine Y3 ?_;obtain⟨C,m,b⟩:=gO b;refine bE 13 rfl (fun hC=>rS (n:=0) (TK rfl) rfl rfl rfl (m hC)) ?_;refine Gk 14 ?_;refine Gk 15 ?_;refine Y1 ?_;obtain⟨E,p,b⟩:=gO b
 refine bE 17 rfl (fun hC=>rS (n:=0) (TK rfl) rfl rfl rfl (p hC)) ?_;refine Gk 18 ?_;refine bE 16 rfl (fun hC=>f_ rfl rfl rfl) ?_;refine Y2 ?_;refine cE b (fun q b=>?_) (fun q b=>?_)
 ·cases b
 refine sk l (aN kN (fun(z:Unit)=>[]) (fun z=>H) (fun z=>G5 =some r) ?_ ?_)
 ·intro F s;refine Y2 ?_;refine uo (TK rfl) rfl rfl rfl rfl fun G=>?_;refine Y3 ?_;refine bx (tl [0,23]) (fun(z:Nat×Nat)=>[(24,vi z.2)]) (fun z=>H) (fun z=>z.1) (fun z=>C_ f z.1 z.2=some r) ((f.length+1),0) b wA ?_;rintro ⟨g,k⟩ b I t;try dsimp only at b
  cases g with
  | zero=>cases b
  | succ g =>
    rw [C_] at b;refine Y3 ?_;refine ar fun J u=>?_;refine cE b (fun j b=>?_) (fun j b=>?_)
    ·try dsimp only at j
     have K:=oD j;refine sk u (ar fun L v=>Y8 ?_);obtain⟨M,w,b⟩:=bO b;refine s0 (rS (n:=k) (TK rfl) rfl rfl rfl w) rfl ?_;refine Y7 ?_;refine Gk 33 ?_;refine Y3 ?_;refine Gk 37 ?_;refine Gk 38 ?_;refine Y1 ?_;refine Gk 40 ?_;refine bE 39 rfl (fun hC=>f_ rfl rfl rfl) ?_;refine Y3 ?_;refine Gk 45 ?_;refine Gk 46 ?_;refine Y1 ?_;refine Gk 48 ?_
     refine bE 47 rfl (fun hC=>f_ rfl rfl rfl) ?_;refine Y3 ?_;refine Gk 53 ?_;refine Y3 ?_;refine cE b (fun y b=>?_) (fun y b=>?_)
     ·cases b
     refine sk v (Y4 ?_);exact t _ (g,(k+1)) wA b (nS _)
    refine ag.exit ?_;exact s _ () wA b
 rintro _ b;try dsimp only at b
 unfold G5 at b;refine Y3 ?_;exact rt b
def Yu (b:Bs):Option Bool:=AW b
def G6  (b:(List Bs)):Option (Bool×(List Bs)):=some (false,b)
def G7 (g:ay) :Nat->Nat->(List Bs)->Option (Bool×(List Bs))
 | 0,_,_=>none
 | j+1,b,f=>bif (decide (((b:Nat):Int)<((g.bG.l.length:Nat):Int))) then(none) else(G6   f)
def C':Nat->ay->ay->Z8->(List Bs)->Option (Bool×(List Bs))
 | 0,_,_,_,_=>none
 | n+1,b,g,j,f=>G7 b (b.bG.l.length+1) 0 f
def G8 (n:Nat):Prop:=∀{a0:ay}{b:ay}{a2:Z8}{a3:(List Bs)}{g:Option Nat}{c2:Nat}{c3:Nat}{f:Nat}{r:(Bool×(List Bs))},C' n a0 b a2 a3=some r->∀(H:ah) (j:H c2=some (.cells (Z8.cg g a2))) (k:H c3=some (.map (bg a3))) (l:H f=some (.cells [.func 187 [.view (ay.c b),.view [.ptr c2 0],.view [.map c3],.ptr f 0]])),At 187 [.agg (ay.c a0),.d (.view (ay.c b)),.d (.view [.ptr c2 0]),.d (.view [.map c3]),.d (.ptr f 0)] H (RT (.a (.d (.bool r.1))) ((H.set c3 (some (.map (bg r.2))))))
theorem Yv (n:Nat) (t:G8 (ak:=ak) n):G8 (ak:=ak) (n+1):=by
 intro j u P m v c2 c3 p r b H w y B;rw [C'] at b;refine AC.oW 68 [.tmp 6] Tryz.call187 Tryz.func187 ?_;have C:c3≠c2:=fun f=>by subst f; simp_all
 have E:p≠c3:=fun f=>by subst f; simp_all
 refine hz (H.set c3 (some (.map (bg m)))) (Y4 ?_);refine aN kN (fun(z:(List Bs))=>[]) (fun z=>(H.set c3 (some (.map (bg z))))) (fun z=>G6 z=some r) ?_ ?_
 ·intro F q;refine Y3 ?_;refine aV az.c j.bG fun G=>Y3 ?_;refine bx (tl [1,2,3,4,12,13]) (fun(z:Nat×Nat×(List Bs))=>[(14,vi z.2.1)]) (fun z=>(H.set c3 (some (.map (bg z.2.2))))) (fun z=>z.1) (fun z=>G7 j z.1 z.2.1 z.2.2=some r) ((j.bG.l.length+1),0,m) b wA ?_;rintro ⟨k,I,s⟩ b J K;try dsimp only at b
  cases k with
  | zero=>cases b
  | succ k =>
    rw [G7] at b;refine Y3 ?_;refine ar fun L M=>?_;refine cE b (fun g b=>?_) (fun g b=>?_)
    ·try dsimp only at g
     have N:=oD g;cases b
    refine ag.exit ?_;exact q _ s wA b
 rintro O b;try dsimp only at b
 unfold G6 at b;refine Y3 ?_;exact rt b
theorem Nj:∀(n:Nat),(G8 (ak:=ak) n)
 | 0=>fun b=>by first|cases b|(rw [C'] at b; cases b)
 | n+1=>Yv n (Nj n)
def Nk (f:ay) (b:ay) (g:Z8) (j:(List Bs)):Option (Bool×(List Bs)):=C' F0 f b g j
theorem Yw {g b j k l c2 c3 f r}(m:Nk g b j k=some r) (H:ah) (p:H c2=some (.cells (Z8.cg l j))) (q:H c3=some (.map (bg k))) (s:H f=some (.cells [.func 187 [.view (ay.c b),.view [.ptr c2 0],.view [.map c3],.ptr f 0]])):At 187 [.agg (ay.c g),.d (.view (ay.c b)),.d (.view [.ptr c2 0]),.d (.view [.map c3]),.d (.ptr f 0)] H (RT (.a (.d (.bool r.1))) ((H.set c3 (some (.map (bg r.2)))))):=(Nj F0) m H p q s
def Nl (g:Z8) (b:ay):Option Bool:=(Nk b b g ([]:List Bs)).bind fun f=>some f.1
def Es (f:Z8) (b:ay):Option Bool:=Nl f b
theorem QN {t j u f r}(k:Es t j=some r) (H:ah) (y:H f=some (.cells (Z8.cg u t))):At 151 [.d (.ptr f 0),.agg (ay.c j)] H (RT (.a (.d (.bool r))) H):=by
 unfold Es Nl at k;refine AC.oW 12 [.tmp 4] Tryz.call151 Tryz.func151 ?_;refine Y6 ?_;refine sE dA.makeMap rfl (fun _ _ _ ⟨b,z,l,m,p⟩=>?_);subst l m p;have B:b≠f:=fun q=>by subst q; simp_all
 refine hq (H.set b (some (.map (bg ([]:List Bs))))) (Y3 ?_);refine bl 5 _ rfl (kl [2,3]) ?_;refine Y1 ?_;refine sE (dA.HU (TK rfl) rfl) rfl (fun _ _ _ ⟨g,s,l,m,p⟩=>?_);subst l m p;obtain⟨C,s⟩:=ah.dP s;have E:g≠f:=fun q=>by subst q; simp_all
 refine hq ((H.set b (some (.map (bg ([]:List Bs))))).set g (some (.cells [.nilFunc]))) (Y2 ?_);refine s0 (makeFunc rfl) rfl ?_;refine eW (kz (TK rfl) rfl rfl au rfl (by repeat (first|exact cZ.zero|apply cZ.succ))) rfl rfl ?_
 refine hq ((H.set b (some (.map (bg ([]:List Bs))))).set g (some (.cells [.func 187 [.view (ay.c j),.view [.ptr f 0],.view [.map b],.ptr g 0]]))) (Y4 ?_);obtain⟨v,w,k⟩:=bz k;refine sH (bF rfl rfl (Yw w _ au au au)) rfl ?_
 refine hq ((H.set b (some (.map (bg v.2)))).set g (some (.cells [.func 187 [.view (ay.c j),.view [.ptr f 0],.view [.map b],.ptr g 0]]))) (Y2 ?_);exact rs k
def El (p:Z8) (b:Bs) (g:Bs) (j:(List Bs)):Option (Z8×(List Bs)):=(Yu b).bind fun f=>on (bif !(!f) then sK b else false) fun k=>(mH p ((!f)||k) (6:Int) g).bind fun l=>(mH l (j.contains b) (7:Int) g).bind fun m=>some (m,(cB j b))
theorem QJ {p q t j f b c3 r}(g:El p q t j=some r) (H:ah) (z:H f=some (.cells (Z8.cg (some b) p))) (B:H b=some (.tok 2 p.dw.l.length)) (C:H c3=some (.map (bg j))):At 188 [.d (.ptr f 0),.d (.str q),.d (.str t),.d (.map c3)] H (RT (.b_ []) ((((tS H b 2 r.1.dw).set f (some (.cells (Z8.cg (some b) r.1)))).set c3 (some (.map (bg r.2)))))):=by
 unfold El at g;refine AC.oW 26 [] Tryz.call188 Tryz.func188 ?_;have E:f≠b:=fun m=>by subst m; simp_all
 have F:c3≠b:=fun m=>by subst m; simp_all
 have G:c3≠f:=fun m=>by subst m; simp_all
 refine hz (((tS H b 2 p.dw).set f (some (.cells (Z8.cg (some b) p)))).set c3 (some (.map (bg j)))) (Y3 ?_);obtain⟨I,u,g⟩:=bz g;refine Sc rfl rfl (Jv u) (Y3 ?_);obtain⟨J,v,g⟩:=jv (fun _=>rfl) g;refine dx 13 rfl rfl rfl rfl rfl (fun hC=>Ew (v hC)) ?_;refine Y2 ?_;obtain⟨s,w,g⟩:=bz g;refine sH (bF rfl rfl (p9 w _ au au)) rfl ?_
 refine hq (((tS H b 2 s.dw).set f (some (.cells (Z8.cg (some b) s)))).set c3 (some (.map (bg j)))) (Y5 ?_);refine s0 (ul (TK rfl) rfl (TK rfl) (TK rfl) rfl rfl rfl rfl au) rfl ?_;refine Y1 ?_;obtain⟨k,y,g⟩:=bz g;refine sH (bF rfl rfl (p9 y _ au au)) rfl ?_
 refine hq (((tS H b 2 k.dw).set f (some (.cells (Z8.cg (some b) k)))).set c3 (some (.map (bg j)))) (Y4 ?_);refine eW (mapUpdate (TK rfl) rfl (TK rfl) rfl rfl rfl rfl au (mr _ _) rfl) rfl rfl ?_;refine hq (((tS H b 2 k.dw).set f (some (.cells (Z8.cg (some b) k)))).set c3 (some (.map (bg (cB j q))))) (Y1 ?_)
 repeat (first|refine eS ?_|refine eR ?_|refine eP ?_)
 obtain rfl:=oJ g;refine bR.eX (((tS H b 2 k.dw).set f (some (.cells (Z8.cg (some b) k)))).set c3 (some (.map (bg (cB j q))))) (xs:=[]) rfl ⟨rfl,rfl⟩ ?_;exact(fun _ _ h=>h)
def Em (f:Z8) (b:Bs) (p:Bs) (q:Int):Option Z8:=(rZ f.Fd b).bind fun g=>a_ ((!g.2)) (xO b) false fun k=>bif ((!g.2)&&(!k)) then(none) else(bif (decide (q=(0:Int))) then((xO b).bind fun j=>a_ ((!j)) (Gh f.Fd b) (0:Int) fun l=>(mH f ((!j)&&(decide (l=(5:Int)))) (10:Int) p).bind fun m=>some m) else(none))
theorem QK {j m p q g f r}(b:Em j m p q=some r) (H:ah) (C:H g=some (.cells (Z8.cg (some f) j))) (E:H f=some (.tok 2 j.dw.l.length)):At 189 [.d (.ptr g 0),.d (.str m),.d (.str p),.d (.int .i64 q)] H (RT (.b_ []) (((tS H f 2 r.dw).set g (some (.cells (Z8.cg (some f) r)))))):=by
 unfold Em at b;refine AC.oW 58 [] Tryz.call189 Tryz.func189 ?_;have F:g≠f:=fun s=>by subst s; simp_all
 refine hz ((tS H f 2 j.dw).set g (some (.cells (Z8.cg (some f) j)))) (Y6 ?_);obtain⟨G,t,b⟩:=bO b;refine Sc rfl rfl (iM t) (Y7 ?_);refine bl 8 _ rfl (kl [0,1,2,3,9]) ?_;refine Y6 ?_;obtain⟨I,u,b⟩:=gO b;refine dx 33 rfl rfl rfl rfl rfl (fun hC=>rY (u hC)) ?_;refine Gk 34 ?_;refine Y3 ?_;refine cE b (fun v b=>?_) (fun v b=>?_)
 ·cases b
 refine Y5 ?_;refine cE b (fun w b=>?_) (fun w b=>?_)
 ·refine Y3 ?_;obtain⟨J,y,b⟩:=bO b;refine Sc rfl rfl (rY y) (Y3 ?_);refine Gk 48 ?_;refine bE 49 rfl (fun hC=>iJ (TK rfl) rfl rfl (TK rfl) rfl rfl) ?_;refine bE 50 rfl (fun hC=>iI (TK rfl) rfl rfl au rfl) ?_;refine Y1 ?_;obtain⟨K,z,b⟩:=gO b;refine fV 51 52 rfl rfl rfl rfl rfl rfl (fun hC=>Cz (z hC)) ?_;refine Gk 53 ?_;refine Y2 ?_;obtain⟨k,B,b⟩:=bO b
  refine sH (bF rfl rfl (p9 B _ au au)) rfl ?_;refine hq ((tS H f 2 k.dw).set g (some (.cells (Z8.cg (some f) k)))) (Y1 ?_);repeat (first|refine eS ?_|refine eR ?_|refine eP ?_)
  obtain rfl:=oJ b;refine bR.eX ((tS H f 2 k.dw).set g (some (.cells (Z8.cg (some f) k)))) (xs:=[]) rfl ⟨rfl,rfl⟩ ?_;exact(fun _ _ h=>h)
 cases b
def G9 (b:(Sl az)) :Nat->Nat->Z8->(List Bs)->Option Z8
 | 0,_,_,_=>none
 | j+1,f,g,k=>bif (decide (((f:Nat):Int)<((b.l.length:Nat):Int))) then(none) else(some g)
def En (f:Z8) (b:(Sl az)) (g:Bs) (j:Bs):Option Z8:=G9 b (b.l.length+1) 0 f ([]:List Bs)
theorem QL {j k u v w g b r}(f:En j k u v=some r) (H:ah) (F:H g=some (.cells (Z8.cg (some b) j))) (G:H b=some (.tok 2 j.dw.l.length)):At 154 [.d (.ptr g 0),.d (Sl.d 10 az.c w k),.d (.str u),.d (.str v)] H (RT (.b_ []) (((tS H b 2 r.dw).set g (some (.cells (Z8.cg (some b) r)))))):=by
 unfold En at f;refine AC.oW 38 [] Tryz.call154 Tryz.func154 ?_;have I:g≠b:=fun y=>by subst y; simp_all
 refine hz ((tS H b 2 j.dw).set g (some (.cells (Z8.cg (some b) j)))) (Y1 ?_);refine sE dA.makeMap rfl (fun _ _ _ ⟨q,m,B,C,E⟩=>?_);subst B C E;obtain⟨J,m⟩:=ah.dP m;obtain⟨K,m⟩:=ah.dP m
 refine hq (((tS H b 2 j.dw).set g (some (.cells (Z8.cg (some b) j)))).set q (some (.map (bg ([]:List Bs))))) (Y4 ?_);refine aV az.c k fun L=>Y3 ?_
 refine bx (tl [0,2,3,8,13,14]) (fun(z:Nat×Nat×Z8×(List Bs))=>[(15,vi z.2.1)]) (fun z=>(((tS H b 2 z.2.2.1.dw).set g (some (.cells (Z8.cg (some b) z.2.2.1)))).set q (some (.map (bg z.2.2.2))))) (fun z=>z.1) (fun z=>G9 k z.1 z.2.1 z.2.2.1 z.2.2.2=some r) ((k.l.length+1),0,j,([]:List Bs)) f wA ?_;rintro ⟨s,M,t,N⟩ f O P;try dsimp only at f
 cases s with
 | zero=>cases f
 | succ s =>
   rw [G9] at f;refine Y3 ?_;refine ar fun Q R=>?_;refine cE f (fun p f=>?_) (fun p f=>?_)
   ·try dsimp only at p
    have S:=oD p;cases f
   refine ag.exit ?_;repeat (first|refine eS ?_|refine eR ?_|refine eP ?_)
   obtain rfl:=oJ f;refine bR.eX ((tS H b 2 t.dw).set g (some (.cells (Z8.cg (some b) t)))) (xs:=[]) rfl ⟨rfl,rfl⟩ ?_;exact sy
end Go.Proofs
