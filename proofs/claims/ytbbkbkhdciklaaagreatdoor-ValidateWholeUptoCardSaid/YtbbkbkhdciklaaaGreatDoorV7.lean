import Derived.Test.YtbbkbkhdciklaaaGreatDoorV6
set_option maxRecDepth 100000
set_option maxHeartbeats 2000000
set_option linter.unusedVariables false
set_option linter.unusedSimpArgs false
namespace Go.Proofs
open Go Go.Ab
open aI aq ag dR fO
attribute [local irreducible] aI aH ag aq
variable {ak:bP}
variable {gK:Nat}
def nt (j:Z5) (m:Bs) (k:Z5->(Sl ai)->Bs->(List Bs)->(Sl Z6)->Option ((Sl Z6)×(List Bs))):List ai->(Sl Z6)->(List Bs)->Option (((Sl Z6)×(List Bs)))
 | [],g,f=>some (g,f)
 | s::t,g,f=>on (s) fun b=>Option.bind (bif (decide (b.aj=(3:Int))) then(on (bif (!(b.b9==([]:Bs))) then(b.b9) else(m)) fun u=>(k j b.aK u f g).bind fun p=>some (p.1,p.2)) else(bif (decide (b.aj=(2:Int))) then(on (jV j.dK b.aa) fun l=>bif ((!l.2)||(f.contains b.aa)) then(some (g,f)) else(on (yV j l.1.aa) fun v=>(k j v l.1.b9 (cB f b.aa) g).bind fun q=>some (q.1,q.2))) else((bq 24 g (⟨false,[(Z6.mk m b)]⟩:Sl Z6)).bind fun w=>some (w,f)))) fun r=>nt j m k (t) r.1 r.2
def j8:Nat->Z5->(Sl ai)->Bs->(List Bs)->(Sl Z6)->Option ((Sl Z6)×(List Bs))
 | 0,_,_,_,_,_=>none
 | n+1,g,f,j,k,m=>Option.bind (nt g j (j8 n) f.l m k) fun b=>on ((b.1,b.2)) fun z2=>some (z2.1,z2.2)
def GF (n:Nat):Prop:=∀{a0:Z5}{b:(Sl ai)}{a2:Bs}{a3:(List Bs)}{a4:(Sl Z6)}{f:Option Nat}{c3:Nat}{g4:Nat}{r:((Sl Z6)×(List Bs))},j8 n a0 b a2 a3 a4=some r->∀(H:ah) (g:H c3=some (.map (gw a3))) (j:H g4=some (.tok 2 a4.l.length)),At 138 [.d (.view ((Z5.c gK) a0)),.d (Sl.d 7 ai.c f b),.d (.str a2),.d (.map c3),.d (Sl.d 2 Z6.c (some g4) a4)] H (RT (.a (.d (Sl.d 2 Z6.c (some g4) r.1))) (((H.set c3 (some (.map (gw r.2)))).set g4 (some (.tok 2 r.1.l.length)))))
theorem W_ (n:Nat) (y:GF (ak:=ak) (gK:=gK) n):GF (ak:=ak) (gK:=gK) (n+1):=by
 intro w j s G I ao c3 g4 r b H ap av;rw [j8] at b;refine AC.oW 103 [.tmp 10] Tryz.call138 Tryz.func138 ?_;have aw:g4≠c3:=fun J=>by subst J; simp_all
 refine hz ((H.set c3 (some (.map (gw G)))).set g4 (some (.tok 2 I.l.length))) (Y3 ?_);refine aN kN (fun(z:(Sl Z6)×(List Bs))=>[(4,.a (.d (Sl.d 2 Z6.c (some g4) z.1)))]) (fun z=>((H.set c3 (some (.map (gw z.2)))).set g4 (some (.tok 2 z.1.l.length)))) (fun z=>(some (z.1,z.2))=some r) ?_ ?_
 ·intro ax K;refine Y2 ?_;refine aV ai.c j fun ay=>Y3 ?_;obtain⟨t,L,b⟩:=b5 b
  refine bx (tl [0,1,2,3,19]) (fun(z:(Sl Z6)×Nat×(List Bs))=>[(4,.a (.d (Sl.d 2 Z6.c (some g4) z.1))),(20,vi z.2.1)]) (fun z=>((H.set c3 (some (.map (gw z.2.2)))).set g4 (some (.tok 2 z.1.l.length)))) (fun z=>j.l.length-z.2.1) (fun z=>Option.bind (nt w s (j8 n) (j.l.drop z.2.1) z.1 z.2.2) t=some r) (I,0,G) b wA ?_;rintro ⟨g,u,f⟩ b az M;try dsimp only at b
  refine Y3 ?_;refine ar fun aA N=>?_;refine ag.bW (fun l=>Option.bind (nt w s (j8 n) l g f) t=some r) b rfl (fun aB B v b=>?_) (fun v b=>?_)
  ·rw [nt] at b;try dsimp only at v
   have aC:=oD v;refine sk N (aN (tl [0,1,2,3,19,20]) (fun(z:(Sl Z6)×(List Bs))=>[(4,.a (.d (Sl.d 2 Z6.c (some g4) z.1)))]) (fun z=>((H.set c3 (some (.map (gw z.2)))).set g4 (some (.tok 2 z.1.l.length)))) (fun z=>Option.bind (nt w s (j8 n) (j.l.drop (u+1)) z.1 z.2) t=some r) ?_ ?_)
   ·intro aD k;refine Y8 ?_;obtain⟨C,O,b⟩:=vO B b;refine S (ix ai.c u O) (Y4 ?_);refine s0 (cW rfl) rfl ?_;refine Y8 ?_;obtain⟨aE,m,b⟩:=eB b;refine cO b (fun P b=>?_) (fun P b=>?_)
    ·refine Y4 ?_;obtain⟨Q,R,b⟩:=gB b;refine aN (tl [0,1,2,3,4,12,19,20]) (fun(z:Bs)=>[(13,.a (.d (.str z)))]) (fun z=>((H.set c3 (some (.map (gw f)))).set g4 (some (.tok 2 g.l.length)))) (fun z=>Q z=some r) ?_ ?_
     ·intro aF E;refine Y2 ?_;refine s0 (cW rfl) rfl ?_;refine Y4 ?_;refine cP b (fun U b=>?_) (fun U b=>?_)
      ·refine Y2 ?_;refine s0 (cW rfl) rfl ?_;refine Y4 ?_;exact E _ C.b9 wA b
      refine ag.skip ?_;exact E _ s wA b
     rintro aG b;try dsimp only at b
     have b:=ku R b;refine Y3 ?_;refine s0 (cW rfl) rfl ?_;refine Y1 ?_;refine s0 (cA (TK rfl) rfl rfl (congrArg (fun x=>some (A.d x)) (ai.gD _))) rfl ?_;refine Y3 ?_;obtain⟨p,W,b⟩:=aQ b;refine sH (bF rfl rfl (y W _ au au)) rfl ?_;refine hq ((H.set c3 (some (.map (gw p.2)))).set g4 (some (.tok 2 p.1.l.length))) (Y2 ?_);exact k _ (p.1,p.2) wA (ku m b:)
    refine Y4 ?_;refine cO b (fun X b=>?_) (fun X b=>?_)
    ·refine Y2 ?_;refine aH.s0 (cW rfl) rfl ?_;refine Y3 ?_;refine aH.s0 (cW rfl) rfl ?_;refine Y2 ?_;obtain⟨aJ,Y,b⟩:=dm b;refine ck rfl rfl (v8 Y) (Y7 ?_);refine bl 14 _ rfl (kl [0,1,2,3,4,12,15,19,20]) ?_;refine ar fun aK Z=>Y3 ?_;refine s0 (cW rfl) rfl ?_;refine Y2 ?_;refine s0 (PG (TK rfl) rfl (TK rfl) (TK rfl) rfl rfl rfl rfl au) rfl ?_;refine Y7 ?_
     refine bl 16 _ rfl (kl [0,1,2,3,4,12,14,15,17,19,20]) ?_;refine Y7 ?_;refine cO b (fun ab b=>?_) (fun ab b=>?_)
     ·refine ag.exit ?_;exact k _ (g,f) wA (ku m b:)
     refine sk Z (Y3 ?_);refine s0 (cW rfl) rfl ?_;refine Y3 ?_;refine eW (mapUpdate (TK rfl) rfl (TK rfl) rfl rfl rfl rfl au (PF _ _) rfl) rfl rfl ?_;refine hq ((H.set c3 (some (.map (gw (cB f C.aa))))).set g4 (some (.tok 2 g.l.length))) (Y1 ?_);refine ag.draw rfl ?_;refine Y4 ?_;obtain⟨aL,ad,b⟩:=dm b;refine ck rfl rfl (W9 ad) (Y4 ?_);obtain⟨q,ae,b⟩:=aQ b
     refine aH.sH (bF rfl rfl (y ae _ au au)) rfl ?_;refine aH.Dh ((H.set c3 (some (.map (gw q.2)))).set g4 (some (.tok 2 q.1.l.length))) ?_;refine Y2 ?_;exact k _ (q.1,q.2) wA (ku m b:)
    refine Y6 ?_;obtain⟨F,af,b⟩:=aQ b;refine SH (am Z6.c (TK rfl) rfl (TK rfl) (TK rfl) af) ?_;refine hq ((H.set c3 (some (.map (gw f)))).set g4 (some (.tok 2 F.l.length))) (Y2 ?_);exact k _ (F,f) wA (ku m b:)
   rintro ⟨aj,al⟩ b;try dsimp only at b
   refine Y4 ?_;exact M _ (aj,(u+1),al) wA b (dl B)
  rw [nt] at b;have b:=ku L b;try dsimp only at b
  refine ag.exit ?_;obtain⟨aM,an,b⟩:=b8 b;exact K _ (g,f) wA (ku an b:)
 rintro ⟨aO,aP⟩ b;try dsimp only at b
 refine Y4 ?_;exact rt b
theorem MV:∀(n:Nat),(GF (ak:=ak) (gK:=gK) n)
 | 0=>fun b=>by first|cases b|(rw [j8] at b; cases b)
 | n+1=>W_ n (MV n)
def Xa (f:Z5) (b:(Sl ai)) (g:Bs) (j:(List Bs)) (k:(Sl Z6)):Option ((Sl Z6)×(List Bs)):=j8 F0 f b g j k
theorem Xb {g f j k b m c3 g4 r}(p:Xa g f j k b=some r) (H:ah) (q:H c3=some (.map (gw k))) (s:H g4=some (.tok 2 b.l.length)):At 138 [.d (.view ((Z5.c gK) g)),.d (Sl.d 7 ai.c m f),.d (.str j),.d (.map c3),.d (Sl.d 2 Z6.c (some g4) b)] H (RT (.a (.d (Sl.d 2 Z6.c (some g4) r.1))) (((H.set c3 (some (.map (gw r.2)))).set g4 (some (.tok 2 r.1.l.length))))):=(MV F0) p H q s
def LR (f:Z5) (b:(Sl ai)) (g:Bs) (j:(List Bs)) (k:(Sl Z6)):Option ((Sl Z6)×(List Bs)):=j8 F0 f b g j k
def BV (g:Z5) (b:(Sl ai)) (j:Bs):Option (Sl Z6):=(LR g b j ([]:List Bs) (Sl.nil:Sl Z6)).bind fun f=>some f.1
def ri (f:Z5) (b:(Sl ai)) (g:Bs):Option (Sl Z6):=BV f b g
theorem GG {m g p q r}(b:ri m g p=some r) (H:ah) :At 89 [.d (.view ((Z5.c gK) m)),.d (Sl.d 7 ai.c q g),.d (.str p)] H (RT (.a (.d (Sl.d 2 Z6.c none r))) H):=by
 unfold ri BV at b;refine AC.oW 12 [.tmp 6] Tryz.call89 Tryz.func89 ?_;refine Y1 ?_;refine s0 (dM (k':=2) rfl) rfl ?_;refine Y1 ?_;refine ag.tok 2 fun f y=>?_;refine Y4 ?_;refine sE dA.makeMap rfl (fun _ _ _ ⟨j,k,s,u,v⟩=>?_);subst s u v;obtain⟨z,k⟩:=ah.dP k
 refine hq ((H.set f (some (.tok 2 0))).set j (some (.map (gw ([]:List Bs))))) ?_;obtain⟨l,w,b⟩:=bz b;refine sH (bF rfl rfl (AC.uk (.cons (.refl _) (.cons (.refl _) (.cons (.refl _) (.cons (.refl _) (.cons (jf.nil (k':=2) (t:=f) au) .nil))))) (Xb w _ au au))) rfl ?_;refine hq ((tS H f 2 l.1).set j (some (.map (gw l.2)))) (Y2 ?_);refine ag.eG 6 rfl ?_
 refine ag.ret ?_;repeat (first|refine rP ?_|refine rQ ?_)
 obtain rfl:=oJ b;refine bR.cK H rfl ⟨rfl,rfl⟩ ?_;exact sy
def rp (b:ai):Bs:=bif (!(b.cq==([]:Bs))) then(b.cq) else(b.aa)
def pe (b:ai):Option Bs:=some (rp b)
theorem wE {f r}(b:pe f=some r) (H:ah) :At 91 [.d (.view (ai.c f))] H (RT (.a (.d (.str r))) H):=by
 unfold pe rp at b;refine AC.oW 16 [.tmp 2] Tryz.call91 Tryz.func91 ?_;refine Y3 ?_;refine ar fun k g=>Y2 ?_;refine s0 (cW rfl) rfl ?_;refine Y4 ?_;refine cP b (fun j b=>?_) (fun j b=>?_)
 ·refine Y2 ?_;refine s0 (cW rfl) rfl ?_;refine Y4 ?_;exact rt b
 refine sk g (Y2 ?_);refine s0 (cW rfl) rfl ?_;refine Y4 ?_;exact rt b
def B9 (j:Z6) (b:Z6):Bool:=on (rp j.eD) fun f=>on (rp b.eD) fun g=>((f==g))
def yZ (f:Z6) (b:Z6):Option Bool:=some (B9 f b)
theorem MW {g f r}(b:yZ g f=some r) (H:ah) :At 90 [.agg (Z6.c g),.d (.view (Z6.c f))] H (RT (.a (.d (.bool r))) H):=by
 unfold yZ B9 at b;refine AC.oW 11 [.tmp 3] Tryz.call90 Tryz.func90 ?_;refine Y7 ?_;obtain⟨l,j,b⟩:=eL b;refine ck rfl rfl (wE j) (Y2 ?_);obtain⟨m,k,b⟩:=eL b;refine ck rfl rfl (wE k) (Y3 ?_);exact rt b
def wG  :Option Int:=some (-1:Int)
def wH (f:(Sl Z6)) (g:(Z6->Option Bool)) :Nat->Nat->Option Int
 | 0,_=>none
 | j+1,b=>bif (decide (((b:Nat):Int)<((f.l.length:Nat):Int))) then((f.l[b]?).bind fun k=>(g k).bind fun m=>bif m then(some ((b:Nat):Int)) else((wH f g j) (b+1))) else(wG   )
def vG (b:(Sl Z6)) (f:(Z6->Option Bool)):Option Int:=wH b f (b.l.length+1) 0
theorem Xc {f g w0 m r}(b:vG f g=some r) (H:ah) (s:∀p r,g p=some r->iL Tryz.prog m [.agg (Z6.c p)] H (RT (.a (.d (.bool r))) H)):At 92 [.d (Sl.d 2 Z6.c w0 f),.d m] H (RT (.a (.d (.int .i64 r))) H):=by
 unfold vG at b;refine AC.oW 19 [.tmp 4] Tryz.call92 Tryz.func92 ?_;refine Y3 ?_;refine aN kN (fun(z:Unit)=>[]) (fun z=>H) (fun z=>wG =some r) ?_ ?_
 ·intro E t;refine Y2 ?_;refine aV Z6.c f fun F=>Y3 ?_;refine bx (tl [0,1,7]) (fun(z:Nat×Nat)=>[(8,vi z.2)]) (fun z=>H) (fun z=>z.1) (fun z=>wH f g z.1 z.2=some r) ((f.l.length+1),0) b wA ?_;rintro ⟨j,q⟩ b G u;try dsimp only at b
  cases j with
  | zero=>cases b
  | succ j =>
    rw [wH] at b;refine Y3 ?_;refine ar fun I v=>?_;refine cE b (fun k b=>?_) (fun k b=>?_)
    ·try dsimp only at k
     have J:=oD k;refine sk v (ar fun K w=>Y9 ?_);obtain⟨L,y,b⟩:=bO b;refine S (ix Z6.c q y) (Y1 ?_);obtain⟨M,B,b⟩:=bO b;refine s0 (mA rfl rfl (s _ _ B)) rfl ?_;refine Y1 ?_;refine cE b (fun C b=>?_) (fun C b=>?_)
     ·refine Y4 ?_;exact rt b
     refine sk w (Y4 ?_);exact u _ (j,(q+1)) wA b (nS _)
    refine ag.exit ?_;exact t _ () wA b
 rintro _ b;try dsimp only at b
 unfold wG at b;refine Y3 ?_;exact rt b
def zP (f:(Z6->Bool)):List Z6->Nat->Unit ⊕ Int
 | [],b=>Sum.inl ()
 | g::j,b=>on (g) fun k=>on (f k) fun l=>bif l then(Sum.inr ((b:Nat):Int)) else(zP f (j) (b+1) )
theorem Xd {g:Sl Z6}{k:Z6->Bool}(j:(Unit ⊕ Int)->Option Int) (p:∀(f:Nat) (b:Nat),wG   =j (Sum.inl ())) (q:∀e:Int,some e=j (Sum.inr e)):∀(f:Nat) (b:Nat),(0<f/\g.l.length<b+f)->wH g (fun r=>some (k r)) f b=j (zP k (g.l.drop b) b ):=by
 intro f;induction f with
 | zero=>intro b hn; exact absurd hn.1 (by omega)
 | succ f s =>
  intro b hn;rw [wH];by_cases aJ:b<g.l.length
  ·obtain⟨t,m⟩:=Qa aJ;rw [Q.gP m,zP];refine QT aJ ?_;refine Q.ii m fun u v=>?_;refine Q.ii rfl fun w y=>?_;refine Q.nO ?_ ?_
   ·all_goals exact q _
   all_goals exact s _ ⟨by omega,by omega⟩
  rw [dL (by omega),zP];refine QF aJ ?_;exact p f b
def B8 (j:(Sl Z6)) (b:(Z6->Bool)):Int:=on (zP b j.l 0 ) fun f=>match f with|Sum.inl _=>(on (()) fun _=>(-1:Int))|Sum.inr g=>(g)
theorem Ut (a0:(Sl Z6)) (b:(Z6->Bool)):vG a0 (fun g=>some (b g))=some (B8 a0 b):=by
 unfold vG B8;refine Q.jt fun j f=>?_;refine Xd  j ?_ ?_ _ _ ⟨Nat.succ_pos _,by omega⟩
 ·intro p q;refine Qe (f _) ?_;try dsimp only
  refine Q.jt fun k l=>?_;have m:wG  =k ():=by
   refine Qe (l _) ?_;unfold wG;all_goals rfl
  all_goals exact m
 intro r;refine Qe (f _) ?_;try dsimp only
 all_goals rfl
def lS (f:(Sl Int)):List Int->Nat->Option (Unit ⊕ Bool)
 | [],b=>some (Sum.inl ())
 | g::j,b=>on (g) fun k=>(f.l[b]?).bind fun m=>bif (!decide (k=m)) then(some (Sum.inr false)) else(lS f (j) (b+1) )
def oz (f:(Sl Int)) (b:(Sl Int)):Option Bool:=bif (!decide (((f.l.length:Nat):Int)=((b.l.length:Nat):Int))) then(some false) else(Option.bind (lS b f.l 0 ) fun g=>match g with|Sum.inl _=>(on (()) fun _=>some true)|Sum.inr j=>(some j))
theorem GH {f g w0 s r}(b:oz f g=some r) (H:ah) :At 222 [.d (Sl.d 1 (bM .i64) w0 f),.d (Sl.d 1 (bM .i64) s g)] H (RT (.a (.d (.bool r))) H):=by
 unfold oz at b;refine AC.oW 26 [.tmp 4] Tryz.call222 Tryz.func222 ?_;refine Y3 ?_;refine ar fun I t=>Y2 ?_;refine aV (bM .i64) f fun J=>Y1 ?_;refine aV (bM .i64) g fun K=>Y2 ?_;refine cE b (fun u b=>?_) (fun u b=>?_)
 ·refine Y3 ?_;exact rt b
 refine sk t (aN kN (fun(z:Unit)=>[]) (fun z=>H) (fun z=>(some true)=some r) ?_ ?_)
 ·intro L v;refine Y2 ?_;refine aV (bM .i64) f fun M=>Y3 ?_;obtain⟨m,p,b⟩:=b5 b;refine bx (tl [0,1,12]) (fun(z:Nat)=>[(13,vi z)]) (fun z=>H) (fun z=>f.l.length-z) (fun z=>Option.bind (lS g (f.l.drop z) z ) m=some r) 0 b wA ?_;rintro j b N w;try dsimp only at b
  refine Y3 ?_;refine ar fun O y=>?_;refine ag.bW (fun l=>Option.bind (lS g l j ) m=some r) b rfl (fun P q k b=>?_) (fun k b=>?_)
  ·rw [lS] at b;try dsimp only at k
   have Q:=oD k;refine sk y (ar fun R B=>Y8 ?_);obtain⟨S,C,b⟩:=vO q b;refine Sd (ix (bM .i64) j C) (Y3 ?_);obtain⟨U,E,b⟩:=aQ b;refine Sd (ix (bM .i64) j E) (Y3 ?_);refine cO b (fun F b=>?_) (fun F b=>?_)
   ·refine Y3 ?_;exact rs (ku p b:)
   refine sk B (Y4 ?_);exact w _ (j+1) wA b (dl q)
  rw [lS] at b;have b:=ku p b;try dsimp only at b
  refine ag.exit ?_;obtain⟨W,G,b⟩:=b8 b;exact v _ () wA (ku G b:)
 rintro _ b;try dsimp only at b
 refine Y3 ?_;exact rt b
def sM (f:ax) (b:ax):Option Bool:=a_ (((f.aa==b.aa))) (oz f.av b.av) false fun g=>some (((f.aa==b.aa))&&g)
theorem MX {g f r}(b:sM g f=some r) (H:ah) :At 191 [.agg (ax.c g),.agg (ax.c f)] H (RT (.a (.d (.bool r))) H):=by
 unfold sM at b;refine AC.oW 17 [.tmp 4] Tryz.call191 Tryz.func191 ?_;refine xB ?_;refine Gk 11 ?_;refine Y1 ?_;refine Gk 13 ?_;obtain⟨k,j,b⟩:=dV b;refine fV 12 14 rfl rfl rfl rfl rfl rfl (fun hC=>GH (j hC)) ?_;refine Y3 ?_;exact rt b
def BY (k:Z5) (b:ax) (g:ax):Option Bool:=(oz b.av g.av).bind fun l=>bif (!l) then(some false) else((sM b g).bind fun f=>on (bif !f then fC k.lB b.aa else false) fun j=>on (bif (!f&&j) then fC k.lB g.aa else false) fun m=>some (f||(j&&m)))
def BX (f:Z5) (b:ax) (g:ax):Option Bool:=BY f b g
theorem Xe {g f j r}(b:BX g f j=some r) (H:ah) :At 211 [.d (.view ((Z5.c gK) g)),.agg (ax.c f),.agg (ax.c j)] H (RT (.a (.d (.bool r))) H):=by
 unfold BX BY at b;refine AC.oW 34 [.tmp 6] Tryz.call211 Tryz.func211 ?_;refine Y5 ?_;refine ar fun t k=>Y5 ?_;obtain⟨u,l,b⟩:=bz b;refine Sc rfl rfl (GH l) (Y2 ?_);refine cE b (fun m b=>?_) (fun m b=>?_)
 ·refine Y3 ?_;exact rt b
 refine sk k (Y3 ?_);obtain⟨v,p,b⟩:=bz b;refine ck rfl rfl (MX p) (Y2 ?_);refine fL 17 rfl (fun hC=>cW rfl) ?_;refine cG 18 ?_;refine cG 19 ?_;refine Y1 ?_;refine cG 21 ?_;obtain⟨w,q,b⟩:=jv (fun _=>rfl) b;refine nP 20 22 rfl rfl rfl rfl rfl rfl (fun hC=>me (q hC)) ?_;refine cG 23 ?_;refine Y1 ?_;refine fL 25 rfl (fun hC=>cW rfl) ?_;refine cG 26 ?_;refine cG 27 ?_
 refine Y1 ?_;refine cG 29 ?_;obtain⟨y,s,b⟩:=jv (fun _=>rfl) b;refine nP 28 30 rfl rfl rfl rfl rfl rfl (fun hC=>me (s hC)) ?_;refine fL 24 rfl (fun hC=>f_ rfl rfl rfl) ?_;refine Y3 ?_;exact rt b
def BZ (g:Z5) (f:Bs):Bool:=on (cL g.lB f) fun b=>(b.2&&(decide (b.1.aj=(1:Int))))
def vE (f:Z5) (b:Bs):Option Bool:=some (BZ f b)
theorem MY {g f r}(b:vE g f=some r) (H:ah) :At 212 [.d (.view ((Z5.c gK) g)),.d (.str f)] H (RT (.a (.d (.bool r))) H):=by
 unfold vE BZ at b;refine AC.oW 22 [.tmp 4] Tryz.call212 Tryz.func212 ?_;refine Y5 ?_;refine s0 (cW rfl) rfl ?_;refine Y3 ?_;obtain⟨k,j,b⟩:=eL b;refine Sc rfl rfl (iM j) (Y7 ?_);refine bl 5 _ rfl (kl [6]) ?_;refine Y4 ?_;refine Gk 18 ?_;refine Gk 19 ?_;refine Y3 ?_;exact rt b
def wI  :Option Int:=some (-1:Int)
def wJ (f:(Sl aO)) (g:(aO->Option Bool)) :Nat->Nat->Option Int
 | 0,_=>none
 | j+1,b=>bif (decide (((b:Nat):Int)<((f.l.length:Nat):Int))) then((f.l[b]?).bind fun k=>(g k).bind fun m=>bif m then(some ((b:Nat):Int)) else((wJ f g j) (b+1))) else(wI   )
def zQ (b:(Sl aO)) (f:(aO->Option Bool)):Option Int:=wJ b f (b.l.length+1) 0
theorem Xf {f g w0 m r}(b:zQ f g=some r) (H:ah) (s:∀p r,g p=some r->iL Tryz.prog m [.agg (aO.c p)] H (RT (.a (.d (.bool r))) H)):At 237 [.d (Sl.d 6 aO.c w0 f),.d m] H (RT (.a (.d (.int .i64 r))) H):=by
 unfold zQ at b;refine AC.oW 19 [.tmp 4] Tryz.call237 Tryz.func237 ?_;refine Y3 ?_;refine aN kN (fun(z:Unit)=>[]) (fun z=>H) (fun z=>wI =some r) ?_ ?_
 ·intro E t;refine Y2 ?_;refine aV aO.c f fun F=>Y3 ?_;refine bx (tl [0,1,7]) (fun(z:Nat×Nat)=>[(8,vi z.2)]) (fun z=>H) (fun z=>z.1) (fun z=>wJ f g z.1 z.2=some r) ((f.l.length+1),0) b wA ?_;rintro ⟨j,q⟩ b G u;try dsimp only at b
  cases j with
  | zero=>cases b
  | succ j =>
    rw [wJ] at b;refine Y3 ?_;refine ar fun I v=>?_;refine cE b (fun k b=>?_) (fun k b=>?_)
    ·try dsimp only at k
     have J:=oD k;refine sk v (ar fun K w=>Y9 ?_);obtain⟨L,y,b⟩:=bO b;refine S (ix aO.c q y) (Y1 ?_);obtain⟨M,B,b⟩:=bO b;refine s0 (mA rfl rfl (s _ _ B)) rfl ?_;refine Y1 ?_;refine cE b (fun C b=>?_) (fun C b=>?_)
     ·refine Y4 ?_;exact rt b
     refine sk w (Y4 ?_);exact u _ (j,(q+1)) wA b (nS _)
    refine ag.exit ?_;exact t _ () wA b
 rintro _ b;try dsimp only at b
 unfold wI at b;refine Y3 ?_;exact rt b
def q_ (f:(aO->Bool)):List aO->Nat->Unit ⊕ Int
 | [],b=>Sum.inl ()
 | g::j,b=>on (g) fun k=>on (f k) fun l=>bif l then(Sum.inr ((b:Nat):Int)) else(q_ f (j) (b+1) )
theorem Xg {g:Sl aO}{k:aO->Bool}(j:(Unit ⊕ Int)->Option Int) (p:∀(f:Nat) (b:Nat),wI   =j (Sum.inl ())) (q:∀e:Int,some e=j (Sum.inr e)):∀(f:Nat) (b:Nat),(0<f/\g.l.length<b+f)->wJ g (fun r=>some (k r)) f b=j (q_ k (g.l.drop b) b ):=by
 intro f;induction f with
 | zero=>intro b hn; exact absurd hn.1 (by omega)
 | succ f s =>
  intro b hn;rw [wJ];by_cases aJ:b<g.l.length
  ·obtain⟨t,m⟩:=Qa aJ;rw [Q.gP m,q_];refine QT aJ ?_;refine Q.ii m fun u v=>?_;refine Q.ii rfl fun w y=>?_;refine Q.nO ?_ ?_
   ·all_goals exact q _
   all_goals exact s _ ⟨by omega,by omega⟩
  rw [dL (by omega),q_];refine QF aJ ?_;exact p f b
def vC (j:(Sl aO)) (b:(aO->Bool)):Int:=on (q_ b j.l 0 ) fun f=>match f with|Sum.inl _=>(on (()) fun _=>(-1:Int))|Sum.inr g=>(g)
theorem Xh (a0:(Sl aO)) (b:(aO->Bool)):zQ a0 (fun g=>some (b g))=some (vC a0 b):=by
 unfold zQ vC;refine Q.jt fun j f=>?_;refine Xg  j ?_ ?_ _ _ ⟨Nat.succ_pos _,by omega⟩
 ·intro p q;refine Qe (f _) ?_;try dsimp only
  refine Q.jt fun k l=>?_;have m:wI  =k ():=by
   refine Qe (l _) ?_;unfold wI;all_goals rfl
  all_goals exact m
 intro r;refine Qe (f _) ?_;try dsimp only
 all_goals rfl
def yW (f:aO) (b:aO):Bool:=((f.aa==b.aa))
def CS (f:aO) (b:aO):Option Bool:=some (yW f b)
theorem Xi (a0:aO) (b:aO):CS a0 b=some (yW a0 b):=rfl
theorem Xj {g b r}(f:CS g b=some r) (H:ah) :At 238 [.agg (aO.c g),.d (.view (aO.c b))] H (RT (.a (.d (.bool r))) H):=by
 unfold CS yW at f;refine AC.oW 9 [.tmp 3] Tryz.call238 Tryz.func238 ?_;refine kH ?_;exact rt f
def yP (b:Int):Bool:=(!decide (b=b))
theorem MZ {f r}(b:some (yP f)=some r) (H:ah) :At 254 [.d (.int .i64 f)] H (RT (.a (.d (.bool r))) H):=by
 unfold yP at b;refine AC.oW 6 [.tmp 2] Tryz.call254 Tryz.func254 ?_;refine Y9 ?_;exact rt b
def BM (f:Int) (b:Int):Int:=on (yP f) fun j=>on (yP b) fun g=>bif j then(bif g then((0:Int)) else((-1:Int))) else(bif g then((1:Int)) else(bif (decide (f<b)) then((-1:Int)) else(bif (decide (b<f)) then((1:Int)) else((0:Int)))))
def tf (f:Int) (b:Int):Option Int:=some (BM f b)
theorem TX (a0:Int) (b:Int):tf a0 b=some (BM a0 b):=rfl
theorem GI {g f r}(b:tf g f=some r) (H:ah) :At 245 [.d (.int .i64 g),.d (.int .i64 f)] H (RT (.a (.d (.int .i64 r))) H):=by
 unfold tf BM at b;refine AC.oW 20 [.tmp 4] Tryz.call245 Tryz.func245 ?_;refine Y5 ?_;obtain⟨z,j,b⟩:=eL b;refine Sc rfl rfl (MZ j) (Y4 ?_);obtain⟨B,k,b⟩:=eL b;refine Sc rfl rfl (MZ k) (Y2 ?_);refine ar fun C l=>Y3 ?_;refine cP b (fun m b=>?_) (fun m b=>?_)
 ·refine ar fun E p=>Y3 ?_;refine cP b (fun q b=>?_) (fun q b=>?_)
  ·refine Y3 ?_;exact rt b
  refine sk p (Y3 ?_);exact rt b
 refine sk l (ar fun F s=>Y3 ?_);refine cP b (fun t b=>?_) (fun t b=>?_)
 ·refine Y3 ?_;exact rt b
 refine sk s (ar fun G u=>Y5 ?_);refine cP b (fun v b=>?_) (fun v b=>?_)
 ·refine Y3 ?_;exact rt b
 refine sk u (ar fun I w=>Y5 ?_);refine cP b (fun y b=>?_) (fun y b=>?_)
 ·refine Y3 ?_;exact rt b
 refine sk w (Y3 ?_);exact rt b
def Tryz.Xk:Go.Shelf.Ren:=⟨fun|106=>246|213=>255|265=>262|n=>n,fun|9=>9|3=>3|n=>n,fun|n=>n⟩
theorem Tryz.Xl:Go.Proofs.Lays.n106 Tryz.prog Tryz.Xk:={
 mixed:=by kernel_rfl
 f106:=Tryz.func246.trans (congrArg some (by kernel_rfl))
 f213:=Tryz.func255.trans (congrArg some (by kernel_rfl))
 f265:=Tryz.func262.trans (congrArg some (by kernel_rfl))
 t3:=Tryz.underlying3
 a3:=Tryz.isAgg3
 z3:=Tryz.sizeOf3
 v3:=Tryz.zeroValue3
 t9:=Tryz.underlying9
 a9:=Tryz.isAgg9
 z9:=Tryz.sizeOf9
 v9:=Tryz.zeroValue9 }
def yR (s t:Bs):Option Int:=some (Lib.compareBytes s t)
theorem M1 {f b r}(g:yR f b=some r) (H:ah):At 246 [.d (.str f),.d (.str b)] H (RT (.a (.d (.int .i64 r))) H):=by
 obtain rfl:=oJ g;exact PJ Tryz.Xl rfl
def BN (f:af) (b:Int):Option Bs:=bif (decide (b<((f.aX.l.length:Nat):Int))) then((dc f.aX.l b).bind fun g=>some g) else(some ([]:Bs))
def vv (f:af) (b:Int):Option Bs:=BN f b
theorem TY (a0:af) (b:Int):vv a0 b=BN a0 b:=rfl
theorem M2 {g j r}(b:vv g j=some r) (H:ah) :At 247 [.agg (af.c g),.d (.int .i64 j)] H (RT (.a (.d (.str r))) H):=by
 unfold vv BN at b;refine AC.oW 15 [.tmp 4] Tryz.call247 Tryz.func247 ?_;refine Y4 ?_;refine ar fun p k=>Y4 ?_;refine aV aW g.aX fun q=>Y2 ?_;refine cE b (fun l b=>?_) (fun l b=>?_)
 ·refine Y4 ?_;obtain⟨s,m,b⟩:=bz b;refine s0 (iK (f:=aW) (TK rfl) rfl (TK rfl) rfl rfl rfl m) rfl ?_;refine Y3 ?_;exact rt b
 refine sk k (Y3 ?_);exact rt b
def rG  (b:Int):Option Int:=some b
def BP (b:Int) (f:Int->Int->Option Int) (g:Int):Option Int:=(cV b (1:Int)).bind fun j=>f g j
def BO (k:af) (b:af) (f:Int) (g:Int->Int->Option Int) :Option Int:=(tf ((k.aB.l.length:Nat):Int) ((b.aB.l.length:Nat):Int)).bind fun j=>BP f g j
def vw (g:af) (b:af) (j:Int) (k:Int->Int->Option Int) (m:af->af->Option Int):Nat->Int->Option Int
 | 0,_=>none
 | r+1,f=>bif (decide (f<(if ((b.aB.l.length:Nat):Int)<((g.aB.l.length:Nat):Int) then((b.aB.l.length:Nat):Int) else((g.aB.l.length:Nat):Int)))) then((vv g f).bind fun s=>(vv b f).bind fun t=>(yR s t).bind fun p=>bif (!decide (p=(0:Int))) then(rG   p) else((dc g.aB.l f).bind fun u=>(dc b.aB.l f).bind fun v=>(m u v).bind fun q=>bif (!decide (q=(0:Int))) then(rG   q) else((cV f (1:Int)).bind fun w=>(vw g b j k m r) w))) else(BO g b j k )
def kV (f:af) (b:af) (g:af->af->Option Int):Nat->Int->Int->Option Int
 | 0,_,_=>none
 | k+1,l,j=>bif (decide (j<(1:Int))) then(bif (!decide (f.aj=b.aj)) then((tf f.aj b.aj).bind fun m=>rG   m) else(bif (!decide (f.bL=b.bL)) then((tf f.bL b.bL).bind fun p=>rG   p) else(bif (!(f.bK==b.bK)) then((yR f.bK b.bK).bind fun q=>rG   q) else(vw f b j ((kV f b g k)) g F0 (0:Int))))) else(rG   l)
def i_:Nat->af->af->Option Int
 | 0,_,_=>none
 | n+1,f,b=>kV f b (i_ n) F0 (0:Int) (0:Int)
def GJ (n:Nat):Prop:=∀{a0:af}{b:af}   {r:Int},i_ n a0 b=some r->∀(H:ah),At 242 [.agg (af.c a0),.agg (af.c b)] H (RT (.a (.d (.int .i64 r))) H)
theorem Xm (n:Nat) (q:GJ (ak:=ak) n):GJ (ak:=ak) (n+1):=by
 intro j g   r b H;rw [i_] at b;refine AC.oW 84 [.tmp 4] Tryz.call242 Tryz.func242 ?_;refine Y5 ?_;refine ag.scope ?_;refine Y3 ?_;refine ar fun ax s=>ag.label ?_;refine s _ ?_;refine aN kN (fun(z:Int)=>[(5,.a (.d (.int .i64 z)))]) (fun z=>H) (fun z=>rG z=some r) ?_ ?_
 ·intro ay k;refine Y4 ?_;refine bx (tl [2,3]) (fun(z:Nat×Int×Int)=>[(5,.a (.d (.int .i64 z.2.1))),(7,.a (.d (.int .i64 z.2.2)))]) (fun z=>H) (fun z=>z.1) (fun z=>kV j g (i_ n) z.1 z.2.1 z.2.2=some r) (F0,(0:Int),(0:Int)) b wA ?_;rintro ⟨l,t,m⟩ b az u;try dsimp only at b
  cases l with
  | zero=>cases b
  | succ l =>
    rw [kV] at b;refine Y3 ?_;refine ar fun aA v=>?_;refine cE b (fun w b=>?_) (fun w b=>?_)
    ·refine sk v (aN (tl [2,3,7]) (fun(z:Int)=>[(5,.a (.d (.int .i64 z)))]) (fun z=>H) (fun z=>BP m ((kV j g (i_ n) l)) z=some r) ?_ ?_)
     ·intro aC y;refine Y1 ?_;refine ar fun aD B=>Y9 ?_;refine cE b (fun C b=>?_) (fun C b=>?_)
      ·refine Y5 ?_;obtain⟨E,F,b⟩:=bO b;refine Sc rfl rfl (GI F) (Y2 ?_);refine ag.exit ?_;exact k _ E wA b
      refine Y8 ?_;refine cE b (fun G b=>?_) (fun G b=>?_)
      ·refine Y5 ?_;obtain⟨I,J,b⟩:=bO b;refine Sc rfl rfl (GI J) (Y2 ?_);refine ag.exit ?_;exact k _ I wA b
      refine Y8 ?_;refine cE b (fun K b=>?_) (fun K b=>?_)
      ·refine Y5 ?_;obtain⟨L,M,b⟩:=bO b;refine Sc rfl rfl (M1 M) (Y2 ?_);refine ag.exit ?_;exact k _ L wA b
      refine sk B (aN (tl [2,3,7]) (fun(z:Unit)=>[]) (fun z=>H) (fun z=>BO j g m ((kV j g (i_ n) l)) =some r) ?_ ?_)
      ·intro aE N;refine Y2 ?_;refine s0 (cA (TK rfl) rfl rfl (af.dX _)) rfl ?_;refine aV af.c j.aB fun aF=>Y1 ?_;refine s0 (cA (TK rfl) rfl rfl (af.dX _)) rfl ?_;refine aV af.c g.aB fun aG=>s0 (OC rfl rfl) rfl ?_;refine Y3 ?_
       refine bx (tl [2,3,7,48]) (fun(z:Nat×Int)=>[(49,.a (.d (.int .i64 z.2)))]) (fun z=>H) (fun z=>z.1) (fun z=>vw j g m ((kV j g (i_ n) l)) (i_ n) z.1 z.2=some r) (F0,(0:Int)) b wA ?_;rintro ⟨p,aJ⟩ b aK O;try dsimp only at b
       cases p with
       | zero=>cases b
       | succ p =>
         rw [vw] at b;refine Y3 ?_;refine ar fun aL P=>?_;refine cE b (fun Q b=>?_) (fun Q b=>?_)
         ·refine sk P (ar fun aM R=>Y5 ?_);refine ar fun aO U=>Y3 ?_;obtain⟨aP,W,b⟩:=bO b;refine ck rfl rfl (M2 W) (Y2 ?_);obtain⟨aQ,X,b⟩:=bO b;refine ck rfl rfl (M2 X) ?_;obtain⟨Y,Z,b⟩:=bO b;refine ck rfl rfl (M1 Z) (Y6 ?_);refine cE b (fun aa b=>?_) (fun aa b=>?_)
          ·refine ag.exit ?_;exact k _ Y wA b
          refine sk U (Y2 ?_);refine aH.s0 (cA (TK rfl) rfl rfl (af.dX _)) rfl ?_;refine Y1 ?_;obtain⟨aR,ab,b⟩:=bO b;refine aH.s0 (iK (f:=af.c) (TK rfl) rfl (TK rfl) rfl rfl rfl ab) rfl ?_;refine Y2 ?_;refine aH.s0 (cA (TK rfl) rfl rfl (af.dX _)) rfl ?_;refine Y1 ?_;obtain⟨aS,ad,b⟩:=bO b
          refine aH.s0 (iK (f:=af.c) (TK rfl) rfl (TK rfl) rfl rfl rfl ad) rfl ?_;refine Y1 ?_;obtain⟨ae,ai,b⟩:=bO b;refine ck rfl rfl (q ai) (Y6 ?_);refine cE b (fun aj b=>?_) (fun aj b=>?_)
          ·refine ag.exit ?_;exact k _ ae wA b
          refine sk R (Y1 ?_);obtain⟨al,am,b⟩:=bO b;refine S (gh am) (Y2 ?_);exact O _ (p,al) wA b (nS _)
         refine ag.exit ?_;exact N _ () wA b
      rintro _ b;try dsimp only at b
      unfold BO at b;refine Y2 ?_;refine s0 (cA (TK rfl) rfl rfl (af.dX _)) rfl ?_;refine aV af.c j.aB fun aT=>Y1 ?_;refine s0 (cA (TK rfl) rfl rfl (af.dX _)) rfl ?_;refine aV af.c g.aB fun aU=>?_;obtain⟨an,ao,b⟩:=bO b;refine Sc rfl rfl (GI ao) (Y2 ?_);exact y _ an wA b
     rintro ap b;try dsimp only at b
     unfold BP at b;refine Y1 ?_;obtain⟨av,aw,b⟩:=bO b;refine S (gh aw) (Y2 ?_);exact u _ (l,ap,av) wA b (nS _)
    refine ag.exit ?_;exact k _ t wA b
 rintro aW b;try dsimp only at b
 unfold rG at b;refine Y4 ?_;refine ag.ret ?_;repeat (first|refine rP ?_|refine rQ ?_|refine PI ?_)
 obtain rfl:=oJ b;refine bR.cK H rfl ⟨rfl,rfl⟩ ?_;exact(fun _ _ h=>h)
theorem M3:∀(n:Nat),(GJ (ak:=ak) n)
 | 0=>fun b=>by first|cases b|(rw [i_] at b; cases b)
 | n+1=>Xm n (M3 n)
def FF (f:af) (b:af):Option Int:=i_ F0 f b
theorem Xn {f b r}(g:FF f b=some r) (H:ah) :At 242 [.agg (af.c f),.agg (af.c b)] H (RT (.a (.d (.int .i64 r))) H):=(M3 F0) g H 
def tg (g:af) (b:af):Option Bool:=(FF g b).bind fun f=>some (decide (f=(0:Int)))
theorem Xo {g f r}(b:tg g f=some r) (H:ah) :At 239 [.agg (af.c g),.agg (af.c f)] H (RT (.a (.d (.bool r))) H):=by
 unfold tg at b;refine AC.oW 9 [.tmp 4] Tryz.call239 Tryz.func239 ?_;refine Y8 ?_;obtain⟨k,j,b⟩:=bz b;refine Sc rfl rfl (Xn j) (Y3 ?_);exact rt b
def rf (f:(Sl aO)):List aO->Option (Unit ⊕ Bool)
 | []=>some (Sum.inl ())
 | j::k=>on (j) fun g=>on (vC f (fun m=>yW m g)) fun b=>a_ (!(decide (b<(0:Int)))) (dc f.l b) aO.zero fun p=>a_ (!(decide (b<(0:Int)))) (tg g.dr p.dr) false fun q=>bif ((decide (b<(0:Int)))||(!q)) then(some (Sum.inr false)) else(rf f (k) )
def vD (j:(Sl aO)) (b:(Sl aO)):Option Bool:=Option.bind (rf b j.l ) fun f=>match f with|Sum.inl _=>(on (()) fun _=>some true)|Sum.inr g=>(some g)
theorem M4 {j g w0 t r}(b:vD j g=some r) (H:ah) :At 231 [.d (Sl.d 6 aO.c w0 j),.d (Sl.d 6 aO.c t g)] H (RT (.a (.d (.bool r))) H):=by
 unfold vD at b;refine AC.oW 31 [.tmp 4] Tryz.call231 Tryz.func231 ?_;refine Y3 ?_;refine aN kN (fun(z:Unit)=>[]) (fun z=>H) (fun z=>(some true)=some r) ?_ ?_
 ·intro L u;refine Y2 ?_;refine aV aO.c j fun M=>Y3 ?_;obtain⟨m,p,b⟩:=b5 b;refine bx (tl [1,8,9]) (fun(z:Nat)=>[(10,vi z)]) (fun z=>H) (fun z=>j.l.length-z) (fun z=>Option.bind (rf g (j.l.drop z) ) m=some r) 0 b wA ?_;rintro q b N v;try dsimp only at b
  refine Y3 ?_;refine ar fun O w=>?_;refine ag.bW (fun l=>Option.bind (rf g l ) m=some r) b rfl (fun P s k b=>?_) (fun k b=>?_)
  ·rw [rf] at b;try dsimp only at k
   have Q:=oD k;refine sk w (ar fun R y=>Y2 ?_);obtain⟨B,C,b⟩:=vO s b;refine S (ix aO.c q C) (Y4 ?_);refine bl 6 _ rfl (kl [1,8,9,10]) ?_;refine Y2 ?_;refine s0 (makeFunc rfl) rfl ?_;obtain⟨U,E,b⟩:=vO (o:=zQ g (fun F=>CS F B)) (by simp only [Xi,Xh]) b;refine s0 (fT rfl rfl (fun H=>Xf E H (fun _ _ hx=>Xj hx _))) rfl ?_;refine Y7 ?_
   refine cG 20 ?_;refine Y2 ?_;obtain⟨W,G,b⟩:=fG b;refine nQ 22 23 rfl rfl (fun hC=>iK (f:=aO.c) (TK rfl) rfl (TK rfl) rfl rfl rfl (G hC)) ?_;refine cG 24 ?_;refine cG 25 ?_;obtain⟨X,I,b⟩:=fG b;refine nP 21 26 rfl rfl rfl rfl rfl rfl (fun hC=>Xo (I hC)) ?_;refine cG 27 ?_;refine Y2 ?_;refine cO b (fun J b=>?_) (fun J b=>?_)
   ·refine Y3 ?_;exact rs (ku p b:)
   refine sk y (Y4 ?_);exact v _ (q+1) wA b (dl s)
  rw [rf] at b;have b:=ku p b;try dsimp only at b
  refine ag.exit ?_;obtain⟨Y,K,b⟩:=b8 b;exact u _ () wA (ku K b:)
 rintro _ b;try dsimp only at b
 refine Y3 ?_;exact rt b
def BW (f:(Sl aO)) (b:(Sl aO)):Option Bool:=a_ ((decide (((f.l.length:Nat):Int)=((b.l.length:Nat):Int)))) (vD f b) false fun g=>a_ (((decide (((f.l.length:Nat):Int)=((b.l.length:Nat):Int)))&&g)) (vD b f) false fun j=>some (((decide (((f.l.length:Nat):Int)=((b.l.length:Nat):Int)))&&g)&&j)
def yX (f:(Sl aO)) (b:(Sl aO)):Option Bool:=BW f b
theorem Xp {g f w0 j r}(b:yX g f=some r) (H:ah) :At 213 [.d (Sl.d 6 aO.c w0 g),.d (Sl.d 6 aO.c j f)] H (RT (.a (.d (.bool r))) H):=by
 unfold yX BW at b;refine AC.oW 20 [.tmp 4] Tryz.call213 Tryz.func213 ?_;refine Y5 ?_;refine aV aO.c g fun m=>Y1 ?_;refine aV aO.c f fun p=>Y4 ?_;obtain⟨q,k,b⟩:=dV b;refine fV 11 12 rfl rfl rfl rfl rfl rfl (fun hC=>M4 (k hC)) ?_;refine Y4 ?_;obtain⟨s,l,b⟩:=dV b;refine fV 16 17 rfl rfl rfl rfl rfl rfl (fun hC=>M4 (l hC)) ?_;refine Y3 ?_;exact rt b
def GL (kk:Bool->Option Unit)  :Option Unit:=kk false
def GM (b:Nat) (f:Nat->Option Unit) :Option Unit:=f (b+1)
def vF (v:Z5) (b:Z4) (kk:Bool->Option Unit) (k:Bool) (m:Bool) (f:(Sl Z6)) (p:Nat) (g:Z6) (q:Nat->Option Unit) (r:Z5->Z4->(Bool->Option Unit)->Option Unit):Nat->Nat->Option Unit
 | 0,_=>none
 | w+1,j=>bif (decide (((j:Nat):Int)<((f.l.length:Nat):Int))) then((f.l[j]?).bind fun s=>(pe g.eD).bind fun t=>(pe s.eD).bind fun u=>nN (((t==u))) (r v (Z4.mk g s (b.jN||(((!(b.Fx.er==b.Fy.er))&&k)&&m)))) false fun y=>bif (((t==u))&&y) then(kk true) else((vF v b kk k m f p g q r w) (j+1))) else(GM p q )
def rj (q:Z5) (j:Z4) (kk:Bool->Option Unit) (k:Bool) (m:Bool) (b:(Sl Z6)) (f:(Sl Z6)) (p:Z5->Z4->(Bool->Option Unit)->Option Unit):Nat->Nat->Option Unit
 | 0,_=>none
 | r+1,g=>bif (decide (((g:Nat):Int)<((b.l.length:Nat):Int))) then((b.l[g]?).bind fun s=>vF q j kk k m f g s ((rj q j kk k m b f p r)) p (f.l.length+1) 0) else(GL kk  )
mutual
def j9:Nat->Z5->Z4->(Bool->Option Unit)->Option Unit
 | 0,_,_,_=>none
 | n+1,f,b,kk=>Option.bind ((tD n) f b fun _=>some ()) fun _=>(kk true).bind fun _=>kk false
def tD:Nat->Z5->Z4->(Bool->Option Unit)->Option Unit
 | 0,_,_,_=>none
 | n+1,f,b,kk=>(zN f.lB b.Fx.er b.Fx.eD.aa).bind fun j=>(zN f.lB b.Fy.er b.Fy.eD.aa).bind fun k=>bif ((!j.2)||(!k.2)) then(kk false) else((BX f j.1 k.1).bind fun q=>bif (!q) then(kk true) else(a_ ((!b.jN&&(!(b.Fx.er==b.Fy.er)))) (vE f b.Fx.er) false fun g=>a_ ((!b.jN&&((!(b.Fx.er==b.Fy.er))&&g))) (vE f b.Fy.er) false fun m=>a_ (((!(b.jN||(((!(b.Fx.er==b.Fy.er))&&g)&&m)))&&!(!(b.Fx.eD.aa==b.Fy.eD.aa)))) (yX b.Fx.eD.aG b.Fy.eD.aG) false fun r=>bif ((!(b.jN||(((!(b.Fx.er==b.Fy.er))&&g)&&m)))&&((!(b.Fx.eD.aa==b.Fy.eD.aa))||(!r))) then(kk true) else((ri f b.Fx.eD.aK j.1.aa).bind fun p=>(ri f b.Fy.eD.aK k.1.aa).bind fun s=>rj f b kk g m p s (j9 n) (p.l.length+1) 0)))
end
def CT (n:Nat):Prop:=∀{a0:Z5}{b:Z4}{kk:(Bool->Option Unit)}   {r:Unit},j9 n a0 b kk=some r->∀(H:ah) (g:H gK=some gN),At 139 [.d (.view ((Z5.c gK) a0)),.agg (Z4.c b)] H fun v h'=>(∃x,(∃f,x=.d (.bool f)/\kk f=some r)/\v=.a x)/\h'=H
def CU (n:Nat):Prop:=∀{a0:Z5}{b:Z4}{kk:(Bool->Option Unit)}   {r:Unit},tD n a0 b kk=some r->∀(H:ah) (g:H gK=some gN),At 176 [.d (.view ((Z5.c gK) a0)),.agg (Z4.c b)] H fun v h'=>(∃x,(∃f,x=.d (.bool f)/\kk f=some r)/\v=.a x)/\h'=H
theorem Xq (n:Nat) (t:CT (ak:=ak) (gK:=gK) n) (l:CU (ak:=ak) (gK:=gK) n):CT (ak:=ak) (gK:=gK) (n+1):=by
 intro E m kk   r f H g;rw [j9] at f;refine AC.oW 32 [.tmp 4] Tryz.call139 Tryz.func139 ?_;obtain⟨u,p,f⟩:=bO f;obtain⟨_,gt,f⟩:=bO f;have hk:∀b,kk b=some r:=fun b=>by cases b; exact f; exact gt
 have j:nM Tryz.prog 193 146 9 144 61 4:=⟨rfl,Tryz.stoodInHeld193,rfl,rfl,Tryz.stoodInHeld146,rfl,rfl,rfl,⟨_,rfl,by decide⟩,rfl,⟨_,rfl,rfl⟩⟩;have k:KD (Z4.c m):=⟨_,_,_,_,_,_,_,rfl⟩;refine Y4 ?_;refine ar fun v q=>Y2 ?_;refine aH.s0 (cW rfl) rfl ?_;refine Y3 ?_;refine aH.s0 (PA (TK rfl) rfl j (TK rfl) rfl rfl rfl k g) rfl ?_;refine Y1 ?_
 refine aH.s0 (IN (fun y=>∃n,y=.d (.int .i64 n)) rfl (fun xs ⟨n,b,e⟩=>⟨_,by rw [e]; rfl,n,rfl⟩)) rfl ?_;refine aH.s0 (IN (fun y=>∃b,y=.d (.bool b)) rfl (fun xs ⟨n,b,e⟩=>⟨_,by rw [e]; rfl,b,rfl⟩)) rfl ?_;refine Y3 ?_;refine ag.kD 5 rfl ?_;rintro _ ⟨w,rfl⟩;refine ag.kD 6 rfl ?_;rintro _ ⟨z,rfl⟩;refine Y3 ?_;refine ag.cond rfl (fun _=>?_) (fun _=>?_)
 ·refine Y5 ?_;refine ry ?_;exact bR.cK H rfl ⟨⟨_,⟨_,rfl,hk _⟩,rfl⟩,rfl⟩ (fun _ _ h=>h)
 refine sk q (Y2 ?_);refine aH.s0 (cW rfl) rfl ?_;refine Y3 ?_;refine aH.eW (IV (TK rfl) rfl j rfl rfl k rfl g rfl) rfl rfl ?_;refine Y1 ?_;refine ar fun B s=>Y3 ?_;refine s0 (eV rfl rfl (AC.sm (l p _ g))) rfl ?_;refine aI.kD 26 rfl ?_;rintro _ ⟨C,rfl,_⟩;refine Y1 ?_;refine ag.cond rfl (fun _=>?_) (fun _=>?_)
 ·refine Y2 ?_;refine aH.s0 (cW rfl) rfl ?_;refine Y3 ?_;refine aH.eW (IV (TK rfl) rfl j rfl rfl k rfl g rfl) rfl rfl ?_;refine Y4 ?_;refine ry ?_;exact bR.cK H rfl ⟨⟨_,⟨_,rfl,gt⟩,rfl⟩,rfl⟩ (fun _ _ h=>h)
 refine sk s (Y3 ?_);refine ry ?_;exact bR.cK H rfl ⟨⟨_,⟨_,rfl,f⟩,rfl⟩,rfl⟩ (fun _ _ h=>h)
theorem Xr (n:Nat) (B:CT (ak:=ak) (gK:=gK) n) (ap:CU (ak:=ak) (gK:=gK) n):CU (ak:=ak) (gK:=gK) (n+1):=by
 intro t m kk   r b H av;rw [tD] at b;refine AC.oW 168 [.tmp 4] Tryz.call176 Tryz.func176 ?_;refine Y6 ?_;refine aH.s0 (cW rfl) rfl ?_;refine Y8 ?_;refine aH.s0 (cW rfl) rfl ?_;refine Y2 ?_;obtain⟨aw,C,b⟩:=bO b;refine ck rfl rfl (CO C) (Y7 ?_);refine bl 5 _ rfl (kl [0,3,6]) ?_;refine Y2 ?_;refine aH.s0 (cW rfl) rfl ?_;refine Y8 ?_;refine aH.s0 (cW rfl) rfl ?_;refine Y2 ?_
 obtain⟨ax,E,b⟩:=bO b;refine ck rfl rfl (CO E) (Y7 ?_);refine bl 7 _ rfl (kl [0,3,5,6,8]) ?_;refine ar fun ay F=>Y5 ?_;refine Gk 53 ?_;refine Y2 ?_;refine cE b (fun G b=>?_) (fun G b=>?_)
 ·refine Y3 ?_;refine ry ?_;refine bR.cK H rfl ⟨⟨_,⟨_,rfl,b⟩,rfl⟩,rfl⟩ ?_;exact(fun _ _ h=>h)
 refine sk F (ar fun az I=>Y4 ?_);obtain⟨aA,J,b⟩:=bO b;refine Sc rfl rfl (Xe J) (Y2 ?_);refine cE b (fun K b=>?_) (fun K b=>?_)
 ·refine Y3 ?_;refine ry ?_;refine bR.cK H rfl ⟨⟨_,⟨_,rfl,b⟩,rfl⟩,rfl⟩ ?_;exact(fun _ _ h=>h)
 refine sk I (Y5 ?_);refine Gk 64 ?_;refine Gk 65 ?_;refine Y1 ?_;refine Gk 67 ?_;refine Gk 68 ?_;refine G2 66 69 rfl rfl BS ?_;refine Gk 70 ?_;refine Y2 ?_;refine Gk 73 ?_;refine Gk 74 ?_;obtain⟨p,L,b⟩:=gO b;refine fV 72 75 rfl rfl rfl rfl rfl rfl (fun hC=>MY (L hC)) ?_;refine bE 71 rfl (fun hC=>f_ rfl rfl rfl) ?_;refine Gk 77 ?_;refine Y2 ?_;refine Gk 80 ?_;refine Gk 81 ?_
 obtain⟨q,M,b⟩:=gO b;refine fV 79 82 rfl rfl rfl rfl rfl rfl (fun hC=>MY (M hC)) ?_;refine bE 78 rfl (fun hC=>f_ rfl rfl rfl) ?_;refine Y3 ?_;refine ar fun aB N=>Y5 ?_;refine cG 89 ?_;refine cG 90 ?_;refine fL 91 rfl (fun hC=>cW rfl) ?_;refine cG 92 ?_;refine cG 93 ?_;refine Y1 ?_;refine cG 95 ?_;refine cG 96 ?_;refine fL 97 rfl (fun hC=>cW rfl) ?_;refine cG 98 ?_
 refine cG 99 ?_;refine D3 94 100 rfl rfl BS ?_;refine cG 101 ?_;refine Y1 ?_;refine cG 103 ?_;refine cG 104 ?_;refine fL 105 rfl (fun hC=>cW rfl) ?_;refine cG 106 ?_;refine cG 107 ?_;refine Y1 ?_;refine cG 109 ?_;refine cG 110 ?_;refine fL 111 rfl (fun hC=>cW rfl) ?_;refine cG 112 ?_;refine cG 113 ?_;obtain⟨aC,O,b⟩:=gO b
 refine nP 108 114 rfl rfl rfl rfl rfl rfl (fun hC=>Xp (O hC)) ?_;refine cG 115 ?_;refine fL 102 rfl (fun hC=>kB rfl rfl rfl) ?_;refine Y2 ?_;refine cE b (fun P b=>?_) (fun P b=>?_)
 ·refine Y3 ?_;refine ry ?_;refine bR.cK H rfl ⟨⟨_,⟨_,rfl,b⟩,rfl⟩,rfl⟩ ?_;exact(fun _ _ h=>h)
 refine sk N (Y5 ?_);refine aH.s0 (cW rfl) rfl ?_;refine Y1 ?_;refine aH.s0 (cA (TK rfl) rfl rfl (congrArg (fun x=>some (A.d x)) (ai.gD _))) rfl ?_;refine Y2 ?_;obtain⟨g,Q,b⟩:=bO b;refine ck rfl rfl (GG Q) (Y4 ?_);refine aH.s0 (cW rfl) rfl ?_;refine Y1 ?_;refine aH.s0 (cA (TK rfl) rfl rfl (congrArg (fun x=>some (A.d x)) (ai.gD _))) rfl ?_;refine Y2 ?_
 obtain⟨f,R,b⟩:=bO b;refine ck rfl rfl (GG R) (Y3 ?_);refine aN kN (fun(z:Unit)=>[]) (fun z=>H) (fun z=>GL kk =some r) ?_ ?_
 ·intro aD U;refine Y2 ?_;refine aV Z6.c g fun aE=>Y3 ?_;refine bx (tl [0,9,11,139,140]) (fun(z:Nat×Nat)=>[(141,vi z.2)]) (fun z=>H) (fun z=>z.1) (fun z=>rj t m kk p q g f (j9 n) z.1 z.2=some r) ((g.l.length+1),0) b wA ?_;rintro ⟨j,s⟩ b aF W;try dsimp only at b
  cases j with
  | zero=>cases b
  | succ j =>
    rw [rj] at b;refine Y3 ?_;refine ar fun aG X=>?_;refine cE b (fun u b=>?_) (fun u b=>?_)
    ·try dsimp only at u
     have aJ:=oD u;refine sk X (aN (tl [0,9,11,139,140,141]) (fun(z:Unit)=>[]) (fun z=>H) (fun z=>GM s ((rj t m kk p q g f (j9 n) j)) =some r) ?_ ?_)
     ·intro aK Y;refine Y2 ?_;obtain⟨Z,aa,b⟩:=bO b;refine S (ix Z6.c s aa) (Y4 ?_);refine bl 13 _ rfl (kl [0,9,11,139,140,141]) ?_;refine Y2 ?_;refine aV Z6.c f fun aL=>Y3 ?_
      refine bx (tl [0,9,11,13,139,140,141,145,146]) (fun(z:Nat×Nat)=>[(147,vi z.2)]) (fun z=>H) (fun z=>z.1) (fun z=>vF t m kk p q f s Z ((rj t m kk p q g f (j9 n) j)) (j9 n) z.1 z.2=some r) ((f.l.length+1),0) b wA ?_;rintro ⟨v,y⟩ b aM ab;try dsimp only at b
      cases v with
      | zero=>cases b
      | succ v =>
        rw [vF] at b;refine Y3 ?_;refine ar fun aO ad=>?_;refine cE b (fun w b=>?_) (fun w b=>?_)
        ·try dsimp only at w
         have aP:=oD w;refine sk ad (ar fun aQ ae=>Y2 ?_);obtain⟨aR,af,b⟩:=bO b;refine S (ix Z6.c y af) (Y4 ?_);refine bl 15 _ rfl (kl [0,9,11,13,139,140,141,145,146,147]) ?_;refine Y3 ?_;obtain⟨aS,aj,b⟩:=bO b;refine ck rfl rfl (wE aj) (Y2 ?_);obtain⟨aT,al,b⟩:=bO b;refine ck rfl rfl (wE al) (Y6 ?_)
         refine aH.gC rfl rfl (fun hC=>fm (k:=160) rfl (fm (k:=161) rfl (fm (k:=162) rfl (build Tryz.br rfl rfl rfl rfl rfl rfl)))) rfl ?_;refine nQ 159 163 rfl rfl (fun hC=>eV rfl rfl (AC.sm (B (AD b hC) _ au))) ?_;refine aH.s0 (Pv rfl rfl (fun e=>by rw [e]; rfl) rfl) rfl ?_;refine Y1 ?_;refine ag.PC 165 rfl ?_;intro aU am an;replace b:=AE b am an
         refine cE b (fun ao b=>?_) (fun ao b=>?_)
         ·refine Y3 ?_;refine ry ?_;refine bR.cK H rfl ⟨⟨_,⟨_,rfl,b⟩,rfl⟩,rfl⟩ ?_;exact(fun _ _ h=>h)
         refine sk ae (Y4 ?_);exact ab _ (v,(y+1)) wA b (nS _)
        refine ag.exit ?_;exact Y _ () wA b
     rintro _ b;try dsimp only at b
     unfold GM at b;refine Y4 ?_;exact W _ (j,(s+1)) wA b (nS _)
    refine ag.exit ?_;exact U _ () wA b
 rintro _ b;try dsimp only at b
 unfold GL at b;refine Y3 ?_;refine ry ?_;refine bR.cK H rfl ⟨⟨_,⟨_,rfl,b⟩,rfl⟩,rfl⟩ ?_;exact(fun _ _ h=>h)
theorem zR:∀(n:Nat),(CT (ak:=ak) (gK:=gK) n)/\(CU (ak:=ak) (gK:=gK) n)
 | 0=>⟨fun b=>by first|cases b|(rw [j9] at b; cases b),fun b=>by first|cases b|(rw [tD] at b; cases b)⟩
 | n+1=>⟨Xq n (zR n).1 (zR n).2,Xr n (zR n).1 (zR n).2⟩
def B0 (a0:Z5) (b:Z4) (kk:(Bool->Option Unit)):Option Unit:=j9 F0 a0 b kk
theorem Xs {g b kk r}(j:B0 g b kk=some r) (H:ah) (k:H gK=some gN):At 139 [.d (.view ((Z5.c gK) g)),.agg (Z4.c b)] H fun v h'=>(∃x,(∃f,x=.d (.bool f)/\kk f=some r)/\v=.a x)/\h'=H:=(zR F0).1 j H k
def GN (kk:Bool->Option Unit)  :Option Unit:=kk false
def GO (b:Nat) (f:Nat->Option Unit) :Option Unit:=f (b+1)
def tE (s:Z5) (k:(Z6->Option Bool)) (kk:Bool->Option Unit) (m:Nat) (b:Z6) (f:(Sl Z6)) (p:Nat->Option Unit):Nat->Nat->Option Unit
 | 0,_=>none
 | t+1,g=>bif (decide (((g:Nat):Int)<((f.l.length:Nat):Int))) then((f.l[g]?).bind fun q=>(k b).bind fun j=>a_ (j) (k q) false fun r=>nN ((j&&r)) (B0 s (Z4.mk b q false)) false fun u=>bif ((j&&r)&&u) then(kk true) else((tE s k kk m b f p t) (g+1))) else(GO m p )
def rm (j:Z5) (b:(Sl Z6)) (k:(Z6->Option Bool)) (kk:Bool->Option Unit) :Nat->Nat->Option Unit
 | 0,_=>none
 | m+1,f=>bif (decide (((f:Nat):Int)<((b.l.length:Nat):Int))) then((b.l[f]?).bind fun p=>(js b (some (((f+1):Nat):Int)) none).bind fun g=>tE j k kk f p g ((rm j b k kk m)) (g.l.length+1) 0) else(GN kk  )
def B3 (f:Z5) (b:(Sl Z6)) (g:(Z6->Option Bool)) (kk:(Bool->Option Unit)):Option Unit:=rm f b g kk (b.l.length+1) 0
theorem Xt {j g k kk F y r}(b:B3 j g k kk=some r) (H:ah) (B:∀C r,k C=some r->iL Tryz.prog y [.agg (Z6.c C)] H (RT (.a (.d (.bool r))) H)) (aa:H gK=some gN):At 93 [.d (.view ((Z5.c gK) j)),.d (Sl.d 2 Z6.c F g),.d y] H fun v h'=>(∃x,(∃q,x=.d (.bool q)/\kk q=some r)/\v=.a x)/\h'=H:=by
 unfold B3 at b;refine AC.oW 44 [.tmp 6] Tryz.call93 Tryz.func93 ?_;refine Y3 ?_;refine aN kN (fun(z:Unit)=>[]) (fun z=>H) (fun z=>GN kk =some r) ?_ ?_
 ·intro ab G;refine Y2 ?_;refine aV Z6.c g fun ad=>Y3 ?_;refine bx (tl [0,1,2,11,12]) (fun(z:Nat×Nat)=>[(13,vi z.2)]) (fun z=>H) (fun z=>z.1) (fun z=>rm j g k kk z.1 z.2=some r) ((g.l.length+1),0) b wA ?_;rintro ⟨m,p⟩ b ae I;try dsimp only at b
  cases m with
  | zero=>cases b
  | succ m =>
    rw [rm] at b;refine Y3 ?_;refine ar fun af J=>?_;refine cE b (fun s b=>?_) (fun s b=>?_)
    ·try dsimp only at s
     have ai:=oD s;refine sk J (aN (tl [0,1,2,11,12,13]) (fun(z:Unit)=>[]) (fun z=>H) (fun z=>GO p ((rm j g k kk m)) =some r) ?_ ?_)
     ·intro aj K;refine Y3 ?_;obtain⟨L,M,b⟩:=bO b;refine S (ix Z6.c p M) (Y5 ?_);refine bl 8 _ rfl (kl [0,1,2,7,11,12,13]) ?_;refine Y4 ?_;obtain⟨t,N,b⟩:=bO b;refine s0 (jg (f:=Z6.c) (l:=(some (((p+1):Nat):Int))) (r:=none) (TK rfl) rfl (TK rfl) rfl rfl rfl trivial N) rfl ?_;refine aV Z6.c t fun ak=>Y3 ?_
      refine bx (tl [0,1,2,8,11,12,13,21,22]) (fun(z:Nat×Nat)=>[(23,vi z.2)]) (fun z=>H) (fun z=>z.1) (fun z=>tE j k kk p L t ((rm j g k kk m)) z.1 z.2=some r) ((t.l.length+1),0) b wA ?_;rintro ⟨u,E⟩ b al O;try dsimp only at b
      cases u with
      | zero=>cases b
      | succ u =>
        rw [tE] at b;refine Y3 ?_;refine ar fun am P=>?_;refine cE b (fun w b=>?_) (fun w b=>?_)
        ·try dsimp only at w
         have an:=oD w;refine sk P (ar fun ao Q=>Y2 ?_);obtain⟨ap,R,b⟩:=bO b;refine S (ix Z6.c E R) (Y4 ?_);refine bl 10 _ rfl (kl [0,1,2,8,11,12,13,21,22,23]) ?_;refine Y3 ?_;obtain⟨av,U,b⟩:=bO b;refine s0 (mA rfl rfl (B _ _ U)) rfl ?_;refine Y3 ?_;obtain⟨aw,W,b⟩:=gO b;refine fc 31 32 rfl rfl (fun hC=>mA rfl rfl (B _ _ (W hC))) ?_;refine Y5 ?_
         refine G2 37 38 rfl rfl BU ?_;refine fc 36 39 rfl rfl (fun hC=>eV rfl rfl (AC.sm (Xs (AD b hC) _ au))) ?_;refine aI.DX 40 (fun q=>.bool q) false rfl ?_;intro ax X Y;replace b:=AE b X Y;refine Y2 ?_;refine cE b (fun Z b=>?_) (fun Z b=>?_)
         ·refine Y3 ?_;refine ry ?_;refine bR.cK H rfl ⟨⟨_,⟨_,rfl,b⟩,rfl⟩,rfl⟩ ?_;exact(fun _ _ h=>h)
         refine sk Q (Y4 ?_);exact O _ (u,(E+1)) wA b (nS _)
        refine ag.exit ?_;exact K _ () wA b
     rintro _ b;try dsimp only at b
     unfold GO at b;refine Y4 ?_;exact I _ (m,(p+1)) wA b (nS _)
    refine ag.exit ?_;exact G _ () wA b
 rintro _ b;try dsimp only at b
 unfold GN at b;refine Y3 ?_;refine ry ?_;refine bR.cK H rfl ⟨⟨_,⟨_,rfl,b⟩,rfl⟩,rfl⟩ ?_;exact(fun _ _ h=>h)
def B6 (g:Z5) (b:Z6):Option Bs:=(sI g.lB b.er b.eD.aa).bind fun f=>bif (!f.2) then(some ([]:Bs)) else(some f.1.aa)
def B5 (f:Z5) (b:Z6):Option Bs:=B6 f b
theorem Xu {g f r}(b:B5 g f=some r) (H:ah) :At 140 [.d (.view ((Z5.c gK) g)),.agg (Z6.c f)] H (RT (.a (.d (.str r))) H):=by
 unfold B5 B6 at b;refine AC.oW 26 [.tmp 4] Tryz.call140 Tryz.func140 ?_;refine Y6 ?_;refine aH.s0 (cW rfl) rfl ?_;refine Y6 ?_;refine aH.s0 (cW rfl) rfl ?_;refine Y2 ?_;obtain⟨m,j,b⟩:=bz b;refine ck rfl rfl (CO j) (Y7 ?_);refine bl 5 _ rfl (kl [6]) ?_;refine ar fun p k=>Y4 ?_;refine cE b (fun l b=>?_) (fun l b=>?_)
 ·refine Y3 ?_;exact rt b
 refine sk k (Y5 ?_);exact rt b
def GP (l:Z5) (b:(Sl ai)) (m:Bs) (p:Bs) (kk:(Sl Z9)->Option Unit) (f:Z5->(Sl ai)->Bs->Bs->((Sl Z9)->Option Unit)->Option Unit) (g:(Sl Z9)):Option Unit:=f l b m p fun j=>(bq 24 g j).bind fun k=>kk k
def tF (b:Nat) (f:(Sl Z9)->Nat->Option Unit) (g:(Sl Z9)):Option Unit:=f g (b+1)
def mb (g:Z5) (k:(Sl ai)) (t:Bs) (j:Bs) (kk:(Sl Z9)->Option Unit) (f:(Sl Z6)) (m:Z5->(Sl ai)->Bs->Bs->((Sl Z9)->Option Unit)->Option Unit):Nat->(Sl Z9)->Nat->Option Unit
 | 0,_,_=>none
 | u+1,p,b=>bif (decide (((b:Nat):Int)<((f.l.length:Nat):Int))) then((f.l[b]?).bind fun q=>(vG f (fun r=>yZ r q)).bind fun s=>a_ ((decide (s=((b:Nat):Int)))) (js f (some ((b:Nat):Int)) none) (Sl.nil:Sl Z6) fun v=>nN ((decide (s=((b:Nat):Int)))) (B3 g v (fun r=>yZ r q)) false fun w=>bif ((decide (s=((b:Nat):Int)))&&w) then((cC j ([47]:Bs)).bind fun y=>(pe q.eD).bind fun z=>(cC y z).bind fun B=>(bq 24 p (⟨false,[(Z9.mk 28 B)]⟩:Sl Z9)).bind fun C=>tF b ((mb g k t j kk f m u)) C) else(tF b ((mb g k t j kk f m u)) p)) else(GP g k t j kk m p)
def GQ (kk:(Sl Z9)->Option Unit)  (b:(Sl Z9)):Option Unit:=kk b
def vH (b:Nat) (f:(Sl Z9)->Nat->Option Unit) (g:(Sl Z9)):Option Unit:=f g (b+1)
def vI (q:Z5) (r:Bs) (b:(Sl Z9)) (f:Nat) (g:ai) (j:(Sl Z9)->Nat->Option Unit) (k:Z5->(Sl ai)->Bs->Bs->((Sl Z9)->Option Unit)->Option Unit) (l:Bs):Option Unit:=k q g.aK l r fun m=>(bq 24 b m).bind fun p=>vH f j p
def kg (f:Z5) (j:(Sl ai)) (p:Bs) (g:Bs) (kk:(Sl Z9)->Option Unit) (q:Z5->(Sl ai)->Bs->Bs->((Sl Z9)->Option Unit)->Option Unit) (k:Z5->(Sl ai)->Bs->Bs->((Sl Z9)->Option Unit)->Option Unit):Nat->(Sl Z9)->Nat->Option Unit
 | 0,_,_=>none
 | s+1,r,m=>bif (decide (((m:Nat):Int)<((j.l.length:Nat):Int))) then((j.l[m]?).bind fun b=>bif (decide (b.aj=(3:Int))) then(bif (!(b.b9==([]:Bs))) then(vI f g r m b ((kg f j p g kk q k s)) k b.b9) else(vI f g r m b ((kg f j p g kk q k s)) k p)) else(bif (decide (b.aj=(2:Int))) then(vH m ((kg f j p g kk q k s)) r) else((B5 f (Z6.mk p b)).bind fun t=>(cC g ([47]:Bs)).bind fun u=>(pe b).bind fun v=>(cC u v).bind fun w=>q f b.aK t w fun y=>(bq 24 r y).bind fun z=>vH m ((kg f j p g kk q k s)) z))) else(GQ kk  r)
mutual
def j_:Nat->Z5->(Sl ai)->Bs->Bs->((Sl Z9)->Option Unit)->Option Unit
 | 0,_,_,_,_,_=>none
 | n+1,g,b,j,k,kk=>(ri g b j).bind fun f=>mb g b j k kk f (gy n) (f.l.length+1) (Sl.nil:Sl Z9) 0
def gy:Nat->Z5->(Sl ai)->Bs->Bs->((Sl Z9)->Option Unit)->Option Unit
 | 0,_,_,_,_,_=>none
 | n+1,f,b,g,j,kk=>kg f b g j kk (j_ n) (gy n) (b.l.length+1) (Sl.nil:Sl Z9) 0
end
def CV (n:Nat):Prop:=∀{a0:Z5}{b:(Sl ai)}{a2:Bs}{a3:Bs}{kk:((Sl Z9)->Option Unit)}{g:Option Nat}  {r:Unit},j_ n a0 b a2 a3 kk=some r->∀(H:ah) (j:H gK=some gN),At 48 [.d (.view ((Z5.c gK) a0)),.d (Sl.d 7 ai.c g b),.d (.str a2),.d (.str a3)] H fun v h'=>(∃x,(∃f,x=.d (Sl.d 2 Z9.c none f)/\kk f=some r)/\v=.a x)/\h'=H
def CW (n:Nat):Prop:=∀{a0:Z5}{b:(Sl ai)}{a2:Bs}{a3:Bs}{kk:((Sl Z9)->Option Unit)}{g:Option Nat}  {r:Unit},gy n a0 b a2 a3 kk=some r->∀(H:ah) (j:H gK=some gN),At 94 [.d (.view ((Z5.c gK) a0)),.d (Sl.d 7 ai.c g b),.d (.str a2),.d (.str a3)] H fun v h'=>(∃x,(∃f,x=.d (Sl.d 2 Z9.c none f)/\kk f=some r)/\v=.a x)/\h'=H
theorem Xv (n:Nat) (ab:CV (ak:=ak) (gK:=gK) n) (C:CW (ak:=ak) (gK:=gK) n):CV (ak:=ak) (gK:=gK) (n+1):=by
 intro t q u v kk ad  r b H ae;rw [j_] at b;refine AC.oW 57 [.tmp 8] Tryz.call48 Tryz.func48 ?_;refine ag.tok 2 fun g af=>?_;have ai:g≠gK:=fun E=>by subst E; simp_all
 refine Y1 ?_;refine s0 (dM (k':=2) rfl) rfl ?_;refine Y5 ?_;obtain⟨j,F,b⟩:=bO b;refine Sc rfl rfl (GG F) (Y5 ?_);refine ag.gv 10 2 g rfl au ?_;refine aN (tl [0,1,2,3]) (fun(z:(Sl Z9))=>[(10,.a (.d (Sl.d 2 Z9.c (some g) z)))]) (fun z=>(tS H g 2 z)) (fun z=>GP t q u v kk (gy n) z=some r) ?_ ?_
 ·intro aj G;refine Y2 ?_;refine aV Z6.c j fun al=>Y3 ?_;refine bx (tl [0,1,2,3,9,18,19]) (fun(z:Nat×(Sl Z9)×Nat)=>[(10,.a (.d (Sl.d 2 Z9.c (some g) z.2.1))),(20,vi z.2.2)]) (fun z=>(tS H g 2 z.2.1)) (fun z=>z.1) (fun z=>mb t q u v kk j (gy n) z.1 z.2.1 z.2.2=some r) ((j.l.length+1),(Sl.nil:Sl Z9),0) b wA ?_;rintro ⟨m,w,p⟩ b an I;try dsimp only at b
  cases m with
  | zero=>cases b
  | succ m =>
    rw [mb] at b;refine Y3 ?_;refine ar fun ao J=>?_;refine cE b (fun s b=>?_) (fun s b=>?_)
    ·try dsimp only at s
     have ap:=oD s;refine sk J (aN (tl [0,1,2,3,9,18,19,20]) (fun(z:(Sl Z9))=>[(10,.a (.d (Sl.d 2 Z9.c (some g) z)))]) (fun z=>(tS H g 2 z)) (fun z=>tF p ((mb t q u v kk j (gy n) m)) z=some r) ?_ ?_)
     ·intro av y;refine Y3 ?_;obtain⟨aw,K,b⟩:=bO b;refine S (ix Z6.c p K) (Y5 ?_);refine bl 12 _ rfl (kl [0,1,2,3,9,10,11,18,19,20]) ?_;refine Y1 ?_;refine s0 (makeFunc rfl) rfl ?_;refine Y5 ?_;obtain⟨ax,L,b⟩:=bO b;refine s0 (fT rfl rfl (fun H=>Xc L H (fun _ _ hx=>MW hx _))) rfl ?_;refine Y6 ?_;obtain⟨ay,M,b⟩:=gO b
      refine fc 33 34 rfl rfl (fun hC=>jg (f:=Z6.c) (l:=(some ((p:Nat):Int))) (r:=none) (TK rfl) rfl (TK rfl) rfl rfl rfl trivial (M hC)) ?_;refine Y1 ?_;refine gC rfl rfl (fun hC=>fm (k:=32) rfl (fm (k:=35) rfl (fm (k:=36) rfl (eV rfl rfl (AC.sm (Xt (AD b hC) _ (fun _ _ hx=>MW hx _) au)))))) rfl ?_;refine aI.DX 37 (fun N=>.bool N) false rfl ?_;intro az O P
      replace b:=AE b O P;refine Y2 ?_;refine cE b (fun Q b=>?_) (fun Q b=>?_)
      ·refine Y3 ?_;obtain⟨aA,R,b⟩:=bO b;refine S (eN R) (Y2 ?_);obtain⟨aB,U,b⟩:=bO b;refine Sc rfl rfl (wE U) ?_;obtain⟨aC,W,b⟩:=bO b;refine S (eN W) (Y2 ?_);obtain⟨B,X,b⟩:=bO b;refine SH (am Z9.c (TK rfl) rfl (TK rfl) (TK rfl) X) ?_;refine hq (tS H g 2 B) (Y2 ?_);exact y _ B wA b
      refine ag.skip ?_;exact y _ w wA b
     rintro Y b;try dsimp only at b
     unfold tF at b;refine Y4 ?_;exact I _ (m,Y,(p+1)) wA b (nS _)
    refine ag.exit ?_;exact G _ w wA b
 rintro aD b;try dsimp only at b
 unfold GP at b;refine Y6 ?_;refine s0 (eV rfl rfl (AC.sm (C b _ au))) rfl ?_;refine aI.kD 55 rfl ?_;rintro _ ⟨aE,rfl,b⟩;obtain⟨Z,aa,b⟩:=bO b;refine SH (am Z9.c (TK rfl) rfl (TK rfl) (TK rfl) aa) ?_;refine hq (tS H g 2 Z) (Y2 ?_);refine ag.eG 8 rfl ?_;refine ag.ret ?_;repeat (first|refine rP ?_|refine rQ ?_)
 refine bR.cK H rfl ⟨⟨_,⟨_,rfl,b⟩,rfl⟩,rfl⟩ ?_;exact sy
theorem Xw (n:Nat) (E:CV (ak:=ak) (gK:=gK) n) (F:CW (ak:=ak) (gK:=gK) n):CW (ak:=ak) (gK:=gK) (n+1):=by
 intro q j s t kk Z  r b H aa;rw [gy] at b;refine AC.oW 69 [.tmp 8] Tryz.call94 Tryz.func94 ?_;refine ag.tok 2 fun g ab=>?_;have ad:g≠gK:=fun G=>by subst G; simp_all
 refine Y1 ?_;refine s0 (dM (k':=2) rfl) rfl ?_;refine Y4 ?_;refine ag.gv 9 2 g rfl au ?_;refine aN kN (fun(z:(Sl Z9))=>[(9,.a (.d (Sl.d 2 Z9.c (some g) z)))]) (fun z=>(tS H g 2 z)) (fun z=>GQ kk z=some r) ?_ ?_
 ·intro ae I;refine Y2 ?_;refine aV ai.c j fun af=>Y3 ?_;refine bx (tl [0,1,2,3,14]) (fun(z:Nat×(Sl Z9)×Nat)=>[(9,.a (.d (Sl.d 2 Z9.c (some g) z.2.1))),(15,vi z.2.2)]) (fun z=>(tS H g 2 z.2.1)) (fun z=>z.1) (fun z=>kg q j s t kk (j_ n) (gy n) z.1 z.2.1 z.2.2=some r) ((j.l.length+1),(Sl.nil:Sl Z9),0) b wA ?_;rintro ⟨k,m,p⟩ b aj J;try dsimp only at b
  cases k with
  | zero=>cases b
  | succ k =>
    rw [kg] at b;refine Y3 ?_;refine ar fun al K=>?_;refine cE b (fun u b=>?_) (fun u b=>?_)
    ·try dsimp only at u
     have an:=oD u;refine sk K (aN (tl [0,1,2,3,14,15]) (fun(z:(Sl Z9))=>[(9,.a (.d (Sl.d 2 Z9.c (some g) z)))]) (fun z=>(tS H g 2 z)) (fun z=>vH p ((kg q j s t kk (j_ n) (gy n) k)) z=some r) ?_ ?_)
     ·intro ao v;refine Y8 ?_;obtain⟨w,L,b⟩:=bO b;refine S (ix ai.c p L) (Y4 ?_);refine s0 (cW rfl) rfl ?_;refine Y8 ?_;refine cE b (fun M b=>?_) (fun M b=>?_)
      ·refine Y4 ?_;refine aN (tl [0,1,2,3,9,11,14,15]) (fun(z:Bs)=>[(12,.a (.d (.str z)))]) (fun z=>(tS H g 2 m)) (fun z=>vI q t m p w ((kg q j s t kk (j_ n) (gy n) k)) (gy n) z=some r) ?_ ?_
       ·intro ap y;refine Y2 ?_;refine s0 (cW rfl) rfl ?_;refine Y4 ?_;refine cE b (fun N b=>?_) (fun N b=>?_)
        ·refine Y2 ?_;refine s0 (cW rfl) rfl ?_;refine Y4 ?_;exact y _ w.b9 wA b
        refine ag.skip ?_;exact y _ s wA b
       rintro av b;try dsimp only at b
       unfold vI at b;refine Y4 ?_;refine s0 (cW rfl) rfl ?_;refine Y1 ?_;refine s0 (cA (TK rfl) rfl rfl (congrArg (fun x=>some (A.d x)) (ai.gD _))) rfl ?_;refine Y2 ?_;refine s0 (eV rfl rfl (AC.sm (F b _ au))) rfl ?_;refine aI.kD 63 rfl ?_;rintro _ ⟨aw,rfl,b⟩;obtain⟨B,O,b⟩:=bO b;refine SH (am Z9.c (TK rfl) rfl (TK rfl) (TK rfl) O) ?_;refine hq (tS H g 2 B) (Y2 ?_)
       exact v _ B wA b
      refine Y4 ?_;refine cE b (fun P b=>?_) (fun P b=>?_)
      ·refine ag.skip ?_;exact v _ m wA b
      refine ag.IZ rfl ?_;refine dN.s0 lq rfl ?_;refine dN.s0 lq rfl ?_;refine dN.s0 lq rfl ?_;refine dN.s0 (cW rfl) rfl ?_;refine dN.s0 (xw (TK rfl) rfl rfl (TK rfl) rfl rfl) rfl ?_;refine dN.s0 (cA (TK rfl) rfl rfl (congrArg (fun x=>some (A.d x)) (ai.gD _))) rfl ?_;refine dN.s0 lq rfl ?_;refine dN.s0 lq rfl ?_;refine dN.s0 lq rfl ?_
      refine dN.s0 (build Tryz.br rfl rfl rfl rfl rfl rfl) rfl ?_;obtain⟨ax,Q,b⟩:=bO b;refine dN.s0 (fT rfl rfl (fun H=>Xu Q H)) rfl ?_;refine dN.s0 lq rfl ?_;obtain⟨ay,R,b⟩:=bO b;refine dN.s0 (xu rfl rfl R) rfl ?_;refine dN.s0 lq rfl ?_;obtain⟨az,U,b⟩:=bO b;refine dN.s0 (fT rfl rfl (fun H=>wE U H)) rfl ?_;obtain⟨aA,W,b⟩:=bO b
      refine dN.s0 (xu rfl rfl W) rfl ?_;refine dN.call rfl rfl (E b _ au) rfl (by decide +kernel) (by decide +kernel) ?_;rintro _ ⟨aB,rfl,b⟩;obtain⟨C,X,b⟩:=bO b;refine aH.sH (mw (f:=Z9.c) (TK rfl) rfl (TK rfl) (TK rfl) ⟨_,rfl⟩ rfl rfl (by decide) rfl rfl rfl rfl au rfl X) rfl ?_;refine aH.Dh (tS H g 2 C) ?_;refine Y2 ?_;exact v _ C wA b
     rintro Y b;try dsimp only at b
     unfold vH at b;refine Y4 ?_;exact J _ (k,Y,(p+1)) wA b (nS _)
    refine ag.exit ?_;exact I _ m wA b
 rintro aC b;try dsimp only at b
 unfold GQ at b;refine Y4 ?_;refine ag.eG 8 rfl ?_;refine ry ?_;refine bR.cK H rfl ⟨⟨_,⟨_,rfl,b⟩,rfl⟩,rfl⟩ ?_;exact sy
theorem zS:∀(n:Nat),(CV (ak:=ak) (gK:=gK) n)/\(CW (ak:=ak) (gK:=gK) n)
 | 0=>⟨fun b=>by first|cases b|(rw [j_] at b; cases b),fun b=>by first|cases b|(rw [gy] at b; cases b)⟩
 | n+1=>⟨Xv n (zS n).1 (zS n).2,Xw n (zS n).1 (zS n).2⟩
def Cb (a0:Z5) (b:(Sl ai)) (a2:Bs) (a3:Bs) (kk:((Sl Z9)->Option Unit)):Option Unit:=j_ F0 a0 b a2 a3 kk
theorem M5 {g b j k kk l r}(m:Cb g b j k kk=some r) (H:ah) (p:H gK=some gN):At 48 [.d (.view ((Z5.c gK) g)),.d (Sl.d 7 ai.c l b),.d (.str j),.d (.str k)] H fun v h'=>(∃x,(∃f,x=.d (Sl.d 2 Z9.c none f)/\kk f=some r)/\v=.a x)/\h'=H:=(zS F0).1 m H p
def GR (kk:(Sl Z9)->Option Unit)  (b:(Sl Z9)):Option Unit:=kk b
def vJ (k:an) (b:aR) (kk:(Sl Z9)->Option Unit) :Nat->(Sl Z9)->Nat->Option Unit
 | 0,_,_=>none
 | m+1,j,f=>bif (decide (((f:Nat):Int)<((b.aL.l.length:Nat):Int))) then((b.aL.l[f]?).bind fun g=>Cb (⟨k,b,()⟩:Z5) g.aK g.b9 g.aa fun p=>(bq 24 j p).bind fun q=>(vJ k b kk m) q (f+1)) else(GR kk  j)
def GS (g:an) (b:aR) (kk:(Sl Z9)->Option Unit)  (f:(Sl Z9)):Option Unit:=vJ g b kk (b.aL.l.length+1) f 0
def vK (j:an) (b:aR) (kk:(Sl Z9)->Option Unit) :Nat->(Sl Z9)->Nat->Option Unit
 | 0,_,_=>none
 | m+1,k,f=>bif (decide (((f:Nat):Int)<((b.bw.l.length:Nat):Int))) then((b.bw.l[f]?).bind fun g=>(Cc g.aj).bind fun p=>Cb (⟨j,b,()⟩:Z5) g.aK p g.aa fun q=>(bq 24 k q).bind fun r=>(vK j b kk m) r (f+1)) else(GS j b kk  k)
def Ca (f:an) (b:aR) (kk:((Sl Z9)->Option Unit)):Option Unit:=vK f b kk (b.bw.l.length+1) (Sl.nil:Sl Z9) 0
theorem Xx {k j kk r}(b:Ca k j kk=some r) (H:ah) :At 20 [.agg (an.c k),.agg (aR.c j)] H fun v h'=>(∃x,(∃t,x=.d (Sl.d 2 Z9.c none t)/\kk t=some r)/\v=.a x)/\h'=H:=by
 unfold Ca at b;refine AC.oW 52 [.tmp 4] Tryz.call20 Tryz.func20 ?_;refine ag.tok 2 fun g ab=>?_;refine Y3 ?_;refine s0 (dM (k':=2) rfl) rfl ?_;refine Y4 ?_;refine sE (dA.call rfl rfl (W8 _)) rfl (fun _ _ _ ⟨⟨gK,u,E,F⟩,G⟩=>?_);subst E F G;obtain⟨ad,u⟩:=ah.dP u;refine Y5 ?_;refine ag.gv 6 2 g rfl au ?_
 refine aN (tl [3,5]) (fun(z:(Sl Z9))=>[(6,.a (.d (Sl.d 2 Z9.c (some g) z)))]) (fun z=>((tS H g 2 z).set gK (some (gN)))) (fun z=>GS k j kk z=some r) ?_ ?_
 ·intro ae I;refine Y3 ?_;refine aV bJ.c j.bw fun af=>Y3 ?_;refine bx (tl [3,5,15,16]) (fun(z:Nat×(Sl Z9)×Nat)=>[(6,.a (.d (Sl.d 2 Z9.c (some g) z.2.1))),(17,vi z.2.2)]) (fun z=>((tS H g 2 z.2.1).set gK (some (gN)))) (fun z=>z.1) (fun z=>vK k j kk z.1 z.2.1 z.2.2=some r) ((j.bw.l.length+1),(Sl.nil:Sl Z9),0) b wA ?_;rintro ⟨m,J,w⟩ b ai K;try dsimp only at b
  cases m with
  | zero=>cases b
  | succ m =>
    rw [vK] at b;refine Y3 ?_;refine ar fun aj L=>?_;refine cE b (fun p b=>?_) (fun p b=>?_)
    ·try dsimp only at p
     have ak:=oD p;refine sk L (ar fun al M=>Y2 ?_);obtain⟨ao,N,b⟩:=bO b;refine S (ix bJ.c w N) (Y4 ?_);refine bl 8 _ rfl (kl [3,5,6,15,16,17]) ?_;refine ag.IZ rfl ?_;refine dN.s0 lq rfl ?_;refine dN.s0 lq rfl ?_;refine dN.s0 (xw (TK rfl) rfl rfl (TK rfl) rfl rfl) rfl ?_;refine dN.s0 (cA (TK rfl) rfl rfl rfl) rfl ?_
     refine dN.s0 (xw (TK rfl) rfl rfl (TK rfl) rfl rfl) rfl ?_;refine dN.s0 (cA (TK rfl) rfl rfl rfl) rfl ?_;obtain⟨ap,O,b⟩:=bO b;refine dN.s0 (fT rfl rfl (fun H=>zk O H)) rfl ?_;refine dN.s0 (xw (TK rfl) rfl rfl (TK rfl) rfl rfl) rfl ?_;refine dN.s0 (cA (TK rfl) rfl rfl rfl) rfl ?_
     refine dN.call rfl rfl (M5 b _ au) rfl (by decide +kernel) (by decide +kernel) ?_;rintro _ ⟨av,rfl,b⟩;obtain⟨y,P,b⟩:=bO b;refine aH.sH (mw (f:=Z9.c) (TK rfl) rfl (TK rfl) (TK rfl) ⟨_,rfl⟩ rfl rfl (by decide) rfl rfl rfl rfl au rfl P) rfl ?_;refine aH.Dh ((tS H g 2 y).set gK (some (gN))) ?_;refine Y2 ?_;refine M _ ?_;refine Y4 ?_
     exact K _ (m,y,(w+1)) wA b (nS _)
    refine ag.exit ?_;exact I _ J wA b
 rintro Q b;try dsimp only at b
 unfold GS at b;refine aN kN (fun(z:(Sl Z9))=>[(6,.a (.d (Sl.d 2 Z9.c (some g) z)))]) (fun z=>((tS H g 2 z).set gK (some (gN)))) (fun z=>GR kk z=some r) ?_ ?_
 ·intro aw R;refine Y3 ?_;refine aV aY.c j.aL fun ax=>Y3 ?_;refine bx (tl [5,34,35]) (fun(z:Nat×(Sl Z9)×Nat)=>[(6,.a (.d (Sl.d 2 Z9.c (some g) z.2.1))),(36,vi z.2.2)]) (fun z=>((tS H g 2 z.2.1).set gK (some (gN)))) (fun z=>z.1) (fun z=>vJ k j kk z.1 z.2.1 z.2.2=some r) ((j.aL.l.length+1),Q,0) b wA ?_;rintro ⟨q,U,B⟩ b ay W;try dsimp only at b
  cases q with
  | zero=>cases b
  | succ q =>
    rw [vJ] at b;refine Y3 ?_;refine ar fun az X=>?_;refine cE b (fun s b=>?_) (fun s b=>?_)
    ·try dsimp only at s
     have aA:=oD s;refine sk X (ar fun aB Y=>Y2 ?_);obtain⟨aC,Z,b⟩:=bO b;refine S (ix aY.c B Z) (Y4 ?_);refine bl 10 _ rfl (kl [5,6,34,35,36]) ?_;refine Y9 ?_;refine s0 (eV rfl rfl (AC.sm (M5 b _ au))) rfl ?_;refine aI.kD 48 rfl ?_;rintro _ ⟨aD,rfl,b⟩;obtain⟨C,aa,b⟩:=bO b;refine SH (am Z9.c (TK rfl) rfl (TK rfl) (TK rfl) aa) ?_
     refine hq ((tS H g 2 C).set gK (some (gN))) (Y2 ?_);refine Y _ ?_;refine Y4 ?_;exact W _ (q,C,(B+1)) wA b (nS _)
    refine ag.exit ?_;exact R _ U wA b
 rintro aE b;try dsimp only at b
 unfold GR at b;refine Y4 ?_;refine ag.eG 4 rfl ?_;refine ry ?_;refine bR.cK H rfl ⟨⟨_,⟨_,rfl,b⟩,rfl⟩,rfl⟩ ?_;exact sy
def wK  :Option Int:=some (-1:Int)
def wL (f:(Sl bN)) (g:(bN->Option Bool)) :Nat->Nat->Option Int
 | 0,_=>none
 | j+1,b=>bif (decide (((b:Nat):Int)<((f.l.length:Nat):Int))) then((f.l[b]?).bind fun k=>(g k).bind fun m=>bif m then(some ((b:Nat):Int)) else((wL f g j) (b+1))) else(wK   )
def wM (b:(Sl bN)) (f:(bN->Option Bool)):Option Int:=wL b f (b.l.length+1) 0
theorem M6 {f g w0 m r}(b:wM f g=some r) (H:ah) (s:∀p r,g p=some r->iL Tryz.prog m [.agg (bN.c p)] H (RT (.a (.d (.bool r))) H)):At 141 [.d (Sl.d 9 bN.c w0 f),.d m] H (RT (.a (.d (.int .i64 r))) H):=by
 unfold wM at b;refine AC.oW 19 [.tmp 4] Tryz.call141 Tryz.func141 ?_;refine Y3 ?_;refine aN kN (fun(z:Unit)=>[]) (fun z=>H) (fun z=>wK =some r) ?_ ?_
 ·intro E t;refine Y2 ?_;refine aV bN.c f fun F=>Y3 ?_;refine bx (tl [0,1,7]) (fun(z:Nat×Nat)=>[(8,vi z.2)]) (fun z=>H) (fun z=>z.1) (fun z=>wL f g z.1 z.2=some r) ((f.l.length+1),0) b wA ?_;rintro ⟨j,q⟩ b G u;try dsimp only at b
  cases j with
  | zero=>cases b
  | succ j =>
    rw [wL] at b;refine Y3 ?_;refine ar fun I v=>?_;refine cE b (fun k b=>?_) (fun k b=>?_)
    ·try dsimp only at k
     have J:=oD k;refine sk v (ar fun K w=>Y9 ?_);obtain⟨L,y,b⟩:=bO b;refine S (ix bN.c q y) (Y1 ?_);obtain⟨M,B,b⟩:=bO b;refine s0 (mA rfl rfl (s _ _ B)) rfl ?_;refine Y1 ?_;refine cE b (fun C b=>?_) (fun C b=>?_)
     ·refine Y4 ?_;exact rt b
     refine sk w (Y4 ?_);exact u _ (j,(q+1)) wA b (nS _)
    refine ag.exit ?_;exact t _ () wA b
 rintro _ b;try dsimp only at b
 unfold wK at b;refine Y3 ?_;exact rt b
def qV (f:(bN->Bool)):List bN->Nat->Unit ⊕ Int
 | [],b=>Sum.inl ()
 | g::j,b=>on (g) fun k=>on (f k) fun l=>bif l then(Sum.inr ((b:Nat):Int)) else(qV f (j) (b+1) )
theorem Xy {g:Sl bN}{k:bN->Bool}(j:(Unit ⊕ Int)->Option Int) (p:∀(f:Nat) (b:Nat),wK   =j (Sum.inl ())) (q:∀e:Int,some e=j (Sum.inr e)):∀(f:Nat) (b:Nat),(0<f/\g.l.length<b+f)->wL g (fun r=>some (k r)) f b=j (qV k (g.l.drop b) b ):=by
 intro f;induction f with
 | zero=>intro b hn; exact absurd hn.1 (by omega)
 | succ f s =>
  intro b hn;rw [wL];by_cases aJ:b<g.l.length
  ·obtain⟨t,m⟩:=Qa aJ;rw [Q.gP m,qV];refine QT aJ ?_;refine Q.ii m fun u v=>?_;refine Q.ii rfl fun w y=>?_;refine Q.nO ?_ ?_
   ·all_goals exact q _
   all_goals exact s _ ⟨by omega,by omega⟩
  rw [dL (by omega),qV];refine QF aJ ?_;exact p f b
def td (j:(Sl bN)) (b:(bN->Bool)):Int:=on (qV b j.l 0 ) fun f=>match f with|Sum.inl _=>(on (()) fun _=>(-1:Int))|Sum.inr g=>(g)
theorem M7 (a0:(Sl bN)) (b:(bN->Bool)):wM a0 (fun g=>some (b g))=some (td a0 b):=by
 unfold wM td;refine Q.jt fun j f=>?_;refine Xy  j ?_ ?_ _ _ ⟨Nat.succ_pos _,by omega⟩
 ·intro p q;refine Qe (f _) ?_;try dsimp only
  refine Q.jt fun k l=>?_;have m:wK  =k ():=by
   refine Qe (l _) ?_;unfold wK;all_goals rfl
  all_goals exact m
 intro r;refine Qe (f _) ?_;try dsimp only
 all_goals rfl
def zT (g:(Sl bN)) (b:(bN->Option Bool)):Option Bool:=(wM g b).bind fun f=>some (decide ((0:Int)<=f))
theorem Xz {k f w0 g r}(b:zT k f=some r) (H:ah) (l:∀j r,f j=some r->iL Tryz.prog g [.agg (bN.c j)] H (RT (.a (.d (.bool r))) H)):At 95 [.d (Sl.d 9 bN.c w0 k),.d g] H (RT (.a (.d (.bool r))) H):=by
 unfold zT at b;refine AC.oW 9 [.tmp 4] Tryz.call95 Tryz.func95 ?_;refine Y6 ?_;obtain⟨p,m,b⟩:=bO b;refine s0 (eV rfl rfl (M6 m _ l)) rfl ?_;refine Y3 ?_;exact rt b
def Cj (g:(Sl bN)) (b:(bN->Bool)):Bool:=on (td g b) fun f=>(decide ((0:Int)<=f))
theorem XA (a0:(Sl bN)) (b:(bN->Bool)):zT a0 (fun f=>some (b f))=some (Cj a0 b):=by
 unfold zT Cj;refine Q.ii (M7 _ _) fun g j=>?_;all_goals rfl
end Go.Proofs
