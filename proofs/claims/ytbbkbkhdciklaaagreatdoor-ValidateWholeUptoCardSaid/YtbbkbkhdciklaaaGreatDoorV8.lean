import Derived.Test.YtbbkbkhdciklaaaGreatDoorV7
set_option maxRecDepth 100000
set_option maxHeartbeats 2000000
set_option linter.unusedVariables false
set_option linter.unusedSimpArgs false
namespace Go.Proofs
open Go Go.Ab
open aI aq ag dR fO
attribute [local irreducible] aI aH ag aq
variable {ak:bP}
variable {gK:Nat}
def CX (f:bN) (b:bN):Bool:=((f.aa==b.aa))
def CY (f:bN) (b:bN):Option Bool:=some (CX f b)
theorem XB (a0:bN) (b:bN):CY a0 b=some (CX a0 b):=rfl
theorem XC {g b r}(f:CY g b=some r) (H:ah) :At 96 [.agg (bN.c g),.d (.view (bN.c b))] H (RT (.a (.d (.bool r))) H):=by
 unfold CY CX at f;refine AC.oW 9 [.tmp 3] Tryz.call96 Tryz.func96 ?_;refine kH ?_;exact rt f
def jB (b:bf) (f:Bool) (j:Int) (k:Bs):Option bf:=bif f then((bq 24 b.aC (⟨false,[(Z9.mk j k)]⟩:Sl Z9)).bind fun g=>some (bf.mk b.Fd b.dG g)) else(some b)
theorem wN {f m p q g b r}(j:jB f m p q=some r) (H:ah) (v:H g=some (.cells (bf.cg (some b) f))) (w:H b=some (.tok 2 f.aC.l.length)):At 97 [.d (.ptr g 0),.d (.bool m),.d (.int .i64 p),.d (.str q)] H (RT (.b_ []) (((tS H b 2 r.aC).set g (some (.cells (bf.cg (some b) r)))))):=by
 unfold jB at j;refine AC.oW 21 [] Tryz.call97 Tryz.func97 ?_;have y:g≠b:=fun s=>by subst s; simp_all
 refine hz ((tS H b 2 f.aC).set g (some (.cells (bf.cg (some b) f)))) (Y3 ?_);refine cE j (fun t j=>?_) (fun t j=>?_)
 ·refine jM ?_;obtain⟨k,u,j⟩:=bz j;refine SH (am Z9.c (TK rfl) rfl (TK rfl) (TK rfl) u) ?_;refine hq ((tS H b 2 k).set g (some (.cells (bf.cg (some b) f)))) (Y2 ?_);refine eW (kz (TK rfl) rfl rfl au rfl (by repeat (first|exact cZ.zero|apply cZ.succ))) rfl rfl ?_;refine hq ((tS H b 2 k).set g (some (.cells (bf.cg (some b) (bf.mk f.Fd f.dG k))))) (Y1 ?_)
  repeat (first|refine eS ?_|refine eR ?_|refine eP ?_)
  obtain rfl:=oJ j;refine bR.eX ((tS H b 2 k).set g (some (.cells (bf.cg (some b) (bf.mk f.Fd f.dG k))))) (xs:=[]) rfl ⟨rfl,rfl⟩ ?_;exact(fun _ _ h=>h)
 refine ag.skip ?_;repeat (first|refine eS ?_|refine eR ?_|refine eP ?_)
 obtain rfl:=oJ j;refine bR.eX ((tS H b 2 f.aC).set g (some (.cells (bf.cg (some b) f)))) (xs:=[]) rfl ⟨rfl,rfl⟩ ?_;exact(fun _ _ h=>h)
def yI (b:(Sl Bs)):Option (Sl Bs):=bif b.nl then(some (Sl.nil:Sl Bs)) else((bq 16 (⟨false,[]⟩:Sl Bs) b).bind fun f=>some f)
theorem XD {g w0 r}(b:yI g=some r) (H:ah) :At 215 [.d (Sl.d 1 aW w0 g)] H (RT (.a (.d (Sl.d 1 aW none r))) H):=by
 unfold yI at b;refine AC.oW 8 [.tmp 2] Tryz.call215 Tryz.func215 ?_;refine Y1 ?_;refine s0 (dM (k':=1) rfl) rfl ?_;refine Y1 ?_;refine ar fun m j=>Y2 ?_;refine s0 (Aw (TK rfl) rfl rfl) rfl ?_;refine Y1 ?_;refine cE b (fun k b=>?_) (fun k b=>?_)
 ·refine Y1 ?_;refine s0 (dM (k':=1) rfl) rfl ?_;refine Y1 ?_;exact rt b
 refine sk j (Y1 ?_);refine s0 (pS (TK rfl) rfl (TK rfl) rfl rfl rfl rfl rfl rfl) rfl ?_;refine Y1 ?_;obtain⟨p,l,b⟩:=bz b;refine s0 (um (f:=aW) (TK rfl) rfl (TK rfl) (TK rfl) ⟨_,rfl⟩ rfl rfl (by decide) rfl rfl rfl (by intro q h; cases h<;>decide) rfl rfl l) rfl ?_;refine Y2 ?_;exact rt b
def qN (f:af->Option af):List af->(Sl af)->Option ((Sl af))
 | [],b=>some b
 | g::j,b=>on (g) fun k=>(f k).bind fun l=>(bq 80 b (⟨false,[l]⟩:Sl af)).bind fun m=>qN f (j) m
mutual
def l7:Nat->af->Option af
 | 0,_=>none
 | n+1,b=>((yK n) b.aB).bind fun f=>(yI b.aX).bind fun g=>some (af.mk b.aj b.bL b.bK f.nl f.l g)
def yK:Nat->(Sl af)->Option (Sl af)
 | 0,_=>none
 | n+1,g=>Option.bind (qN (l7 n) g.l (Sl.nil:Sl af)) fun b=>on (b) fun f=>some f
end
def CZ (n:Nat):Prop:=∀{a0:af}   {r:af},l7 n a0=some r->∀(H:ah),At 178 [.agg (af.c a0)] H (RT (.a (.agg (af.c r))) H)
def C0 (n:Nat):Prop:=∀{a0:(Sl af)}{w0:Option Nat}  {r:(Sl af)},yK n a0=some r->∀(H:ah),At 214 [.d (Sl.d 5 af.c w0 a0)] H (RT (.a (.d (Sl.d 5 af.c none r))) H)
theorem XE (n:Nat) (s:CZ (ak:=ak) n) (k:C0 (ak:=ak) n):CZ (ak:=ak) (n+1):=by
 intro b   r f H;rw [l7] at f;refine AC.oW 12 [.cell 2 110] Tryz.call178 Tryz.func178 ?_;refine Y1 ?_;refine sL (pX rfl) rfl ?_;refine Y4 ?_;refine aI.dU 0 (af.cu b) rfl (fun j w cs hh hx=>by rw [<- af.kI]; exact hx) ?_;refine Y1 ?_;obtain⟨g,m,f⟩:=bz f;refine Sc rfl rfl (k m) (Y2 ?_)
 refine aI.dU 0 (af.c (af.mk b.aj b.bL b.bK g.nl g.l b.aX)) rfl (fun j w cs hh hx=>by rw [af.kI]; exact hx) ?_;refine Y4 ?_;obtain⟨p,q,f⟩:=bz f;refine Sc rfl rfl (XD q) (Y1 ?_);refine aI.dU 0 (af.cu (af.mk b.aj b.bL b.bK g.nl g.l b.aX)) rfl (fun j w cs hh hx=>by rw [<- af.kI]; exact hx) ?_;refine Y1 ?_
 refine aI.dU 0 (af.c (af.mk b.aj b.bL b.bK g.nl g.l p)) rfl (fun j w cs hh hx=>by rw [af.kI]; exact hx) ?_;refine Y5 ?_;exact rt f
theorem XF (n:Nat) (t:CZ (ak:=ak) n) (I:C0 (ak:=ak) n):C0 (ak:=ak) (n+1):=by
 intro j w0  r b H;rw [yK] at b;refine AC.oW 19 [.tmp 2] Tryz.call214 Tryz.func214 ?_;refine ag.tok 5 fun f J=>?_;refine Y1 ?_;refine s0 (dM (k':=5) rfl) rfl ?_;refine Y4 ?_;refine ag.gv 3 5 f rfl au ?_;refine aN kN (fun(z:(Sl af))=>[(3,.a (.d (Sl.d 5 af.c (some f) z)))]) (fun z=>(tS H f 5 z)) (fun z=>(some z)=some r) ?_ ?_
 ·intro K u;refine Y2 ?_;refine aV af.c j fun L=>Y3 ?_;obtain⟨k,v,b⟩:=b5 b;refine bx (tl [6,7]) (fun(z:(Sl af)×Nat)=>[(3,.a (.d (Sl.d 5 af.c (some f) z.1))),(8,vi z.2)]) (fun z=>(tS H f 5 z.1)) (fun z=>j.l.length-z.2) (fun z=>Option.bind (qN (l7 n) (j.l.drop z.2) z.1) k=some r) ((Sl.nil:Sl af),0) b wA ?_;rintro ⟨m,p⟩ b M w;try dsimp only at b
  refine Y3 ?_;refine ar fun N y=>?_;refine ag.bW (fun l=>Option.bind (qN (l7 n) l m) k=some r) b rfl (fun O q g b=>?_) (fun g b=>?_)
  ·rw [qN] at b;try dsimp only at g
   have P:=oD g;refine sk y (ar fun Q B=>Y2 ?_);obtain⟨R,C,b⟩:=vO q b;refine S (ix af.c p C) (Y4 ?_);refine bl 5 _ rfl (kl [3,6,7,8]) ?_;refine Y3 ?_;obtain⟨U,E,b⟩:=aQ b;refine Sc rfl rfl (t E) (Y1 ?_);obtain⟨s,F,b⟩:=aQ b;refine SH (am af.c (TK rfl) rfl (TK rfl) (TK rfl) F) ?_;refine hq (tS H f 5 s) (Y2 ?_);refine B _ ?_;refine Y4 ?_
   exact w _ (s,(p+1)) wA b (dl q)
  rw [qN] at b;have b:=ku v b;refine ag.exit ?_;obtain⟨W,G,b⟩:=b8 b;exact u _ m wA (ku G b:)
 rintro X b;try dsimp only at b
 refine Y4 ?_;refine ag.eG 2 rfl ?_;refine ry ?_;obtain rfl:=oJ b;refine bR.cK H rfl ⟨rfl,rfl⟩ ?_;exact sy
theorem zU:∀(n:Nat),(CZ (ak:=ak) n)/\(C0 (ak:=ak) n)
 | 0=>⟨fun b=>by first|cases b|(rw [l7] at b; cases b),fun b=>by first|cases b|(rw [yK] at b; cases b)⟩
 | n+1=>⟨XE n (zU n).1 (zU n).2,XF n (zU n).1 (zU n).2⟩
def XG (a0:af):Option af:=l7 F0 a0
theorem M8 {b r}(f:XG b=some r) (H:ah) :At 178 [.agg (af.c b)] H (RT (.a (.agg (af.c r))) H):=(zU F0).1 f H 
def Fu (b:af):Option af:=l7 F0 b
def oP (b:af) (g:Bs):Option (af×Bool):=on (u6 b.aX g) fun f=>bif (((!decide (b.aj=(6:Int)))||(decide (f<(0:Int))))||(decide (((b.aB.l.length:Nat):Int)<=f))) then(some ((af.mk 0 0 [] true [] Sl.nil),false)) else((dc b.aB.l f).bind fun j=>(Fu j).bind fun k=>some (k,true))
theorem GU {g j r}(b:oP g j=some r) (H:ah) :At 177 [.agg (af.c g),.d (.str j)] H (RT (.b_ [.agg (af.c r.1),.d (.bool r.2)]) H):=by
 unfold oP at b;refine AC.oW 32 [.cell 4 110,.tmp 5] Tryz.call177 Tryz.func177 ?_;refine Y9 ?_;obtain⟨s,k,b⟩:=dD b;refine Sc rfl rfl (MF k) (Y2 ?_);refine ar fun t l=>Y6 ?_;refine Gk 15 ?_;refine Y4 ?_;refine bE 20 rfl (fun hC=>cA (TK rfl) rfl rfl (af.dX _)) ?_;refine bE 21 rfl (fun hC=>dW af.c g.aB) ?_;refine G2 19 22 rfl rfl BI ?_
 refine Y2 ?_;refine cE b (fun m b=>?_) (fun m b=>?_)
 ·refine Y5 ?_;exact rt b
 refine sk l (Y2 ?_);refine s0 (cA (TK rfl) rfl rfl (af.dX _)) rfl ?_;refine Y1 ?_;obtain⟨u,p,b⟩:=bz b;refine s0 (iK (f:=af.c) (TK rfl) rfl (TK rfl) rfl rfl rfl p) rfl ?_;refine Y1 ?_;obtain⟨v,q,b⟩:=bz b;refine Sc rfl rfl (M8 q) (Y3 ?_);exact rt b
def s_ (f:Z1) (b:af):Option Bool:=bif ((!decide (b.aj=(7:Int)))||(!f.iU)) then(some false) else((oP f.dG b.bK).bind fun g=>some (!g.2))
theorem M9 {j f g r}(b:s_ j f=some r) (H:ah) (p:H g=some (.cells (Z1.c j))):At 142 [.d (.ptr g 0),.agg (af.c f)] H (RT (.a (.d (.bool r))) H):=by
 unfold s_ at b;refine AC.oW 29 [.tmp 4] Tryz.call142 Tryz.func142 ?_;refine Y4 ?_;refine ar fun q k=>Y6 ?_;refine Gk 11 ?_;refine bE 12 rfl (fun hC=>iJ (TK rfl) rfl rfl (TK rfl) rfl rfl) ?_;refine bE 13 rfl (fun hC=>iI (TK rfl) rfl rfl au rfl) ?_;refine Gk 14 ?_;refine Y2 ?_;refine cE b (fun l b=>?_) (fun l b=>?_)
 ·refine Y3 ?_;exact rt b
 refine sk k (Y7 ?_);obtain⟨s,m,b⟩:=bz b;refine ck rfl rfl (GU m) (Y7 ?_);refine bl 5 _ rfl (kl [6]) ?_;refine Y5 ?_;exact rt b
def BE (g:af) (b:Int):Option (af×Int):=bif (!decide (b=(0:Int))) then(some ((af.mk 0 0 [] true [] Sl.nil),b)) else((Fu g).bind fun f=>some (f,(0:Int)))
theorem XH {g f r}(b:BE g f=some r) (H:ah) :At 143 [.agg (af.c g),.d (.int .i64 f)] H (RT (.b_ [.agg (af.c r.1),.d (.int .i64 r.2)]) H):=by
 unfold BE at b;refine AC.oW 12 [.cell 4 110,.tmp 5] Tryz.call143 Tryz.func143 ?_;refine Y5 ?_;refine ar fun m j=>Y4 ?_;refine cE b (fun k b=>?_) (fun k b=>?_)
 ·refine Y6 ?_;exact rt b
 refine sk j (Y2 ?_);obtain⟨p,l,b⟩:=bz b;refine Sc rfl rfl (M8 l) (Y3 ?_);exact rt b
def tc (b:Z1) (g:Int):Option (Int×Z1):=bif (decide ((24:Int)<g)) then(some ((5:Int),b)) else((cV b.iC (1:Int)).bind fun f=>bif (decide ((4096:Int)<f)) then(some ((4:Int),(Z1.mk b.Fd b.dG b.iU f))) else(some ((0:Int),(Z1.mk b.Fd b.dG b.iU f))))
theorem M_ {f j g r}(b:tc f j=some r) (H:ah) (t:H g=some (.cells (Z1.c f))):At 180 [.d (.ptr g 0),.d (.int .i64 j)] H (RT (.a (.d (.int .i64 r.1))) ((cS H g (Z1.c r.2)))):=by
 unfold tc at b;refine AC.oW 19 [.tmp 4] Tryz.call180 Tryz.func180 ?_;refine hz (cS H g (Z1.c f)) (Y3 ?_);refine ar fun u k=>Y4 ?_;refine cE b (fun l b=>?_) (fun l b=>?_)
 ·refine Y3 ?_;exact rt b
 refine sk k (Y5 ?_);obtain⟨m,p,b⟩:=bz b;refine S (gh p) (Y2 ?_);refine eW (kz (TK rfl) rfl rfl au rfl (by repeat (first|exact cZ.zero|apply cZ.succ))) rfl rfl ?_;refine hq (H.set g (some (.cells (Z1.c (Z1.mk f.Fd f.dG f.iU m))))) (Y1 ?_);refine ar fun v q=>Y7 ?_;refine cE b (fun s b=>?_) (fun s b=>?_)
 ·refine Y3 ?_;exact rt b
 refine sk q (Y3 ?_);exact rt b
def qP (j:Int) (g:Z1->af->Int->Option (Int×Z1)):List af->Z1->Option (Z1 ⊕ ((Int×Z1)))
 | [],f=>some (Sum.inl f)
 | k::l,f=>on (k) fun m=>(cV j (1:Int)).bind fun p=>(g f m p).bind fun b=>bif (!decide (b.1=(0:Int))) then(some (Sum.inr (b.1,b.2))) else(qP j g (l) b.2)
def l8:Nat->Z1->af->Int->Option (Int×Z1)
 | 0,_,_,_=>none
 | n+1,q,g,f=>(tc q f).bind fun b=>bif (!decide (b.1=(0:Int))) then(some (b.1,b.2)) else(Option.bind (qP f (l8 n) g.aB.l b.2) fun j=>match j with|Sum.inl k=>(on (k) fun m=>some ((0:Int),m))|Sum.inr p=>(some p))
def GV (n:Nat):Prop:=∀{a0:Z1}{f:af}{a2:Int}  {b:Nat}{r:(Int×Z1)},l8 n a0 f a2=some r->∀(H:ah) (g:H b=some (.cells (Z1.c a0))),At 179 [.d (.ptr b 0),.agg (af.c f),.d (.int .i64 a2)] H (RT (.a (.d (.int .i64 r.1))) ((cS H b (Z1.c r.2))))
theorem XI (n:Nat) (w:GV (ak:=ak) n):GV (ak:=ak) (n+1):=by
 intro O g v  f r b H P;rw [l8] at b;refine AC.oW 33 [.tmp 6] Tryz.call179 Tryz.func179 ?_;refine hz (cS H f (Z1.c O)) (Y4 ?_);refine ar fun Q y=>Y3 ?_;obtain⟨k,B,b⟩:=bz b;refine sH (bF rfl rfl (M_ B _ au)) rfl ?_;refine hq (cS H f (Z1.c k.2)) (Y6 ?_);refine cE b (fun C b=>?_) (fun C b=>?_)
 ·refine Y4 ?_;exact rt b
 refine sk y (aN kN (fun(z:Z1)=>[]) (fun z=>(cS H f (Z1.c z))) (fun z=>(some ((0:Int),z))=some r) ?_ ?_)
 ·intro R E;refine Y2 ?_;refine s0 (cA (TK rfl) rfl rfl (af.dX _)) rfl ?_;refine aV af.c g.aB fun U=>Y3 ?_;obtain⟨m,p,b⟩:=b5 b;refine bx (tl [0,2,18,19]) (fun(z:Nat×Z1)=>[(20,vi z.1)]) (fun z=>(cS H f (Z1.c z.2))) (fun z=>g.aB.l.length-z.1) (fun z=>Option.bind (qP v (l8 n) (g.aB.l.drop z.1) z.2) m=some r) (0,k.2) b wA ?_
  rintro ⟨q,s⟩ b W F;try dsimp only at b
  refine Y3 ?_;refine ar fun X G=>?_;refine ag.bW (fun l=>Option.bind (qP v (l8 n) l s) m=some r) b rfl (fun Y t j b=>?_) (fun j b=>?_)
  ·rw [qP] at b;try dsimp only at j
   have Z:=oD j;refine sk G (ar fun aa I=>Y2 ?_);obtain⟨ab,J,b⟩:=vO t b;refine S (ix af.c q J) (Y4 ?_);refine bl 9 _ rfl (kl [0,2,18,19,20]) ?_;refine Y4 ?_;obtain⟨ad,K,b⟩:=aQ b;refine S (gh K) ?_;obtain⟨u,L,b⟩:=aQ b;refine sH (bF rfl rfl (w L _ au)) rfl ?_;refine hq (cS H f (Z1.c u.2)) (Y6 ?_);refine cO b (fun M b=>?_) (fun M b=>?_)
   ·refine Y4 ?_;exact rs (ku p b:)
   refine sk I (Y4 ?_);exact F _ ((q+1),u.2) wA b (dl t)
  rw [qP] at b;have b:=ku p b;try dsimp only at b
  refine ag.exit ?_;obtain⟨ae,N,b⟩:=b8 b;exact E _ s wA (ku N b:)
 rintro ai b;try dsimp only at b
 refine Y3 ?_;exact rt b
theorem Na:∀(n:Nat),(GV (ak:=ak) n)
 | 0=>fun b=>by first|cases b|(rw [l8] at b; cases b)
 | n+1=>XI n (Na n)
def XJ (f:Z1) (b:af) (g:Int):Option (Int×Z1):=l8 F0 f b g
theorem XK {g f j b r}(k:XJ g f j=some r) (H:ah) (l:H b=some (.cells (Z1.c g))):At 179 [.d (.ptr b 0),.agg (af.c f),.d (.int .i64 j)] H (RT (.a (.d (.int .i64 r.1))) ((cS H b (Z1.c r.2)))):=(Na F0) k H l
def Fw (f:Z1) (b:af) (g:Int):Option (Int×Z1):=l8 F0 f b g
def GW (g:af) (f:Bool) (b:Z1):Z1:=(Z1.mk b.Fd g f b.iC)
theorem XL {f g b c2 r}(j:some (GW f g b)=some r) (H:ah) (k:H c2=some (.cells (Z1.c b))):nH Tryz.prog 232 [.d (.view (af.c f)),.d (.view (rR g)),.d (.view [.ptr c2 0])] H (RT (.b_ []) ((cS H c2 (Z1.c r)))):=by
 unfold GW at j;refine nH.of_wp (fn:=Tryz.f232) (c:=_) Tryz.br (fun _ _=>Tryz.call232 _ _) Tryz.func232 rfl (n:=11) rfl (rs:=[]) rfl rfl ?_;refine hz (cS H c2 (Z1.c b)) (Y7 ?_);refine eW (xe (TK rfl) rfl rfl au rfl (Nat.le_of_ble_eq_true rfl) rfl rfl) rfl rfl ?_;refine hq (H.set c2 (some (.cells (Z1.c (Z1.mk b.Fd f b.iU b.iC))))) (Y2 ?_)
 refine eW (kz (TK rfl) rfl rfl au rfl (by repeat (first|exact cZ.zero|apply cZ.succ))) rfl rfl ?_;refine hq (H.set c2 (some (.cells (Z1.c (Z1.mk b.Fd f g b.iC))))) (Y1 ?_);repeat (first|refine eS ?_|refine eR ?_|refine eP ?_)
 obtain rfl:=oJ j;refine bR.eX (H.set c2 (some (.cells (Z1.c (Z1.mk b.Fd f g b.iC))))) (xs:=[]) rfl ⟨rfl,rfl⟩ ?_;exact(fun _ _ h=>h)
def BC (b:Bs):af:=(af.mk 3 0 b true [] Sl.nil)
theorem XM {f r}(b:some (BC f)=some r) (H:ah) :At 217 [.d (.str f)] H (RT (.a (.agg (af.c r))) H):=by
 unfold BC at b;refine AC.oW 5 [.cell 2 110] Tryz.call217 Tryz.func217 ?_;refine Y8 ?_;exact rt b
def Tryz.XN:Go.Shelf.Ren:=⟨fun|171=>233|243=>240|246=>243|283=>248|284=>249|285=>250|286=>251|129=>257|317=>256|318=>258|319=>259|320=>260|337=>263|338=>264|n=>n,fun|3=>3|9=>9|2=>2|4=>4|171=>261|0=>0|53=>262|37=>255|5=>5|173=>265|212=>271|51=>272|20=>20|213=>273|46=>274|232=>278|233=>279|n=>n,fun|17=>0|18=>2|19=>3|n=>n⟩
theorem Tryz.XO:Go.Proofs.LaysM.n171 Tryz.prog Tryz.XN:={
 mixed:=by kernel_rfl
 f129:=Tryz.func257.trans (congrArg some (by kernel_rfl))
 f171:=Tryz.func233.trans (congrArg some (by kernel_rfl))
 f243:=Tryz.func240.trans (congrArg some (by kernel_rfl))
 f246:=Tryz.func243.trans (congrArg some (by kernel_rfl))
 f283:=Tryz.func248.trans (congrArg some (by kernel_rfl))
 f284:=Tryz.func249.trans (congrArg some (by kernel_rfl))
 f285:=Tryz.func250.trans (congrArg some (by kernel_rfl))
 f286:=Tryz.func251.trans (congrArg some (by kernel_rfl))
 f317:=Tryz.func256.trans (congrArg some (by kernel_rfl))
 f318:=Tryz.func258.trans (congrArg some (by kernel_rfl))
 f319:=Tryz.func259.trans (congrArg some (by kernel_rfl))
 f320:=Tryz.func260.trans (congrArg some (by kernel_rfl))
 f337:=Tryz.func263.trans (congrArg some (by kernel_rfl))
 f338:=Tryz.func264.trans (congrArg some (by kernel_rfl))
 t0:=Tryz.underlying0
 a0:=Tryz.isAgg0
 z0:=Tryz.sizeOf0
 v0:=Tryz.zeroValue0
 t2:=Tryz.underlying2
 a2:=Tryz.isAgg2
 z2:=Tryz.sizeOf2
 v2:=Tryz.zeroValue2
 t3:=Tryz.underlying3
 a3:=Tryz.isAgg3
 z3:=Tryz.sizeOf3
 v3:=Tryz.zeroValue3
 t4:=Tryz.underlying4
 a4:=Tryz.isAgg4
 z4:=Tryz.sizeOf4
 v4:=Tryz.zeroValue4
 t5:=Tryz.underlying5
 a5:=Tryz.isAgg5
 z5:=Tryz.sizeOf5
 v5:=Tryz.zeroValue5
 t9:=Tryz.underlying9
 a9:=Tryz.isAgg9
 z9:=Tryz.sizeOf9
 v9:=Tryz.zeroValue9
 t20:=Tryz.underlying20
 a20:=Tryz.isAgg20
 z20:=Tryz.sizeOf20
 v20:=Tryz.zeroValue20
 t37:=Tryz.underlying255
 a37:=Tryz.isAgg255
 z37:=Tryz.sizeOf255
 v37:=Tryz.zeroValue255
 t46:=Tryz.underlying274
 a46:=Tryz.isAgg274
 z46:=Tryz.sizeOf274
 v46:=Tryz.zeroValue274
 t51:=Tryz.underlying272
 a51:=Tryz.isAgg272
 z51:=Tryz.sizeOf272
 v51:=Tryz.zeroValue272
 t53:=Tryz.underlying262
 a53:=Tryz.isAgg262
 z53:=Tryz.sizeOf262
 v53:=Tryz.zeroValue262
 t171:=Tryz.underlying261
 a171:=Tryz.isAgg261
 z171:=Tryz.sizeOf261
 v171:=Tryz.zeroValue261
 t173:=Tryz.underlying265
 a173:=Tryz.isAgg265
 z173:=Tryz.sizeOf265
 v173:=Tryz.zeroValue265
 t212:=Tryz.underlying271
 a212:=Tryz.isAgg271
 z212:=Tryz.sizeOf271
 v212:=Tryz.zeroValue271
 t213:=Tryz.underlying273
 a213:=Tryz.isAgg273
 z213:=Tryz.sizeOf273
 t232:=Tryz.underlying278
 a232:=Tryz.isAgg278
 z232:=Tryz.sizeOf278
 v232:=Tryz.zeroValue278
 t233:=Tryz.underlying279
 a233:=Tryz.isAgg279
 z233:=Tryz.sizeOf279
 v233:=Tryz.zeroValue279
 g17:=by kernel_rfl
 g18:=by kernel_rfl
 g19:=by kernel_rfl
 i0:=by kernel_rfl
 i2:=by kernel_rfl
 i3:=by kernel_rfl
 i4:=by kernel_rfl
 i5:=by kernel_rfl
 i9:=by kernel_rfl
 i20:=by kernel_rfl
 i37:=by kernel_rfl
 i46:=by kernel_rfl
 i51:=by kernel_rfl
 i53:=by kernel_rfl
 i171:=by kernel_rfl
 i173:=by kernel_rfl
 i212:=by kernel_rfl
 i232:=by kernel_rfl
 i233:=by kernel_rfl
 m17:=by kernel_rfl
 m18:=by kernel_rfl
 m19:=by kernel_rfl }
def BB (n:Int):Option Bs:=if -9223372036854775808<=n/\n<=9223372036854775807/\(Lib.itoa n).length<=fD then some (Lib.itoa n) else none
def Lc (n:Int):Option Bs:=BB n
theorem XP {f oT gT r}(b:BB f=some r) (H:ah) (g:H gT=some oT) (j:gz Tryz.prog oT):At 233 [.d (.int .i64 f)] H (RT (.a (.d (.str r))) H):=by
 unfold BB at b
 split at b
 ·rename_i h
  obtain rfl:=oJ b;exact Po Tryz.XO h.1 h.2.1 rfl g j h.2.2
 cases b
def yL (f:Int):Option Bs:=(Lc f).bind fun b=>some b
theorem XQ {f oT gT r}(b:yL f=some r) (H:ah) (j:H gT=some oT) (k:gz Tryz.prog oT):At 218 [.d (.int .i64 f)] H (RT (.a (.d (.str r))) H):=by
 unfold yL at b;refine AC.oW 5 [.tmp 2] Tryz.call218 Tryz.func218 ?_;refine Y5 ?_;obtain⟨l,g,b⟩:=bz b;refine s0 (eV rfl rfl (XP (gT:=gT) (oT:=oT) g _ au (by assumption))) rfl ?_;refine Y2 ?_;exact rt b
def C1 (f:bC) (b:af):Bool:=((f.aa==b.bK))
def C2 (f:bC) (b:af):Option Bool:=some (C1 f b)
theorem XR (a0:bC) (b:af):C2 a0 b=some (C1 a0 b):=rfl
theorem XS {g b r}(f:C2 g b=some r) (H:ah) :At 219 [.agg (bC.c g),.d (.view (af.c b))] H (RT (.a (.d (.bool r))) H):=by
 unfold C2 C1 at f;refine AC.oW 9 [.tmp 3] Tryz.call219 Tryz.func219 ?_;refine kH ?_;exact rt f
def vn (m:Z1) (f:Bs) (b:af):Option (af×Int):=on (fun(p:Bool) (q:af)=>bif (!p) then(some ((af.mk 0 0 [] true [] Sl.nil),(23:Int))) else(some (q,(0:Int)))) fun g=>bif ((f==([73,110,116]:Bs))) then(g (((decide (b.aj=(2:Int)))&&(decide ((-2147483648:Int)<=b.bL)))&&(decide (b.bL<(2147483648:Int)))) b) else(bif ((f==([83,116,114,105,110,103]:Bs))) then(g (decide (b.aj=(3:Int))) b) else(bif ((f==([66,111,111,108,101,97,110]:Bs))) then(g (decide (b.aj=(1:Int))) b) else(bif ((f==([73,68]:Bs))) then(Option.bind (bif (decide (b.aj=(2:Int))) then((yL b.bL).bind fun r=>on (BC r) fun s=>some s) else(some b)) fun k=>g (decide (k.aj=(3:Int))) k) else(on (bif ((decide (b.aj=(3:Int)))&&(!m.iU)) then((af.mk 4 b.bL b.bK b.aB.nl b.aB.l b.aX)) else(b)) fun j=>on (cL m.Fd f) fun t=>on (bif (decide (j.aj=(4:Int))) then CJ t.1.bV (fun u=>C1 u j) else false) fun v=>bif (!((decide (j.aj=(4:Int)))&&v)) then(some ((af.mk 0 0 [] true [] Sl.nil),(23:Int))) else(some (j,(0:Int)))))))
theorem XT {u m f oT p gT r}(b:vn u m f=some r) (H:ah) (ad:H p=some (.cells (Z1.c u))) (ae:H gT=some oT) (ai:gz Tryz.prog oT):At 184 [.d (.ptr p 0),.d (.str m),.agg (af.c f)] H (RT (.b_ [.agg (af.c r.1),.d (.int .i64 r.2)]) H):=by
 unfold vn at b;refine AC.oW 82 [.cell 6 110,.tmp 7] Tryz.call184 Tryz.func184 ?_;refine Y1 ?_;refine sL (pX rfl) rfl ?_;refine Y6 ?_;obtain⟨v,y,b⟩:=mT b;refine ag.OW (tl [5,6]) (fun(z:Bool×af)=>[(8,.a (.d (.bool z.1)))]) (fun z=>[af.c z.2,af.c af.zero]) (fun z=>H) (fun z=>(v z.1 z.2)=some r) ?_ ?_
 ·intro ak g B;refine Y8 ?_;refine cE b (fun C b=>?_) (fun C b=>?_)
  ·refine Y6 ?_;refine gC rfl rfl (fun hC=>Ax (k:=47) rfl (xb (TK rfl) rfl rfl rfl rfl)) rfl ?_;refine Gk 48 ?_;refine Y3 ?_;refine gC rfl rfl (fun hC=>Ax (k:=52) rfl (xb (TK rfl) rfl rfl rfl rfl)) rfl ?_;refine Gk 53 ?_;refine Y3 ?_;exact g _ ((((decide (f.aj=(2:Int)))&&(decide ((-2147483648:Int)<=f.bL)))&&(decide (f.bL<(2147483648:Int)))),f) wA b
  refine Y4 ?_;refine cE b (fun E b=>?_) (fun E b=>?_)
  ·refine Y6 ?_;exact g _ ((decide (f.aj=(3:Int))),f) wA b
  refine Y4 ?_;refine cE b (fun F b=>?_) (fun F b=>?_)
  ·refine Y6 ?_;exact g _ ((decide (f.aj=(1:Int))),f) wA b
  refine Y4 ?_;refine cE b (fun G b=>?_) (fun G b=>?_)
  ·obtain⟨I,J,b⟩:=b5 b;refine fh (tl [5,6]) (fun(z:af)=>[]) (fun z=>[af.c z,af.c af.zero]) (fun z=>H) (fun z=>I z=some r) ?_ ?_
   ·intro al q;refine Y5 ?_;refine cO b (fun K b=>?_) (fun K b=>?_)
    ·refine Y3 ?_;obtain⟨am,L,b⟩:=aQ b;refine s0 (eV rfl rfl (XQ (gT:=gT) (oT:=oT) L _ au (by assumption))) rfl ?_;obtain⟨M,N,b⟩:=dm b;refine Sc rfl rfl (XM N) (Y2 ?_);exact q _ M wA b
    refine ag.skip ?_;exact q _ f wA b
   rintro s b;try dsimp only at b
   have b:=ku J b;refine Y6 ?_;exact g _ ((decide (s.aj=(3:Int))),s) wA b
  obtain⟨O,P,b⟩:=b8 b;refine fh (tl [0,1,5,6]) (fun(z:af)=>[]) (fun z=>[af.c z,af.c af.zero]) (fun z=>H) (fun z=>O z=some r) ?_ ?_
  ·intro an t;refine Y6 ?_;refine Gk 16 ?_;refine bE 17 rfl (fun hC=>iJ (TK rfl) rfl rfl (TK rfl) rfl rfl) ?_;refine bE 18 rfl (fun hC=>iI (TK rfl) rfl rfl au rfl) ?_;refine Gk 19 ?_;refine Y2 ?_;refine cP b (fun Q b=>?_) (fun Q b=>?_)
   ·refine Y2 ?_;refine aI.dU 0 (af.cu f) rfl (fun j w cs hh hx=>by rw [<- af.kI]; exact hx) ?_;refine Y1 ?_;refine aI.dU 0 (af.c (af.mk 4 f.bL f.bK f.aB.nl f.aB.l f.aX)) rfl (fun j w cs hh hx=>by rw [af.kI]; exact hx) ?_;refine Y1 ?_;exact t _ (af.mk 4 f.bL f.bK f.aB.nl f.aB.l f.aX) wA b
   refine ag.skip ?_;exact t _ f wA b
  rintro R b;try dsimp only at b
  have b:=ku P b;refine Y6 ?_;obtain⟨S,U,b⟩:=dD b;refine Sc rfl rfl (iM U) (Y7 ?_);refine bl 9 _ rfl (kl [5,6]) ?_;refine ag.DN 5 _ rfl rfl ?_;refine Y6 ?_;refine Gk 36 ?_;refine gC rfl rfl (fun hC=>makeFunc rfl) rfl ?_;obtain⟨ao,W,b⟩:=jv (o:=wy S.1.bV (fun X=>C2 X R)) (fun _=>(by simp only [XR,MS])) b
  refine fc 37 38 rfl rfl (fun hC=>fT rfl rfl (fun H=>MR (W hC) H (fun _ _ hx=>XS hx _))) ?_;refine Y3 ?_;refine B _ ?_;refine ar fun ap Y=>Y4 ?_;refine cE b (fun Z b=>?_) (fun Z b=>?_)
  ·refine Y5 ?_;exact rt b
  refine sk Y (Y5 ?_);exact rt b
 rintro ⟨av,aw⟩ b;try dsimp only at b
 rw [y] at b;try dsimp only at b
 refine ar fun ax aa=>Y4 ?_;refine cE b (fun ab b=>?_) (fun ab b=>?_)
 ·refine Y5 ?_;exact rt b
 refine sk aa (Y5 ?_);exact rt b
def qR (j:ax) (p:Int) (k:Z1->ax->af->Int->Option (af×Int×Z1)):List af->Z1->af->Option (((Z1×af)) ⊕ ((af×Int×Z1)))
 | [],g,b=>some (Sum.inl (g,b))
 | q::r,g,b=>on (q) fun s=>(cV p (1:Int)).bind fun t=>(k g j s t).bind fun f=>bif (!decide (f.2.1=(0:Int))) then(some (Sum.inr ((af.mk 0 0 [] true [] Sl.nil),f.2.1,f.2.2))) else((bq 80 b.aB (⟨false,[f.1]⟩:Sl af)).bind fun m=>qR j p k (r) f.2.2 (af.mk b.aj b.bL b.bK m.nl m.l b.aX))
def oV (f:Z1) (b:ay):List Bs->Unit ⊕ ((af×Int×Z1))
 | []=>Sum.inl ()
 | g::j=>on (g) fun k=>on (iq b.bG k) fun l=>bif (!l.2) then(Sum.inr ((af.mk 0 0 [] true [] Sl.nil),(22:Int),f)) else(oV f b (j) )
def gx (k:ay) (B:af) (t:Int) (u:Z1->ax->af->Int->Option (af×Int×Z1)) (v:Z1->az->Int->Option (af×Int×Z1)):List az->Nat->Z1->af->Option (((Z1×af)) ⊕ ((af×Int×Z1)))
 | [],m,f,b=>some (Sum.inl (f,b))
 | C::E,m,f,b=>on (C) fun g=>on ((⟨k.bG.nl,k.bG.l.take m⟩:Sl az)) fun F=>on (iq F g.aa) fun G=>on (fun(H:Z1) (I:af)=>gx k B t u v (E) (m+1) H I) fun p=>bif G.2 then(p f b) else((oP B g.aa).bind fun j=>a_ (j.2) (s_ f j.1) false fun J=>on (fun(w:Int) (y:Z1) (K:af)=>bif (!decide (w=(0:Int))) then(some (Sum.inr ((af.mk 0 0 [] true [] Sl.nil),w,y))) else((bq 16 b.aX (⟨false,[g.aa]⟩:Sl Bs)).bind fun L=>(bq 80 b.aB (⟨false,[K]⟩:Sl af)).bind fun z=>p y (af.mk b.aj b.bL b.bK z.nl z.l L))) fun q=>bif (j.2&&(!J)) then((cV t (1:Int)).bind fun M=>(u f g.aM j.1 M).bind fun r=>q r.2.1 r.2.2 r.1) else(bif g.eC then((cV t (1:Int)).bind fun N=>(v f g N).bind fun s=>q s.2.1 s.2.2 s.1) else(on (ij g.aM) fun O=>bif O then(q (22:Int) f af.zero) else(p f b))))
mutual
def fN:Nat->Z1->ax->af->Int->Option (af×Int×Z1)
 | 0,_,_,_,_=>none
 | n+1,f,g,s,p=>on (ni f.Fd g.aa) fun w=>bif (!w) then(some ((af.mk 0 0 [] true [] Sl.nil),(10:Int),f)) else(on (fun(y:Z1) (j:af)=>(tc y p).bind fun b=>bif (!decide (b.1=(0:Int))) then(some ((af.mk 0 0 [] true [] Sl.nil),b.1,b.2)) else(bif (decide (j.aj=(0:Int))) then(on (ij g) fun z=>bif z then(some ((af.mk 0 0 [] true [] Sl.nil),(23:Int),b.2)) else(some ((af.mk 0 0 [] true [] Sl.nil),(0:Int),b.2))) else((oh g).bind fun t=>bif t.2 then(((qQ n) b.2 t.1 j p).bind fun q=>some (q.1,q.2.1,q.2.2)) else(on (cL b.2.Fd g.aa) fun k=>on (bif k.2 then oS g.aa else false) fun B=>bif ((k.2&&(!B))&&(decide (k.1.aj=(5:Int)))) then(((qS n) b.2 k.1 j p).bind fun r=>some (r.1,r.2.1,r.2.2)) else((vn b.2 g.aa j).bind fun u=>some (u.1,u.2,b.2)))))) fun v=>bif ((decide (s.aj=(7:Int)))&&f.iU) then((oP f.dG s.bK).bind fun l=>bif (!decide (l.1.aj=(0:Int))) then((Fw f l.1 p).bind fun m=>bif (!decide (m.1=(0:Int))) then(some ((af.mk 0 0 [] true [] Sl.nil),m.1,m.2)) else(some (l.1,(0:Int),m.2))) else(v f l.1)) else(v f s))
def qQ:Nat->Z1->ax->af->Int->Option (af×Int×Z1)
 | 0,_,_,_,_=>none
 | n+1,q,j,b,r=>on (bif (!decide (b.aj=(5:Int))) then((⟨false,[b]⟩:Sl af)) else(b.aB)) fun k=>Option.bind (qR j r (fN n) k.l q (af.mk 5 0 [] true [] Sl.nil)) fun m=>match m with|Sum.inl f=>(on ((f.1,f.2)) fun g=>some (g.2,(0:Int),g.1))|Sum.inr p=>(some p)
def qS:Nat->Z1->ay->af->Int->Option (af×Int×Z1)
 | 0,_,_,_,_=>none
 | n+1,f,b,g,s=>bif (!decide (g.aj=(6:Int))) then(some ((af.mk 0 0 [] true [] Sl.nil),(23:Int),f)) else(on (oV f b g.aX.l ) fun m=>match m with|Sum.inl _=>(on (()) fun _=>Option.bind (gx b g s (fN n) (iv n) b.bG.l 0 f (af.mk 6 0 [] true [] Sl.nil)) fun p=>match p with|Sum.inl j=>(on ((j.1,j.2)) fun k=>some (k.2,(0:Int),k.1))|Sum.inr q=>(some q))|Sum.inr r=>(some r))
def iv:Nat->Z1->az->Int->Option (af×Int×Z1)
 | 0,_,_,_=>none
 | n+1,b,g,k=>((fN n) (Z1.mk b.Fd (af.mk 0 0 [] true [] Sl.nil) true b.iC) g.aM g.dZ k).bind fun f=>on (GW b.dG b.iU f.2.2) fun j=>some (f.1,f.2.1,j)
end
def wO (n:Nat):Prop:=∀{a0:Z1}{f:ax}{a2:af}{a3:Int}{oT:Ab.Obj}{b:Nat}{gT:Nat}{r:(af×Int×Z1)},fN n a0 f a2 a3=some r->∀(H:ah) (g:H b=some (.cells (Z1.c a0))) (j:H gT=some oT) (k:gz Tryz.prog oT),At 144 [.d (.ptr b 0),.agg (ax.c f),.agg (af.c a2),.d (.int .i64 a3)] H (RT (.b_ [.agg (af.c r.1),.d (.int .i64 r.2.1)]) ((cS H b (Z1.c r.2.2))))
def wP (n:Nat):Prop:=∀{a0:Z1}{f:ax}{a2:af}{a3:Int}{oT:Ab.Obj}{b:Nat}{gT:Nat}{r:(af×Int×Z1)},qQ n a0 f a2 a3=some r->∀(H:ah) (g:H b=some (.cells (Z1.c a0))) (j:H gT=some oT) (k:gz Tryz.prog oT),At 182 [.d (.ptr b 0),.agg (ax.c f),.agg (af.c a2),.d (.int .i64 a3)] H (RT (.b_ [.agg (af.c r.1),.d (.int .i64 r.2.1)]) ((cS H b (Z1.c r.2.2))))
def wQ (n:Nat):Prop:=∀{a0:Z1}{f:ay}{a2:af}{a3:Int}{oT:Ab.Obj}{b:Nat}{gT:Nat}{r:(af×Int×Z1)},qS n a0 f a2 a3=some r->∀(H:ah) (g:H b=some (.cells (Z1.c a0))) (j:H gT=some oT) (k:gz Tryz.prog oT),At 183 [.d (.ptr b 0),.agg (ay.c f),.agg (af.c a2),.d (.int .i64 a3)] H (RT (.b_ [.agg (af.c r.1),.d (.int .i64 r.2.1)]) ((cS H b (Z1.c r.2.2))))
def wR (n:Nat):Prop:=∀{a0:Z1}{f:az}{a2:Int}{oT:Ab.Obj}{b:Nat}{gT:Nat}{r:(af×Int×Z1)},iv n a0 f a2=some r->∀(H:ah) (g:H b=some (.cells (Z1.c a0))) (j:H gT=some oT) (k:gz Tryz.prog oT),At 216 [.d (.ptr b 0),.agg (az.c f),.d (.int .i64 a2)] H (RT (.b_ [.agg (af.c r.1),.d (.int .i64 r.2.1)]) ((cS H b (Z1.c r.2.2))))
theorem XU (n:Nat) (am:wO (ak:=ak) n) (k:wP (ak:=ak) n) (l:wQ (ak:=ak) n) (an:wR (ak:=ak) n):wO (ak:=ak) (n+1):=by
 intro g ao al aR oT f gT r b H ap av m;rw [fN] at b;refine AC.oW 119 [.cell 8 110,.tmp 9] Tryz.call144 Tryz.func144 ?_;have aw:gT≠f:=fun p=>by subst p; obtain⟨_,_,_,ax,_⟩:=m; simp_all
 refine hz (cS H f (Z1.c g)) (Y2 ?_);refine sL (pX rfl) rfl ?_;refine Y3 ?_;refine ar fun ay q=>Y7 ?_;obtain⟨az,s,b⟩:=dD b;refine ck rfl rfl (CI s) (Y2 ?_);refine cE b (fun t b=>?_) (fun t b=>?_)
 ·refine Y5 ?_;exact rt b
 refine sk q ?_;obtain⟨u,v,b⟩:=mT b;refine fh (tl [0,3,5,6,8]) (fun(z:Z1×af×af)=>[]) (fun z=>[af.c z.2.1,af.c z.2.2]) (fun z=>(cS H f (Z1.c z.1))) (fun z=>(u z.1 z.2.1)=some r) ?_ ?_
 ·intro aA j;refine Y6 ?_;refine Gk 29 ?_;refine bE 30 rfl (fun hC=>iJ (TK rfl) rfl rfl (TK rfl) rfl rfl) ?_;refine bE 31 rfl (fun hC=>iI (TK rfl) rfl rfl au rfl) ?_;refine Y2 ?_;refine cE b (fun w b=>?_) (fun w b=>?_)
  ·refine Y7 ?_;obtain⟨y,B,b⟩:=bz b;refine ck rfl rfl (GU B) (jM ?_);refine cE b (fun C b=>?_) (fun C b=>?_)
   ·refine Y4 ?_;obtain⟨E,F,b⟩:=bz b;refine sH (bF rfl rfl (XK F _ au)) rfl ?_;refine hq (cS H f (Z1.c E.2)) (Y2 ?_);refine ar fun aB G=>Y4 ?_;refine cE b (fun I b=>?_) (fun I b=>?_)
    ·refine Y6 ?_;exact rt b
    refine sk G (Y5 ?_);exact rt b
   refine ag.skip ?_;exact j _ (g,y.1,af.zero) wA b
  refine ag.skip ?_;exact j _ (g,al,af.zero) wA b
 rintro ⟨aC,aD,aE⟩ b;try dsimp only at b
 rw [v] at b;try dsimp only at b
 refine ar fun aF J=>Y3 ?_;obtain⟨K,L,b⟩:=bz b;refine sH (bF rfl rfl (M_ L _ au)) rfl ?_;refine hq (cS H f (Z1.c K.2)) (Y6 ?_);refine cE b (fun M b=>?_) (fun M b=>?_)
 ·refine Y6 ?_;exact rt b
 refine sk J (ar fun aG N=>Y5 ?_);refine cE b (fun O b=>?_) (fun O b=>?_)
 ·refine ar fun aJ P=>Y2 ?_;obtain⟨aK,Q,b⟩:=dD b;refine Sc rfl rfl (pI Q) (Y1 ?_);refine cE b (fun R b=>?_) (fun R b=>?_)
  ·refine Y5 ?_;exact rt b
  refine sk P (Y5 ?_);exact rt b
 refine sk N (ar fun aL S=>Y2 ?_);obtain⟨aM,U,b⟩:=bz b;refine Sc rfl rfl (zC U) (Y7 ?_);refine bl 12 _ rfl (kl [0,3,5,6,8,13]) ?_;refine Y3 ?_;refine cE b (fun W b=>?_) (fun W b=>?_)
 ·refine Y5 ?_;obtain⟨X,Y,b⟩:=bz b;refine sH (bF rfl rfl (k (gT:=gT) (oT:=oT) Y _ au au (by assumption))) rfl ?_;refine hq (cS H f (Z1.c X.2.2)) (Y5 ?_);exact rt b
 refine sk S (ar fun aN Z=>Y7 ?_);obtain⟨aO,aa,b⟩:=dD b;refine ck rfl rfl (iM aa) (Y7 ?_);refine bl 14 _ rfl (kl [0,3,5,6,8,15]) ?_;refine Y4 ?_;refine Gk 95 ?_;obtain⟨aP,ab,b⟩:=jv (fun _=>rfl) b;refine dx 96 rfl rfl rfl rfl rfl (fun hC=>rY (ab hC)) ?_;refine Gk 97 ?_;refine Y3 ?_;refine Gk 101 ?_;refine Gk 102 ?_;refine Y2 ?_
 refine cE b (fun ad b=>?_) (fun ad b=>?_)
 ·refine Y5 ?_;obtain⟨ae,ai,b⟩:=bz b;refine sH (bF rfl rfl (l (gT:=gT) (oT:=oT) ai _ au au (by assumption))) rfl ?_;refine hq (cS H f (Z1.c ae.2.2)) (Y5 ?_);exact rt b
 refine sk Z (Y5 ?_);obtain⟨aQ,aj,b⟩:=bz b;refine s0 (eV rfl rfl (XT (gT:=gT) (oT:=oT) aj _ au au (by assumption))) rfl ?_;refine Y5 ?_;exact rt b
theorem XV (n:Nat) (O:wO (ak:=ak) n) (av:wP (ak:=ak) n) (aw:wQ (ak:=ak) n) (ax:wR (ak:=ak) n):wP (ak:=ak) (n+1):=by
 intro y B M N oT g gT r b H ay az P;rw [qQ] at b;refine AC.oW 51 [.cell 8 110,.tmp 9] Tryz.call182 Tryz.func182 ?_;have aA:gT≠g:=fun m=>by subst m; obtain⟨_,_,_,aC,_⟩:=P; simp_all
 refine hz (cS H g (Z1.c y)) (Y8 ?_);refine s0 (cA (TK rfl) rfl rfl (af.dX _)) rfl ?_;refine Y2 ?_;obtain⟨Q,R,b⟩:=b8 b;refine aN (tl [0,3,5,8]) (fun(z:(Sl af))=>[(10,.a (.d (Sl.d 5 af.c none z)))]) (fun z=>(cS H g (Z1.c y))) (fun z=>Q z=some r) ?_ ?_
 ·intro aD C;refine Y5 ?_;refine cP b (fun U b=>?_) (fun U b=>?_)
  ·refine Y5 ?_;exact C _ (⟨false,[M]⟩:Sl af) wA b
  refine ag.skip ?_;exact C _ M.aB wA b
 rintro p b;try dsimp only at b
 have b:=ku R b;refine Y3 ?_;refine aI.tok 5 fun f E=>?_;obtain⟨aE,E⟩:=ah.dP E;have aF:f≠gT:=fun m=>by subst m; simp_all
 refine aI.dU 1 _ rfl (fun j w cs hh hx=>tok_cell 3 5 5 hh (t:=f) au hx rfl) ?_;refine Y1 ?_;refine aI.dU 1 _ rfl (fun j w cs hh hx=>tok_cell 3 5 5 hh (t:=f) au hx rfl) ?_;refine Y1 ?_
 refine fh (tl [8,11]) (fun(z:Z1×af×af)=>[]) (fun z=>[af.c z.2.1,((bM .i64) z.2.2.aj++(bM .i64) z.2.2.bL++aW z.2.2.bK++[Sl.d 5 af.c (some f) z.2.2.aB]++(fun s=>[Sl.d 1 aW none s]) z.2.2.aX)]) (fun z=>(tS (cS H g (Z1.c z.1)) f 5 z.2.2.aB)) (fun z=>(some (z.2.2,(0:Int),z.1))=some r) ?_ ?_
 ·intro aG W;refine Y2 ?_;refine aV af.c p fun aJ=>Y3 ?_;obtain⟨F,G,b⟩:=b5 b
  refine iA (tl [0,3,5,8,11,24,25]) (fun(z:Nat×Z1×af×af)=>[(26,vi z.1)]) (fun z=>[af.c z.2.2.1,((bM .i64) z.2.2.2.aj++(bM .i64) z.2.2.2.bL++aW z.2.2.2.bK++[Sl.d 5 af.c (some f) z.2.2.2.aB]++(fun s=>[Sl.d 1 aW none s]) z.2.2.2.aX)]) (fun z=>(tS (cS H g (Z1.c z.2.1)) f 5 z.2.2.2.aB)) (fun z=>p.l.length-z.1) (fun z=>Option.bind (qR B N (fN n) (p.l.drop z.1) z.2.1 z.2.2.2) F=some r) (0,y,af.zero,(af.mk 5 0 [] true [] Sl.nil)) b wA ?_
  rintro ⟨I,J,K,k⟩ b aK X;try dsimp only at b
  refine Y3 ?_;refine ar fun aL Y=>?_;refine ag.bW (fun l=>Option.bind (qR B N (fN n) l J k) F=some r) b rfl (fun aM L q b=>?_) (fun q b=>?_)
  ·rw [qR] at b;try dsimp only at q
   have aO:=oD q;refine sk Y (ar fun aP Z=>Y2 ?_);obtain⟨aR,aa,b⟩:=vO L b;refine S (ix af.c I aa) (Y4 ?_);refine bl 13 _ rfl (kl [0,3,5,8,11,24,25,26]) ?_;refine Y5 ?_;obtain⟨aS,ab,b⟩:=aQ b;refine S (gh ab) ?_;obtain⟨u,ad,b⟩:=aQ b;refine sH (bF rfl rfl (O (gT:=gT) (oT:=oT) ad _ au au (by assumption))) rfl ?_
   refine hq (tS (cS H g (Z1.c u.2.2)) f 5 k.aB) (Y7 ?_);refine bl 14 _ rfl (kl [0,3,5,8,11,15,24,25,26]) ?_;refine ar fun aT ae=>Y4 ?_;refine cO b (fun ai b=>?_) (fun ai b=>?_)
   ·refine Y6 ?_;exact rs (ku G b:)
   refine sk ae (Y5 ?_);obtain⟨v,al,b⟩:=aQ b;refine SH (am af.c (TK rfl) rfl (TK rfl) (TK rfl) al) ?_;refine hq (tS (cS H g (Z1.c u.2.2)) f 5 v) (Y3 ?_);refine Z _ ?_;refine Y4 ?_;exact X _ ((I+1),u.2.2,K,(af.mk k.aj k.bL k.bK v.nl v.l k.aX)) wA b (dl L)
  rw [qR] at b;have b:=ku G b;try dsimp only at b
  refine ag.exit ?_;obtain⟨aU,an,b⟩:=b8 b;exact W _ (J,K,k) wA (ku an b:)
 rintro ⟨aY,aZ,ao⟩ b;try dsimp only at b
 refine ar fun a0 ap=>ag.dU 1 _ rfl (fun j w cs hh hx=>nG 3 hx rfl) ?_;refine ag.dU 1 (af.c ao) rfl (fun j w cs hh hx=>by rw [af.kI]; exact hx) ?_;refine Y5 ?_;refine ap _ ?_;exact rs b
theorem XW (n:Nat) (am:wO (ak:=ak) n) (bg:wP (ak:=ak) n) (bh:wQ (ak:=ak) n) (an:wR (ak:=ak) n):wQ (ak:=ak) (n+1):=by
 intro v p u G oT q gT r b H bi bj ao;rw [qS] at b;refine AC.oW 124 [.cell 8 110,.tmp 9] Tryz.call183 Tryz.func183 ?_;have bk:gT≠q:=fun B=>by subst B; obtain⟨_,_,_,bm,_⟩:=ao; simp_all
 refine hz (cS H q (Z1.c v)) (Y6 ?_);refine ar fun bn ap=>Y5 ?_;refine cE b (fun av b=>?_) (fun av b=>?_)
 ·refine Y5 ?_;exact rt b
 refine sk ap (fh (tl [0,3,5,6,8]) (fun(z:af)=>[]) (fun z=>[af.c z]) (fun z=>(cS H q (Z1.c v))) (fun z=>(Option.bind (gx p u G (fN n) (iv n) p.bG.l 0 v (af.mk 6 0 [] true [] Sl.nil)) fun aw=>match aw with|Sum.inl U=>(on ((U.1,U.2)) fun W=>some (W.2,(0:Int),W.1))|Sum.inr ax=>(some ax))=some r) ?_ ?_)
 ·intro bo ay;refine Y3 ?_;refine aV aW u.aX fun bp=>Y3 ?_;obtain⟨X,Y,b⟩:=b8 b;refine iA (tl [0,3,5,6,8,28,29]) (fun(z:Nat×af)=>[(30,vi z.1)]) (fun z=>[af.c z.2]) (fun z=>(cS H q (Z1.c v))) (fun z=>u.aX.l.length-z.1) (fun z=>X (oV v p (u.aX.l.drop z.1) )=some r) (0,af.zero) b wA ?_;rintro ⟨Z,ab⟩ b br aA;try dsimp only at b
  refine Y3 ?_;refine ar fun bs aC=>?_;refine ag.bW (fun l=>X (oV v p l )=some r) b rfl (fun bt ad M b=>?_) (fun M b=>?_)
  ·rw [oV] at b;try dsimp only at M
   have bu:=oD M;refine sk aC (ar fun bv aD=>Y2 ?_);obtain⟨bw,aE,b⟩:=vP ad b;refine S (ix aW Z aE) (Y7 ?_);obtain⟨bx,aF,b⟩:=eL b;refine Sc rfl rfl (wv aF) (Y7 ?_);refine bl 12 _ rfl (kl [0,3,5,6,8,13,28,29,30]) ?_;refine Y4 ?_;refine cP b (fun aG b=>?_) (fun aG b=>?_)
   ·refine Y5 ?_;exact rs (ku Y b:)
   refine sk aD (Y4 ?_);exact aA _ ((Z+1),ab) wA b (dl ad)
  rw [oV] at b;have b:=ku Y b;try dsimp only at b
  refine ag.exit ?_;obtain⟨bz,aJ,b⟩:=b8 b;exact ay _ ab wA (ku aJ b:)
 rintro aK b;try dsimp only at b
 refine Y3 ?_;refine aI.tok 5 fun k ae=>?_;obtain⟨bA,ae⟩:=ah.dP ae;have bB:k≠gT:=fun B=>by subst B; simp_all
 refine aI.dU 1 _ rfl (fun j w cs hh hx=>tok_cell 3 5 5 hh (t:=k) au hx rfl) ?_;refine aI.tok 1 fun m I=>?_;obtain⟨bC,I⟩:=ah.dP I;obtain⟨bD,I⟩:=ah.dP I;have bE:m≠gT:=fun B=>by subst B; simp_all
 refine aI.dU 1 _ rfl (fun j w cs hh hx=>tok_cell 4 1 1 hh (t:=m) au hx rfl) ?_;refine Y1 ?_;refine aI.dU 1 _ rfl (fun j w cs hh hx=>tok_cell 3 5 5 hh (t:=k) au hx rfl) ?_;refine aI.dU 1 _ rfl (fun j w cs hh hx=>tok_cell 4 1 1 hh (t:=m) au hx rfl) ?_;refine Y1 ?_
 refine fh (tl [8,14]) (fun(z:Z1×af×af)=>[]) (fun z=>[af.c z.2.1,((bM .i64) z.2.2.aj++(bM .i64) z.2.2.bL++aW z.2.2.bK++[Sl.d 5 af.c (some k) z.2.2.aB]++[Sl.d 1 aW (some m) z.2.2.aX])]) (fun z=>((tS (cS H q (Z1.c z.1)) k 5 z.2.2.aB).set m (some (.tok 1 z.2.2.aX.l.length)))) (fun z=>(some (z.2.2,(0:Int),z.1))=some r) ?_ ?_
 ·intro bH aL;refine Y3 ?_;refine aV az.c p.bG fun bI=>Y3 ?_;obtain⟨J,ai,b⟩:=b5 b
  refine iA (tl [0,3,5,6,8,14,47,48]) (fun(z:Nat×Z1×af×af)=>[(49,vi z.1)]) (fun z=>[af.c z.2.2.1,((bM .i64) z.2.2.2.aj++(bM .i64) z.2.2.2.bL++aW z.2.2.2.bK++[Sl.d 5 af.c (some k) z.2.2.2.aB]++[Sl.d 1 aW (some m) z.2.2.2.aX])]) (fun z=>((tS (cS H q (Z1.c z.2.1)) k 5 z.2.2.2.aB).set m (some (.tok 1 z.2.2.2.aX.l.length)))) (fun z=>p.bG.l.length-z.1) (fun z=>Option.bind (gx p u G (fN n) (iv n) (p.bG.l.drop z.1) z.1 z.2.1 z.2.2.2) J=some r) (0,v,aK,(af.mk 6 0 [] true [] Sl.nil)) b wA ?_
  rintro ⟨s,C,E,g⟩ b bJ aM;try dsimp only at b
  refine Y3 ?_;refine ar fun bN aN=>?_;refine ag.bW (fun l=>Option.bind (gx p u G (fN n) (iv n) l s C g) J=some r) b rfl (fun bO al N b=>?_) (fun N b=>?_)
  ·rw [gx] at b;try dsimp only at N
   have bP:=oD N;refine sk aN ?_
   refine fh (tl [0,3,5,6,8,14,47,48,49]) (fun(z:Z1×af×af)=>[]) (fun z=>[af.c z.2.1,((bM .i64) z.2.2.aj++(bM .i64) z.2.2.bL++aW z.2.2.bK++[Sl.d 5 af.c (some k) z.2.2.aB]++[Sl.d 1 aW (some m) z.2.2.aX])]) (fun z=>((tS (cS H q (Z1.c z.1)) k 5 z.2.2.aB).set m (some (.tok 1 z.2.2.aX.l.length)))) (fun z=>Option.bind (gx p u G (fN n) (iv n) (p.bG.l.drop (s+1)) (s+1) z.1 z.2.2) J=some r) ?_ ?_
   ·intro bQ O;refine Y3 ?_;obtain⟨aO,aP,b⟩:=vO al b;refine S (ix az.c s aP) (Y5 ?_);refine bl 16 _ rfl (kl [0,3,5,6,8,14,15,47,48,49]) ?_;refine ar fun bS aR=>Y4 ?_;obtain⟨bT,aS,b⟩:=vO (Q.mB (by omega)) b;refine aH.s0 (jg (f:=az.c) (l:=none) (r:=(some ((s:Nat):Int))) (TK rfl) rfl (TK rfl) rfl rfl trivial rfl aS) rfl ?_;refine Y2 ?_;obtain⟨bU,aT,b⟩:=dm b
    refine ck rfl rfl (wv aT) (Y7 ?_);refine bl 17 _ rfl (kl [0,3,5,6,8,14,16,18,47,48,49]) ?_;refine Y3 ?_;obtain⟨_,rfl,b⟩:=mO b;refine cO b (fun aU b=>?_) (fun aU b=>?_)
    ·refine ag.exit ?_;exact O _ (C,E,g) wA b
    refine sk aR (Y4 ?_);obtain⟨bV,aY,b⟩:=aQ b;refine Sc rfl rfl (GU aY) (Y7 ?_);refine bl 19 _ rfl (kl [0,3,5,6,8,14,16,20,47,48,49]) ?_;refine Y6 ?_
    refine fh (tl [0,3,5,6,8,14,16,21,47,48,49]) (fun(z:Int×Z1×af)=>[(22,.a (.d (.int .i64 z.1)))]) (fun z=>[af.c E,((bM .i64) g.aj++(bM .i64) g.bL++aW g.bK++[Sl.d 5 af.c (some k) g.aB]++[Sl.d 1 aW (some m) g.aX]),af.c z.2.2]) (fun z=>((tS (cS H q (Z1.c z.2.1)) k 5 g.aB).set m (some (.tok 1 g.aX.l.length)))) (fun z=>Option.bind (bif (!decide (z.1=(0:Int))) then(some (Sum.inr ((af.mk 0 0 [] true [] Sl.nil),z.1,z.2.1))) else((bq 16 g.aX (⟨false,[aO.aa]⟩:Sl Bs)).bind fun F=>(bq 80 g.aB (⟨false,[z.2.2]⟩:Sl af)).bind fun y=>(gx p u G (fN n) (iv n) (p.bG.l.drop (s+1)) (s+1) z.2.1 (af.mk g.aj g.bL g.bK y.nl y.l F)))) J=some r) ?_ ?_
    ·intro bX P;refine Y6 ?_;obtain⟨bY,aZ,b⟩:=fG b;refine fc 75 76 rfl rfl (fun hC=>eV rfl rfl (M9 (aZ hC) _ au)) ?_;refine Gk 77 ?_;refine Y3 ?_;obtain⟨_,rfl,b⟩:=mO b;refine cO b (fun a0 b=>?_) (fun a0 b=>?_)
     ·refine Y6 ?_;obtain⟨bZ,a1,b⟩:=aQ b;refine S (gh a1) ?_;obtain⟨K,a2,b⟩:=aQ b;refine sH (bF rfl rfl (am (gT:=gT) (oT:=oT) a2 _ au au (by assumption))) rfl ?_;refine hq ((tS (cS H q (Z1.c K.2.2)) k 5 g.aB).set m (some (.tok 1 g.aX.l.length))) (Y6 ?_);exact P _ (K.2.1,K.2.2,K.1) wA b
     refine Y5 ?_;refine cO b (fun a3 b=>?_) (fun a3 b=>?_)
     ·refine Y4 ?_;obtain⟨b0,a4,b⟩:=aQ b;refine S (gh a4) ?_;obtain⟨L,a5,b⟩:=aQ b;refine sH (bF rfl rfl (an (gT:=gT) (oT:=oT) a5 _ au au (by assumption))) rfl ?_;refine hq ((tS (cS H q (Z1.c L.2.2)) k 5 g.aB).set m (some (.tok 1 g.aX.l.length))) (Y6 ?_);exact P _ (L.2.1,L.2.2,L.1) wA b
     refine Y3 ?_;obtain⟨b1,a6,b⟩:=dm b;refine Sc rfl rfl (pI a6) (Y2 ?_);refine cO b (fun a7 b=>?_) (fun a7 b=>?_)
     ·refine Y3 ?_;exact P _ ((22:Int),C,af.zero) wA b
     refine ag.exit ?_;exact O _ (C,E,g) wA b
    rintro ⟨b2,R,b3⟩ b;try dsimp only at b
    refine ar fun b4 a8=>Y4 ?_;refine cO b (fun a9 b=>?_) (fun a9 b=>?_)
    ·refine Y6 ?_;exact rs (ku ai b:)
    refine sk a8 (ag.draw rfl ?_);refine Y5 ?_;obtain⟨F,a_,b⟩:=aQ b;refine aH.sH (mw (f:=aW) (TK rfl) rfl (TK rfl) (TK rfl) ⟨_,rfl⟩ rfl rfl (by decide) rfl rfl rfl rfl au rfl a_) rfl ?_;refine aH.Dh ((tS (cS H q (Z1.c R)) k 5 g.aB).set m (some (.tok 1 F.l.length))) ?_;refine Y4 ?_;obtain⟨y,a',b⟩:=aQ b
    refine aH.sH (mw (f:=af.c) (TK rfl) rfl (TK rfl) (TK rfl) ⟨_,rfl⟩ rfl rfl (by decide) rfl rfl rfl rfl au rfl a') rfl ?_;refine aH.Dh ((tS (cS H q (Z1.c R)) k 5 y).set m (some (.tok 1 F.l.length))) ?_;refine Y1 ?_;refine aH.uj (Ap (TK rfl) rfl rfl rfl rfl (by repeat (first|exact cZ.zero|apply cZ.succ)) (by repeat (first|exact cZ.zero|apply cZ.succ))) ?_;refine Y1 ?_
    refine aH.uj (Ap (TK rfl) rfl rfl rfl rfl (by repeat (first|exact cZ.zero|apply cZ.succ)) (by repeat (first|exact cZ.zero|apply cZ.succ))) ?_;refine Y1 ?_;exact O _ (R,E,(af.mk g.aj g.bL g.bK y.nl y.l F)) wA b
   rintro ⟨ba,bb,bc⟩ b;try dsimp only at b
   refine Y4 ?_;exact aM _ ((s+1),ba,bb,bc) wA b (dl al)
  rw [gx] at b;have b:=ku ai b;try dsimp only at b
  refine ag.exit ?_;obtain⟨b6,bd,b⟩:=b8 b;exact aL _ (C,E,g) wA (ku bd b:)
 rintro ⟨b7,b9,be⟩ b;try dsimp only at b
 refine ar fun b_ bf=>ag.dU 1 _ rfl (fun j w cs hh hx=>nG 3 hx rfl) ?_;refine ag.dU 1 _ rfl (fun j w cs hh hx=>nG 4 hx rfl) ?_;refine ag.dU 1 (af.c be) rfl (fun j w cs hh hx=>by rw [af.kI]; exact hx) ?_;refine Y5 ?_;refine bf _ ?_;exact rs b
theorem XX (n:Nat) (l:wO (ak:=ak) n) (z:wP (ak:=ak) n) (B:wQ (ak:=ak) n) (C:wR (ak:=ak) n):wR (ak:=ak) (n+1):=by
 intro g E O oT b gT r f H F G m;rw [iv] at f;apply AC.OS (fn:=Tryz.f216) (c:=_) Tryz.br (fun _ _=>Tryz.call216 _ _) Tryz.func216 rfl (n:=35) rfl (rs:=[.cell 6 110,.tmp 7]) rfl rfl;have I:gT≠b:=fun j=>by subst j; obtain⟨_,_,_,J,_⟩:=m; simp_all
 refine ga.ur (h':=(cS H b (Z1.c g))) (by funext n_; simp only [ah.set]; (repeat' split)<;>simp_all) ?_;refine ga.ar fun K p=>?_;refine Y6 ?_;refine p _ ?_;refine ga.ar fun L q=>?_;refine ag.draw rfl ?_;refine AK ?_;refine aH.uj (Ap (TK rfl) rfl rfl rfl rfl (by repeat (first|exact cZ.zero|apply cZ.succ)) (by repeat (first|exact cZ.zero|apply cZ.succ))) ?_;refine Y1 ?_
 refine q _ ?_;refine ga.freeze 9 _ rfl (by repeat (first|exact fF.nil|apply fF.cons)) (kl [2,3,4,6,8]) ?_;refine ga.freeze 8 _ rfl (by repeat (first|exact fF.nil|apply fF.cons)) (kl [2,3,4,6,9]) ?_;refine ga.ar fun M s=>?_;refine ag.draw rfl ?_;refine Y5 ?_;refine aH.eW (xe (TK rfl) rfl rfl au rfl (Nat.le_of_ble_eq_true rfl) rfl rfl) rfl rfl ?_
 refine aH.Dh (H.set b (some (.cells (Z1.c (Z1.mk g.Fd (af.mk 0 0 [] true [] Sl.nil) g.iU g.iC))))) ?_;refine Y2 ?_;refine aH.eW (kz (TK rfl) rfl rfl au rfl (by repeat (first|exact cZ.zero|apply cZ.succ))) rfl rfl ?_;refine aH.Dh (H.set b (some (.cells (Z1.c (Z1.mk g.Fd (af.mk 0 0 [] true [] Sl.nil) true g.iC))))) ?_;refine Y1 ?_;refine s _ ?_
 refine ga.done ⟨_,rfl,rfl,fun fE=>?_⟩;refine Y7 ?_;obtain⟨t,u,f⟩:=bz f;refine sH (bF rfl rfl (l (gT:=gT) (oT:=oT) u _ au au (by assumption))) rfl ?_;refine hq (cS H b (Z1.c t.2.2)) (Y5 ?_);obtain⟨v,w,f⟩:=dD f;refine ag.ret ?_;repeat (first|refine rP ?_|refine rQ ?_|refine eS ?_|refine eR ?_|refine eP ?_)
 refine⟨.inr rfl, ?_⟩;obtain rfl:=oJ f;refine nH.mono (XL w _ au) fun _ _ ⟨_,j⟩=>?_;subst j;refine⟨_,(cS H b (Z1.c v)),rfl, ?_,⟨rfl,rfl⟩⟩;refine fun y N k=>?_;rw [<- k];clear k;exact congrFun (by first|rfl|exact(ah.set_set _ _ _ _).symm|(rw [ah.set_set]; rfl)|(funext n_; simp only [ah.set]; (repeat' split)<;>first|rfl|(exfalso; simp_all; done)|(simp_all; done))) y
theorem iQ:∀(n:Nat),(wO (ak:=ak) n)/\(wP (ak:=ak) n)/\(wQ (ak:=ak) n)/\(wR (ak:=ak) n)
 | 0=>⟨fun b=>by first|cases b|(rw [fN] at b; cases b),fun b=>by first|cases b|(rw [qQ] at b; cases b),fun b=>by first|cases b|(rw [qS] at b; cases b),fun b=>by first|cases b|(rw [iv] at b; cases b)⟩
 | n+1=>⟨XU n (iQ n).1 (iQ n).2.1 (iQ n).2.2.1 (iQ n).2.2.2,XV n (iQ n).1 (iQ n).2.1 (iQ n).2.2.1 (iQ n).2.2.2,XW n (iQ n).1 (iQ n).2.1 (iQ n).2.2.1 (iQ n).2.2.2,XX n (iQ n).1 (iQ n).2.1 (iQ n).2.2.1 (iQ n).2.2.2⟩
def XY (a0:Z1) (b:ax) (a2:af) (a3:Int):Option (af×Int×Z1):=fN F0 a0 b a2 a3
theorem XZ {g f j k oT b gT r}(l:XY g f j k=some r) (H:ah) (m:H b=some (.cells (Z1.c g))) (p:H gT=some oT) (q:gz Tryz.prog oT):At 144 [.d (.ptr b 0),.agg (ax.c f),.agg (af.c j),.d (.int .i64 k)] H (RT (.b_ [.agg (af.c r.1),.d (.int .i64 r.2.1)]) ((cS H b (Z1.c r.2.2)))):=(iQ F0).1 l H m p q
def Ll (f:Z1) (b:ax) (g:af) (j:Int):Option (af×Int×Z1):=fN F0 f b g j
def vr (b:an) (f:ax) (k:af) (l:af):Option (af×Int):=(s_ (Z1.mk b l true 0) k).bind fun m=>bif m then(on (ni b f.aa) fun p=>bif (!p) then(some ((af.mk 0 0 [] true [] Sl.nil),(10:Int))) else(some ((af.mk 0 0 [] true [] Sl.nil),(8:Int)))) else((Ll (Z1.mk b l true 0) f k (1:Int)).bind fun g=>(BE g.1 g.2.1).bind fun j=>some (j.1,j.2))
theorem X0 {g k l j oT gT r}(b:vr g k l j=some r) (H:ah) (F:H gT=some oT) (G:gz Tryz.prog oT):At 99 [.agg (an.c g),.agg (ax.c k),.agg (af.c l),.agg (af.c j)] H (RT (.b_ [.agg (af.c r.1),.d (.int .i64 r.2)]) H):=by
 unfold vr at b;refine AC.oW 34 [.cell 8 110,.tmp 9] Tryz.call99 Tryz.func99 ?_;refine kH ?_;refine sE (dA.rN rfl) rfl (fun _ _ _ ⟨f,I,m,p,q⟩=>?_);subst m p q;have J:f≠gT:=fun s=>by subst s; simp_all
 refine hq (H.set f (some (.cells (Z1.c (Z1.mk g j true 0))))) (Y2 ?_);refine ar fun K t=>Y3 ?_;obtain⟨L,u,b⟩:=bz b;refine s0 (eV rfl rfl (M9 u _ au)) rfl ?_;refine Y1 ?_;refine cE b (fun v b=>?_) (fun v b=>?_)
 ·refine ar fun M w=>Y4 ?_;obtain⟨N,y,b⟩:=dD b;refine Sc rfl rfl (CI y) (Y2 ?_);refine cE b (fun z b=>?_) (fun z b=>?_)
  ·refine Y5 ?_;refine ry ?_;obtain rfl:=oJ b;refine bR.cK H rfl ⟨rfl,rfl⟩ ?_;exact sy
  refine sk w (Y5 ?_);refine ry ?_;obtain rfl:=oJ b;refine bR.cK H rfl ⟨rfl,rfl⟩ ?_;exact sy
 refine sk t (Y4 ?_);obtain⟨B,C,b⟩:=bz b;refine sH (bF rfl rfl (XZ (gT:=gT) (oT:=oT) C _ au au (by assumption))) rfl ?_;refine hq (cS H f (Z1.c B.2.2)) (Y2 ?_);obtain⟨O,E,b⟩:=bz b;refine Sc rfl rfl (XH E) (Y5 ?_);refine ry ?_;obtain rfl:=oJ b;refine bR.cK H rfl ⟨rfl,rfl⟩ ?_;exact sy
def px (b:bJ) (s:(Sl Bs)):List bN->Nat->bf->Option (bf)
 | [],g,j=>some j
 | t::u,g,j=>on (t) fun f=>on ((⟨b.fe.nl,b.fe.l.take g⟩:Sl bN)) fun v=>on (Cj v (fun w=>CX w f)) fun y=>(jB j y (7:Int) b.aa).bind fun k=>on (cL k.Fd f.aM.aa) fun m=>on (bif !m.2 then oS f.aM.aa else false) fun q=>on (ni k.Fd f.aM.aa) fun r=>(jB k (!(m.2||q)) (8:Int) b.aa).bind fun z=>(jB z ((m.2||q)&&(!r)) (10:Int) b.aa).bind fun p=>Option.bind (bif (f.eC&&r) then((vr p.Fd f.aM f.dZ (af.mk 6 0 [] true [] Sl.nil)).bind fun B=>(jB p (!decide (B.2=(0:Int))) (23:Int) b.aa).bind fun C=>some C) else(some p)) fun E=>on (jW s f.aa) fun F=>(jB E (!F) (26:Int) b.aa).bind fun G=>on (G) fun H=>px b s (u) (g+1) H
def Ci (g:bf) (b:bJ) (j:(Sl Bs)):Option bf:=Option.bind (px b j b.fe.l 0 g) fun f=>some f
theorem X1 {p k s J oT j g gT r}(b:Ci p k s=some r) (H:ah) (aw:H j=some (.cells (bf.cg (some g) p))) (ax:H g=some (.tok 2 p.aC.l.length)) (ay:H gT=some oT) (C:gz Tryz.prog oT):At 49 [.d (.ptr j 0),.agg (bJ.c k),.d (Sl.d 1 aW J s)] H (RT (.b_ []) (((tS H g 2 r.aC).set j (some (.cells (bf.cg (some g) r)))))):=by
 unfold Ci at b;refine AC.oW 108 [] Tryz.call49 Tryz.func49 ?_;have az:j≠g:=fun q=>by subst q; simp_all
 have aA:gT≠g:=fun q=>by subst q; obtain⟨_,_,_,K,_⟩:=C; simp_all
 have aB:gT≠j:=fun q=>by subst q; obtain⟨_,_,_,K,_⟩:=C; simp_all
 refine hz ((tS H g 2 p.aC).set j (some (.cells (bf.cg (some g) p)))) (Y6 ?_);refine aV bN.c k.fe fun aD=>Y3 ?_;obtain⟨t,L,b⟩:=b5 b
 refine bx (tl [0,2,4,15,16]) (fun(z:Nat×bf)=>[(17,vi z.1)]) (fun z=>((tS H g 2 z.2.aC).set j (some (.cells (bf.cg (some g) z.2))))) (fun z=>k.fe.l.length-z.1) (fun z=>Option.bind (px k s (k.fe.l.drop z.1) z.1 z.2) t=some r) (0,p) b wA ?_;rintro ⟨m,u⟩ b aE M;try dsimp only at b
 refine Y3 ?_;refine ar fun aF N=>?_;refine ag.bW (fun l=>Option.bind (px k s l m u) t=some r) b rfl (fun aG E v b=>?_) (fun v b=>?_)
 ·rw [px] at b;try dsimp only at v
  have aJ:=oD v;refine sk N (aN (tl [0,2,4,15,16,17]) (fun(z:bf)=>[]) (fun z=>((tS H g 2 z.aC).set j (some (.cells (bf.cg (some g) z))))) (fun z=>Option.bind (px k s (k.fe.l.drop (m+1)) (m+1) z) t=some r) ?_ ?_)
  ·intro aK O;refine Y3 ?_;obtain⟨P,R,b⟩:=vO E b;refine S (ix bN.c m R) (Y5 ?_);refine bl 7 _ rfl (kl [0,2,4,6,15,16,17]) ?_;refine Y4 ?_;obtain⟨U,W,b⟩:=vO (Q.mB (by omega)) b;refine s0 (jg (f:=bN.c) (l:=none) (r:=(some ((m:Nat):Int))) (TK rfl) rfl (TK rfl) rfl rfl trivial rfl W) rfl ?_;refine s0 (makeFunc rfl) rfl ?_
   obtain⟨aL,X,b⟩:=vO (o:=zT U (fun Y=>CY Y P)) (by simp only [XB,XA]) b;refine s0 (fT rfl rfl (fun H=>Xz X H (fun _ _ hx=>XC hx _))) rfl ?_;refine Y7 ?_;obtain⟨F,Z,b⟩:=aQ b;refine sH (bF rfl rfl (wN Z _ au au)) rfl ?_;refine hq ((tS H g 2 F.aC).set j (some (.cells (bf.cg (some g) F)))) (Y9 ?_);obtain⟨aM,aa,b⟩:=dm b
   refine ck rfl rfl (iM aa) (Y7 ?_);refine bl 9 _ rfl (kl [0,2,4,7,10,15,16,17]) ?_;refine Y4 ?_;refine Gk 46 ?_;refine Gk 47 ?_;obtain⟨aO,ab,b⟩:=fo (fun _=>rfl) b;refine dx 48 rfl rfl rfl rfl rfl (fun hC=>rY (ab hC)) ?_;refine AK ?_;obtain⟨aP,ad,b⟩:=dm b;refine ck rfl rfl (CI ad) (Y8 ?_);obtain⟨G,ae,b⟩:=aQ b
   refine sH (bF rfl rfl (wN ae _ au au)) rfl ?_;refine hq ((tS H g 2 G.aC).set j (some (.cells (bf.cg (some g) G)))) (Y6 ?_);refine Gk 68 ?_;refine Y3 ?_;obtain⟨w,af,b⟩:=aQ b;refine sH (bF rfl rfl (wN af _ au au)) rfl ?_;refine hq ((tS H g 2 w.aC).set j (some (.cells (bf.cg (some g) w)))) (Y1 ?_);obtain⟨ai,aj,b⟩:=eB b
   refine aN (tl [0,2,4,7,15,16,17]) (fun(z:bf)=>[]) (fun z=>((tS H g 2 z.aC).set j (some (.cells (bf.cg (some g) z))))) (fun z=>ai z=some r) ?_ ?_
   ·intro aR I;refine Y7 ?_;refine cO b (fun ak b=>?_) (fun ak b=>?_)
    ·refine jM ?_;obtain⟨aS,al,b⟩:=aQ b;refine aH.s0 (eV rfl rfl (X0 (gT:=gT) (oT:=oT) al _ au (by assumption))) rfl ?_;refine Y7 ?_;refine bl 12 _ rfl (kl [0,2,4,7,13,15,16,17]) ?_;refine Y6 ?_;obtain⟨y,am,b⟩:=aQ b;refine sH (bF rfl rfl (wN am _ au au)) rfl ?_;refine hq ((tS H g 2 y.aC).set j (some (.cells (bf.cg (some g) y)))) (Y1 ?_)
     exact I _ y wA b
    refine ag.skip ?_;exact I _ w wA b
   rintro aT b;try dsimp only at b
   have b:=ku aj b;refine ag.draw rfl ?_;refine Y4 ?_;obtain⟨aU,an,b⟩:=dm b;refine ck rfl rfl (tP an) (Y3 ?_);obtain⟨B,ao,b⟩:=aQ b;refine aH.sH (bF rfl rfl (wN ao _ au au)) rfl ?_;refine aH.Dh ((tS H g 2 B.aC).set j (some (.cells (bf.cg (some g) B)))) ?_;refine Y1 ?_;obtain⟨aX,ap,b⟩:=gB b;exact O _ B wA (ku ap b:)
  rintro av b;try dsimp only at b
  refine Y4 ?_;exact M _ ((m+1),av) wA b (dl E)
 rw [px] at b;have b:=ku L b;refine ag.exit ?_;repeat (first|refine eS ?_|refine eR ?_|refine eP ?_)
 obtain rfl:=oJ b;refine bR.eX ((tS H g 2 u.aC).set j (some (.cells (bf.cg (some g) u)))) (xs:=[]) rfl ⟨rfl,rfl⟩ ?_;exact(fun _ _ h=>h)
def tG (f:af->(Sl Bs)->Option (Sl Bs)):List af->(Sl Bs)->Option ((Sl Bs))
 | [],b=>some b
 | g::j,b=>on (g) fun k=>(f k b).bind fun l=>tG f (j) l
def kX:Nat->af->(Sl Bs)->Option (Sl Bs)
 | 0,_,_=>none
 | n+1,b,f=>bif (decide (b.aj=(7:Int))) then((bq 16 f (⟨false,[b.bK]⟩:Sl Bs)).bind fun g=>some g) else(on (bif (decide (b.aj=(5:Int))) then((decide (b.aj=(5:Int)))) else((decide (b.aj=(6:Int))))) fun j=>Option.bind (bif j then(Option.bind (tG (kX n) b.aB.l f) fun k=>some k) else(some f)) fun m=>some m)
def GX (n:Nat):Prop:=∀{a0:af}{b:(Sl Bs)}  {g1:Nat}{r:(Sl Bs)},kX n a0 b=some r->∀(H:ah) (f:H g1=some (.tok 1 b.l.length)),At 145 [.agg (af.c a0),.d (Sl.d 1 aW (some g1) b)] H (RT (.a (.d (Sl.d 1 aW (some g1) r))) ((tS H g1 1 r)))
theorem X2 (n:Nat) (w:GX (ak:=ak) n):GX (ak:=ak) (n+1):=by
 intro f g  g1 r b H P;rw [kX] at b;refine AC.oW 31 [.tmp 4] Tryz.call145 Tryz.func145 ?_;refine hz (tS H g1 1 g) (Y4 ?_);refine aN kN (fun(z:(Sl Bs))=>[(1,.a (.d (Sl.d 1 aW (some g1) z)))]) (fun z=>(tS H g1 1 z)) (fun z=>(some z)=some r) ?_ ?_
 ·intro Q k;refine Y9 ?_;refine cE b (fun y b=>?_) (fun y b=>?_)
  ·refine Y5 ?_;obtain⟨B,C,b⟩:=bz b;refine SH (am aW (TK rfl) rfl (TK rfl) (TK rfl) C) ?_;refine hq (tS H g1 1 B) (Y2 ?_);exact rt b
  obtain⟨E,F,b⟩:=b8 b;refine aN (tl [1,2]) (fun(z:Bool)=>[(16,.a (.d (.bool z)))]) (fun z=>(tS H g1 1 g)) (fun z=>E z=some r) ?_ ?_
  ·intro R m;refine Y4 ?_;refine cP b (fun G b=>?_) (fun G b=>?_)
   ·refine ag.skip ?_;exact m _ (decide (f.aj=(5:Int))) wA b
   refine Y4 ?_;exact m _ (decide (f.aj=(6:Int))) wA b
  rintro U b;try dsimp only at b
  have b:=ku F b;obtain⟨W,p,b⟩:=b5 b;refine cO b (fun I b=>?_) (fun I b=>?_)
  ·refine Y2 ?_;refine s0 (cA (TK rfl) rfl rfl (af.dX _)) rfl ?_;refine aV af.c f.aB fun X=>Y3 ?_;obtain⟨q,J,b⟩:=eB b
   refine bx (tl [20,21]) (fun(z:(Sl Bs)×Nat)=>[(1,.a (.d (Sl.d 1 aW (some g1) z.1))),(22,vi z.2)]) (fun z=>(tS H g1 1 z.1)) (fun z=>f.aB.l.length-z.2) (fun z=>Option.bind (tG (kX n) (f.aB.l.drop z.2) z.1) q=some r) (g,0) b wA ?_;rintro ⟨s,t⟩ b Y K;try dsimp only at b
   refine Y3 ?_;refine ar fun Z L=>?_;refine ag.bW (fun l=>Option.bind (tG (kX n) l s) q=some r) b rfl (fun aa u j b=>?_) (fun j b=>?_)
   ·rw [tG] at b;try dsimp only at j
    have ab:=oD j;refine sk L (ar fun ad M=>Y2 ?_);obtain⟨ae,N,b⟩:=vO u b;refine S (ix af.c t N) (Y4 ?_);refine bl 6 _ rfl (kl [1,20,21,22]) ?_;refine Y3 ?_;obtain⟨v,O,b⟩:=aQ b;refine sH (bF rfl rfl (w O _ au)) rfl ?_;refine hq (tS H g1 1 v) (Y2 ?_);refine M _ ?_;refine Y4 ?_;exact K _ (v,(t+1)) wA b (dl u)
   rw [tG] at b;have b:=ku J b;refine ag.exit ?_;exact k _ s wA (ku p b:)
  refine ag.skip ?_;exact k _ g wA (ku p b:)
 rintro ai b;try dsimp only at b
 refine Y4 ?_;exact rt b
theorem Nb:∀(n:Nat),(GX (ak:=ak) n)
 | 0=>fun b=>by first|cases b|(rw [kX] at b; cases b)
 | n+1=>X2 n (Nb n)
def GY (f:af) (b:(Sl Bs)):Option (Sl Bs):=kX F0 f b
theorem Nc {f b g1 r}(g:GY f b=some r) (H:ah) (j:H g1=some (.tok 1 b.l.length)):At 145 [.agg (af.c f),.d (Sl.d 1 aW (some g1) b)] H (RT (.a (.d (Sl.d 1 aW (some g1) r))) ((tS H g1 1 r))):=(Nb F0) g H j
def y2 (f:af) (b:(Sl Bs)):Option (Sl Bs):=kX F0 f b
end Go.Proofs
