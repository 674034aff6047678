import Derived.Test.YtbbkbkhdciklaaaGreatDoorV2
set_option maxRecDepth 100000
set_option maxHeartbeats 2000000
set_option linter.unusedVariables false
set_option linter.unusedSimpArgs false
namespace Go.Proofs
open Go Go.Ab
open aI aq ag dR fO
attribute [local irreducible] aI aH ag aq
variable {ak:bP}
variable {gK:Nat}
def nj (g:ax) (p:Int) (j:Z7->ax->af->Int->Option (af×Z7)):List af->Z7->af->Option ((Z7×af))
 | [],f,b=>some (f,b)
 | q::r,f,b=>bif (decide (f.eE=(0:Int))) then(on (q) fun s=>(cV p (1:Int)).bind fun t=>(j f g s t).bind fun k=>(bq 80 b.aB (⟨false,[k.1]⟩:Sl af)).bind fun m=>nj g p j (r) k.2 (af.mk b.aj b.bL b.bK m.nl m.l b.aX)) else(some (f,b))
def l_ (f:ay):List Bs->Z7->Z7
 | [],b=>b
 | g::j,b=>on (g) fun k=>on (lE f.bG k) fun l=>on (bif (!l.2) then(on (iw b (22:Int)) fun m=>m) else(b)) fun p=>l_ f (j) p
def kW (q:ay) (y:af) (p:Int) (r:Z7->ax->af->Int->Option (af×Z7)) (s:Z7->ax->af->Int->Option (af×Z7)):List az->Nat->Z7->af->Option ((Z7×af))
 | [],k,b,f=>some (b,f)
 | z::B,k,b,f=>bif (decide (b.eE=(0:Int))) then(on (z) fun g=>(FI q.bG ((k:Nat):Int)).bind fun C=>Option.bind (bif C then(some (b,f)) else((qX y g.aa).bind fun j=>a_ (j.2) (q6 b j.1) false fun E=>on (fun(F:Z7) (G:af)=>(bq 16 f.aX (⟨false,[g.aa]⟩:Sl Bs)).bind fun H=>(bq 80 f.aB (⟨false,[G]⟩:Sl af)).bind fun t=>some (F,(af.mk f.aj f.bL f.bK t.nl t.l H))) fun m=>bif (j.2&&(!E)) then((cV p (1:Int)).bind fun I=>(r b g.aM j.1 I).bind fun u=>m u.2 u.1) else(bif g.eC then((cV p (1:Int)).bind fun J=>(s b g.aM g.dZ J).bind fun v=>m v.2 v.1) else(on (iD g.aM) fun K=>bif K then(on (iw b (22:Int)) fun L=>m L af.zero) else(some (b,f)))))) fun w=>kW q y p r s (B) (k+1) w.1 w.2) else(some (b,f))
mutual
def gG:Nat->Z7->ax->af->Int->Option (af×Z7)
 | 0,_,_,_,_=>none
 | n+1,f,g,m,k=>on (lF f.Fd g.aa) fun y=>bif (!y) then(on (iw f (10:Int)) fun z=>some ((af.mk 0 0 [] true [] Sl.nil),z)) else(on (fun(B:Z7) (j:af)=>(th B k).bind fun b=>bif (!decide (b.eE=(0:Int))) then(some ((af.mk 0 0 [] true [] Sl.nil),b)) else(bif (decide (j.aj=(0:Int))) then(on (iD g) fun C=>on (bif C then(on (iw b (23:Int)) fun E=>E) else(b)) fun F=>some ((af.mk 0 0 [] true [] Sl.nil),F)) else((mM g).bind fun p=>bif p.2 then(((tr n) b p.1 j k).bind fun q=>some (q.1,q.2)) else(on (fu g.aa) fun G=>bif G then((vA b g.aa j).bind fun r=>some (r.1,r.2)) else(on (fH b.Fd g.aa) fun l=>bif (decide (l.1.aj=(4:Int))) then(on (tu b l.1 j) fun s=>some (s.1,s.2)) else(((tt n) b l.1 j k).bind fun t=>some (t.1,t.2))))))) fun u=>bif (f.gU&&(decide (m.aj=(7:Int)))) then((qX f.dG m.bK).bind fun v=>bif (!decide (v.1.aj=(0:Int))) then((Vn f v.1 k).bind fun w=>some (w.1,w.2)) else(u f (af.mk 0 0 [] true [] Sl.nil))) else(u f m))
def tr:Nat->Z7->ax->af->Int->Option (af×Z7)
 | 0,_,_,_,_=>none
 | n+1,m,j,b,p=>on (bif (decide (b.aj=(5:Int))) then(b.aB) else((⟨false,[b]⟩:Sl af))) fun k=>Option.bind (nj j p (gG n) k.l m (af.mk 5 0 [] true [] Sl.nil)) fun f=>on ((f.1,f.2)) fun g=>some (g.2,g.1)
def tt:Nat->Z7->ay->af->Int->Option (af×Z7)
 | 0,_,_,_,_=>none
 | n+1,k,b,f,r=>bif (!decide (f.aj=(6:Int))) then(on (iw k (23:Int)) fun m=>some ((af.mk 0 0 [] true [] Sl.nil),m)) else(on (l_ b f.aX.l k) fun p=>on (p) fun q=>Option.bind (kW b f r (gG n) (j7 n) b.bG.l 0 q (af.mk 6 0 [] true [] Sl.nil)) fun g=>on ((g.1,g.2)) fun j=>some (j.2,j.1))
def j7:Nat->Z7->ax->af->Int->Option (af×Z7)
 | 0,_,_,_,_=>none
 | n+1,b,g,j,k=>((gG n) (Z7.mk b.Fd (af.mk 0 0 [] true [] Sl.nil) true b.fM b.eE) g j k).bind fun f=>some (f.1,(Z7.mk f.2.Fd b.dG b.gU f.2.fM f.2.eE))
end
def vM (n:Nat):Prop:=∀{a0:Z7}{f:ax}{a2:af}{a3:Int}  {b:Nat}{r:(af×Z7)},gG n a0 f a2 a3=some r->∀(H:ah) (g:H b=some (.cells (Z7.c a0))),At 164 [.d (.ptr b 0),.agg (ax.c f),.agg (af.c a2),.d (.int .i64 a3)] H (RT (.a (.agg (af.c r.1))) ((cS H b (Z7.c r.2))))
def vN (n:Nat):Prop:=∀{a0:Z7}{f:ax}{a2:af}{a3:Int}  {b:Nat}{r:(af×Z7)},tr n a0 f a2 a3=some r->∀(H:ah) (g:H b=some (.cells (Z7.c a0))),At 199 [.d (.ptr b 0),.agg (ax.c f),.agg (af.c a2),.d (.int .i64 a3)] H (RT (.a (.agg (af.c r.1))) ((cS H b (Z7.c r.2))))
def vQ (n:Nat):Prop:=∀{a0:Z7}{f:ay}{a2:af}{a3:Int}  {b:Nat}{r:(af×Z7)},tt n a0 f a2 a3=some r->∀(H:ah) (g:H b=some (.cells (Z7.c a0))),At 202 [.d (.ptr b 0),.agg (ay.c f),.agg (af.c a2),.d (.int .i64 a3)] H (RT (.a (.agg (af.c r.1))) ((cS H b (Z7.c r.2))))
def vR (n:Nat):Prop:=∀{a0:Z7}{f:ax}{a2:af}{a3:Int}  {b:Nat}{r:(af×Z7)},j7 n a0 f a2 a3=some r->∀(H:ah) (g:H b=some (.cells (Z7.c a0))),At 227 [.d (.ptr b 0),.agg (ax.c f),.agg (af.c a2),.d (.int .i64 a3)] H (RT (.a (.agg (af.c r.1))) ((cS H b (Z7.c r.2))))
theorem Vu (n:Nat) (ay:vM (ak:=ak) n) (s:vN (ak:=ak) n) (t:vQ (ak:=ak) n) (az:vR (ak:=ak) n):vM (ak:=ak) (n+1):=by
 intro g aA ax aZ  f r b H aB;rw [gG] at b;refine AC.oW 111 [.cell 8 110] Tryz.call164 Tryz.func164 ?_;refine hz (cS H f (Z7.c g)) (Y2 ?_);refine sL (pX rfl) rfl ?_;refine Y2 ?_;refine ar fun aC u=>Y7 ?_;obtain⟨aD,v,b⟩:=dD b;refine ck rfl rfl (Ej v) (Y2 ?_);refine cE b (fun w b=>?_) (fun w b=>?_)
 ·refine Y2 ?_;obtain⟨y,B,b⟩:=dD b;refine sH (bF rfl rfl (pF B _ au)) rfl ?_;refine hq (cS H f (Z7.c y)) (Y5 ?_);exact rt b
 refine sk u ?_;obtain⟨C,E,b⟩:=mT b;refine fh (tl [0,3,5,6,8]) (fun(z:Z7×af×af)=>[]) (fun z=>[af.c z.2.1,af.c z.2.2]) (fun z=>(cS H f (Z7.c z.1))) (fun z=>(C z.1 z.2.1)=some r) ?_ ?_
 ·intro aE j;refine Y7 ?_;refine gC rfl rfl (fun hC=>Ax (k:=31) rfl (xb (TK rfl) rfl rfl rfl rfl)) rfl ?_;refine Gk 32 ?_;refine Y2 ?_;refine cE b (fun F b=>?_) (fun F b=>?_)
  ·refine Y7 ?_;obtain⟨aF,G,b⟩:=bz b;refine ck rfl rfl (F5 G) (Y7 ?_);refine bl 9 _ rfl (kl [0,3,5,6,8]) ?_;refine ar fun aG I=>Y5 ?_;refine cE b (fun J b=>?_) (fun J b=>?_)
   ·refine Y4 ?_;obtain⟨K,L,b⟩:=bz b;refine sH (bF rfl rfl (Vm L _ au)) rfl ?_;refine hq (cS H f (Z7.c K.2)) (Y2 ?_);exact rt b
   refine sk I (Y4 ?_);exact j _ (g,(af.mk 0 0 [] true [] Sl.nil),af.zero) wA b
  refine ag.skip ?_;exact j _ (g,ax,af.zero) wA b
 rintro ⟨aJ,aK,aL⟩ b;try dsimp only at b
 rw [E] at b;try dsimp only at b
 refine Y3 ?_;obtain⟨l,M,b⟩:=bz b;refine sH (bF rfl rfl (Mi M _ au)) rfl ?_;refine hq (cS H f (Z7.c l)) (Y1 ?_);refine ar fun aM N=>Y7 ?_;refine cE b (fun O b=>?_) (fun O b=>?_)
 ·refine Y4 ?_;exact rt b
 refine sk N (ar fun aO P=>Y5 ?_);refine cE b (fun Q b=>?_) (fun Q b=>?_)
 ·refine aN (tl [8]) (fun(z:Z7)=>[]) (fun z=>(cS H f (Z7.c z))) (fun z=>(some ((af.mk 0 0 [] true [] Sl.nil),z))=some r) ?_ ?_
  ·intro aP m;refine Y2 ?_;obtain⟨aQ,R,b⟩:=dD b;refine Sc rfl rfl (rX R) (Y1 ?_);obtain⟨aR,p,b⟩:=b8 b;refine cP b (fun S b=>?_) (fun S b=>?_)
   ·refine Y2 ?_;obtain⟨q,U,b⟩:=eL b;refine sH (bF rfl rfl (pF U _ au)) rfl ?_;refine hq (cS H f (Z7.c q)) (Y1 ?_);exact m _ q wA (ku p b:)
   refine ag.skip ?_;exact m _ l wA (ku p b:)
  rintro aS b;try dsimp only at b
  refine Y4 ?_;exact rt b
 refine sk P (ar fun aT W=>Y2 ?_);obtain⟨aU,X,b⟩:=bz b;refine Sc rfl rfl (FY X) (Y7 ?_);refine bl 11 _ rfl (kl [0,3,5,6,8,12]) ?_;refine Y3 ?_;refine cE b (fun Y b=>?_) (fun Y b=>?_)
 ·refine Y5 ?_;obtain⟨Z,aa,b⟩:=bz b;refine sH (bF rfl rfl (s aa _ au)) rfl ?_;refine hq (cS H f (Z7.c Z.2)) (Y2 ?_);exact rt b
 refine sk W (ar fun aV ab=>Y3 ?_);obtain⟨aW,ad,b⟩:=dD b;refine Sc rfl rfl (uy ad) (Y1 ?_);refine cE b (fun ae b=>?_) (fun ae b=>?_)
 ·refine Y5 ?_;obtain⟨ai,aj,b⟩:=bz b;refine sH (bF rfl rfl (Vr aj _ au)) rfl ?_;refine hq (cS H f (Z7.c ai.2)) (Y2 ?_);exact rt b
 refine sk ab (Y7 ?_);obtain⟨aX,al,b⟩:=dD b;refine ck rfl rfl (kK al) (Y7 ?_);refine bl 13 _ rfl (kl [0,3,6,8]) ?_;refine ar fun aY am=>Y5 ?_;refine cE b (fun an b=>?_) (fun an b=>?_)
 ·refine Y4 ?_;obtain⟨ao,ap,b⟩:=dD b;refine sH (bF rfl rfl (Vs ap _ au)) rfl ?_;refine hq (cS H f (Z7.c ao.2)) (Y2 ?_);exact rt b
 refine sk am (Y5 ?_);obtain⟨av,aw,b⟩:=bz b;refine sH (bF rfl rfl (t aw _ au)) rfl ?_;refine hq (cS H f (Z7.c av.2)) (Y2 ?_);exact rt b
theorem Vv (n:Nat) (L:vM (ak:=ak) n) (ai:vN (ak:=ak) n) (al:vQ (ak:=ak) n) (an:vR (ak:=ak) n):vN (ak:=ak) (n+1):=by
 intro B C J K  k r b H ao;rw [tr] at b;refine AC.oW 50 [.cell 8 110] Tryz.call199 Tryz.func199 ?_;refine hz (cS H k (Z7.c B)) (jM ?_);obtain⟨M,N,b⟩:=b8 b;refine aN (tl [0,3,5,8]) (fun(z:(Sl af))=>[(9,.a (.d (Sl.d 5 af.c none z)))]) (fun z=>(cS H k (Z7.c B))) (fun z=>M z=some r) ?_ ?_
 ·intro ap E;refine Y5 ?_;refine cP b (fun O b=>?_) (fun O b=>?_)
  ·refine Y2 ?_;refine s0 (cA (TK rfl) rfl rfl (af.dX _)) rfl ?_;refine Y2 ?_;exact E _ J.aB wA b
  refine ag.skip ?_;exact E _ (⟨false,[J]⟩:Sl af) wA b
 rintro m b;try dsimp only at b
 have b:=ku N b;refine Y3 ?_;refine aI.tok 5 fun f F=>?_;obtain⟨av,F⟩:=ah.dP F;refine aI.dU 1 _ rfl (fun j w cs hh hx=>tok_cell 3 5 5 hh (t:=f) au hx rfl) ?_;refine Y1 ?_;refine aI.dU 1 _ rfl (fun j w cs hh hx=>tok_cell 3 5 5 hh (t:=f) au hx rfl) ?_;refine Y1 ?_
 refine fh (tl [8,10]) (fun(z:Z7×af)=>[]) (fun z=>[af.c af.zero,((bM .i64) z.2.aj++(bM .i64) z.2.bL++aW z.2.bK++[Sl.d 5 af.c (some f) z.2.aB]++(fun s=>[Sl.d 1 aW none s]) z.2.aX)]) (fun z=>(tS (cS H k (Z7.c z.1)) f 5 z.2.aB)) (fun z=>(some (z.2,z.1))=some r) ?_ ?_
 ·intro aw P;refine Y4 ?_;obtain⟨p,Q,b⟩:=b5 b
  refine iA (tl [0,3,5,8,9,10]) (fun(z:Nat×Z7×af)=>[(11,vi z.1)]) (fun z=>[af.c af.zero,((bM .i64) z.2.2.aj++(bM .i64) z.2.2.bL++aW z.2.2.bK++[Sl.d 5 af.c (some f) z.2.2.aB]++(fun s=>[Sl.d 1 aW none s]) z.2.2.aX)]) (fun z=>(tS (cS H k (Z7.c z.2.1)) f 5 z.2.2.aB)) (fun z=>m.l.length-z.1) (fun z=>Option.bind (nj C K (gG n) (m.l.drop z.1) z.2.1 z.2.2) p=some r) (0,B,(af.mk 5 0 [] true [] Sl.nil)) b wA ?_
  rintro ⟨G,q,g⟩ b ax R;try dsimp only at b
  refine ar fun ay S=>Y3 ?_;refine aV af.c m fun az=>Y3 ?_;refine Gk 26 ?_;refine bE 27 rfl (fun hC=>iJ (TK rfl) rfl rfl (TK rfl) rfl rfl) ?_;refine bE 28 rfl (fun hC=>iI (TK rfl) rfl rfl au rfl) ?_;refine Gk 29 ?_;refine Y2 ?_
  refine ag.uv (fun l=>Option.bind (nj C K (gG n) l q g) p=some r) (Option.bind (some (q,g)) p=some r) b (fun b=>by rw [nj] at b; exact b) (fun _ hd b=>by rw [nj] at b; rw [hd] at b; exact b) rfl rfl (fun aA I u U b=>?_) (fun u b=>?_)
  ·rw [nj] at b;rw [U,cond_true] at b;try dsimp only at u
   have aC:=oD (and_left u);refine sk S (ar fun aD W=>Y6 ?_);obtain⟨aE,X,b⟩:=vO I b;refine Sd (ix af.c G X) (Y2 ?_);obtain⟨aF,Y,b⟩:=aQ b;refine aH.s0 (rT rfl rfl Y) rfl ?_;obtain⟨v,Z,b⟩:=aQ b;refine aH.sH (bF rfl rfl (L Z _ au)) rfl ?_;refine aH.Dh (tS (cS H k (Z7.c v.2)) f 5 g.aB) ?_;refine Y3 ?_
   refine bl 12 _ rfl (kl [0,3,5,8,9,10,11]) ?_;refine Y5 ?_;obtain⟨y,aa,b⟩:=aQ b;refine SH (am af.c (TK rfl) rfl (TK rfl) (TK rfl) aa) ?_;refine hq (tS (cS H k (Z7.c v.2)) f 5 y) (Y3 ?_);refine W _ ?_;refine Y5 ?_;exact R _ ((G+1),v.2,(af.mk g.aj g.bL g.bK y.nl y.l g.aX)) wA b (dl I)
  have b:=ku Q b;try dsimp only at b
  refine ag.exit ?_;obtain⟨aG,ab,b⟩:=b8 b;exact P _ (q,g) wA (ku ab b:)
 rintro ⟨aJ,ad⟩ b;try dsimp only at b
 refine ar fun aK ae=>ag.dU 1 _ rfl (fun j w cs hh hx=>nG 3 hx rfl) ?_;refine ag.dU 1 (af.c ad) rfl (fun j w cs hh hx=>by rw [af.kI]; exact hx) ?_;refine Y4 ?_;refine ae _ ?_;exact rs b
theorem Vw (n:Nat) (al:vM (ak:=ak) n) (bi:vN (ak:=ak) n) (bj:vQ (ak:=ak) n) (an:vR (ak:=ak) n):vQ (ak:=ak) (n+1):=by
 intro ai p q E  g r b H bk;rw [tt] at b;refine AC.oW 123 [.cell 8 110] Tryz.call202 Tryz.func202 ?_;refine hz (cS H g (Z7.c ai)) (Y5 ?_);refine ar fun bm ao=>Y5 ?_;refine cE b (fun ap b=>?_) (fun ap b=>?_)
 ·refine Y2 ?_;obtain⟨av,aw,b⟩:=dD b;refine sH (bF rfl rfl (pF aw _ au)) rfl ?_;refine hq (cS H g (Z7.c av)) (Y5 ?_);exact rt b
 refine sk ao (aN (tl [0,3,5,6,8]) (fun(z:Z7)=>[]) (fun z=>(cS H g (Z7.c z))) (fun z=>(Option.bind (kW p q E (gG n) (j7 n) p.bG.l 0 z (af.mk 6 0 [] true [] Sl.nil)) fun R=>on ((R.1,R.2)) fun U=>some (U.2,U.1))=some r) ?_ ?_)
 ·intro bn ax;refine Y4 ?_;obtain⟨F,ay,b⟩:=b8 b;refine bx (tl [0,3,5,6,8]) (fun(z:Nat×Z7)=>[(9,vi z.1)]) (fun z=>(cS H g (Z7.c z.2))) (fun z=>q.aX.l.length-z.1) (fun z=>F (l_ p (q.aX.l.drop z.1) z.2)=some r) (0,ai) b wA ?_;rintro ⟨G,I⟩ b bo aA;try dsimp only at b
  refine ar fun bp aC=>Y4 ?_;refine aV aW q.aX fun br=>Y2 ?_;refine ag.bW (fun l=>F (l_ p l I)=some r) b rfl (fun bs W J b=>?_) (fun J b=>?_)
  ·rw [l_] at b;try dsimp only at J
   have bt:=oD J;refine sk aC (aN (tl [0,3,5,6,8,9]) (fun(z:Z7)=>[]) (fun z=>(cS H g (Z7.c z))) (fun z=>F (l_ p (q.aX.l.drop (G+1)) z)=some r) ?_ ?_)
   ·intro bu X;refine Y7 ?_;obtain⟨bv,aD,b⟩:=vP W b;refine Sd (ix aW G aD) (Y1 ?_);obtain⟨bw,aE,b⟩:=eL b;refine ck rfl rfl (AV aE) (Y7 ?_);refine bl 10 _ rfl (kl [0,3,5,6,8,9,11]) ?_;refine Y4 ?_;obtain⟨bz,Y,b⟩:=eH b;refine cP b (fun aF b=>?_) (fun aF b=>?_)
    ·refine Y2 ?_;obtain⟨Z,aG,b⟩:=eL b;refine sH (bF rfl rfl (pF aG _ au)) rfl ?_;refine hq (cS H g (Z7.c Z)) (Y1 ?_);exact X _ Z wA (ku Y b:)
    refine ag.skip ?_;exact X _ I wA (ku Y b:)
   rintro aJ b;try dsimp only at b
   refine Y5 ?_;exact aA _ ((G+1),aJ) wA b (dl W)
  rw [l_] at b;have b:=ku ay b;refine ag.exit ?_;obtain⟨bA,aK,b⟩:=b8 b;exact ax _ I wA (ku aK b:)
 rintro aL b;try dsimp only at b
 refine Y3 ?_;refine aI.tok 5 fun k ab=>?_;obtain⟨bB,ab⟩:=ah.dP ab;refine aI.dU 1 _ rfl (fun j w cs hh hx=>tok_cell 3 5 5 hh (t:=k) au hx rfl) ?_;refine aI.tok 1 fun m B=>?_;obtain⟨bC,B⟩:=ah.dP B;obtain⟨bD,B⟩:=ah.dP B
 refine aI.dU 1 _ rfl (fun j w cs hh hx=>tok_cell 4 1 1 hh (t:=m) au hx rfl) ?_;refine Y1 ?_;refine aI.dU 1 _ rfl (fun j w cs hh hx=>tok_cell 3 5 5 hh (t:=k) au hx rfl) ?_;refine aI.dU 1 _ rfl (fun j w cs hh hx=>tok_cell 4 1 1 hh (t:=m) au hx rfl) ?_;refine Y1 ?_
 refine fh (tl [8,12]) (fun(z:Z7×af)=>[]) (fun z=>[af.c af.zero,((bM .i64) z.2.aj++(bM .i64) z.2.bL++aW z.2.bK++[Sl.d 5 af.c (some k) z.2.aB]++[Sl.d 1 aW (some m) z.2.aX])]) (fun z=>((tS (cS H g (Z7.c z.1)) k 5 z.2.aB).set m (some (.tok 1 z.2.aX.l.length)))) (fun z=>(some (z.2,z.1))=some r) ?_ ?_
 ·intro bH aM;refine Y4 ?_;obtain⟨C,aO,b⟩:=b5 b
  refine iA (tl [0,3,5,6,8,12]) (fun(z:Nat×Z7×af)=>[(13,vi z.1)]) (fun z=>[af.c af.zero,((bM .i64) z.2.2.aj++(bM .i64) z.2.2.bL++aW z.2.2.bK++[Sl.d 5 af.c (some k) z.2.2.aB]++[Sl.d 1 aW (some m) z.2.2.aX])]) (fun z=>((tS (cS H g (Z7.c z.2.1)) k 5 z.2.2.aB).set m (some (.tok 1 z.2.2.aX.l.length)))) (fun z=>p.bG.l.length-z.1) (fun z=>Option.bind (kW p q E (gG n) (j7 n) (p.bG.l.drop z.1) z.1 z.2.1 z.2.2) C=some r) (0,aL,(af.mk 6 0 [] true [] Sl.nil)) b wA ?_
  rintro ⟨u,v,f⟩ b bI aP;try dsimp only at b
  refine ar fun bJ aR=>Y4 ?_;refine aV az.c p.bG fun bN=>Y3 ?_;refine Gk 53 ?_;refine bE 54 rfl (fun hC=>iJ (TK rfl) rfl rfl (TK rfl) rfl rfl) ?_;refine bE 55 rfl (fun hC=>iI (TK rfl) rfl rfl au rfl) ?_;refine Gk 56 ?_;refine Y2 ?_
  refine ag.uv (fun l=>Option.bind (kW p q E (gG n) (j7 n) l u v f) C=some r) (Option.bind (some (v,f)) C=some r) b (fun b=>by rw [kW] at b; exact b) (fun _ hd b=>by rw [kW] at b; rw [hd] at b; exact b) rfl rfl (fun bO ad K aS b=>?_) (fun K b=>?_)
  ·rw [kW] at b;rw [aS,cond_true] at b;try dsimp only at K
   have bP:=oD (and_left K);refine sk aR ?_
   refine fh (tl [0,3,5,6,8,12,13]) (fun(z:Z7×af)=>[]) (fun z=>[af.c af.zero,((bM .i64) z.2.aj++(bM .i64) z.2.bL++aW z.2.bK++[Sl.d 5 af.c (some k) z.2.aB]++[Sl.d 1 aW (some m) z.2.aX])]) (fun z=>((tS (cS H g (Z7.c z.1)) k 5 z.2.aB).set m (some (.tok 1 z.2.aX.l.length)))) (fun z=>Option.bind (kW p q E (gG n) (j7 n) (p.bG.l.drop (u+1)) (u+1) z.1 z.2) C=some r) ?_ ?_
   ·intro bQ L;refine Y5 ?_;obtain⟨aT,aU,b⟩:=vO ad b;refine S (ix az.c u aU) (Y4 ?_);refine bl 14 _ rfl (kl [0,3,5,6,8,12,13]) ?_;refine ar fun bS aY=>Y4 ?_;obtain⟨bT,aZ,b⟩:=aQ b;refine Sc rfl rfl (Vt aZ) (Y1 ?_);obtain⟨a0,M,b⟩:=eB b;refine cO b (fun a1 b=>?_) (fun a1 b=>?_)
    ·refine ag.exit ?_;exact L _ (v,f) wA (ku M b:)
    refine sk aY (Y4 ?_);obtain⟨bU,a2,b⟩:=aQ b;refine Sc rfl rfl (F5 a2) (Y7 ?_);refine bl 15 _ rfl (kl [0,3,5,6,8,12,13,14,16]) ?_;refine Y3 ?_
    refine fh (tl [0,3,5,6,8,12,13,14,17]) (fun(z:Z7×af)=>[]) (fun z=>[af.c af.zero,((bM .i64) f.aj++(bM .i64) f.bL++aW f.bK++[Sl.d 5 af.c (some k) f.aB]++[Sl.d 1 aW (some m) f.aX]),af.c z.2]) (fun z=>((tS (cS H g (Z7.c z.1)) k 5 f.aB).set m (some (.tok 1 f.aX.l.length)))) (fun z=>Option.bind ((bq 16 f.aX (⟨false,[aT.aa]⟩:Sl Bs)).bind fun y=>(bq 80 f.aB (⟨false,[z.2]⟩:Sl af)).bind fun s=>some (z.1,(af.mk f.aj f.bL f.bK s.nl s.l y))) a0=some r) ?_ ?_
    ·intro bV N;refine Y6 ?_;obtain⟨bX,a3,b⟩:=fG b;refine fc 80 81 rfl rfl (fun hC=>eV rfl rfl (Mh (a3 hC) _ au)) ?_;refine Gk 82 ?_;refine Y3 ?_;obtain⟨_,rfl,b⟩:=mO b;refine cO b (fun a4 b=>?_) (fun a4 b=>?_)
     ·refine Y6 ?_;obtain⟨bY,a5,b⟩:=aQ b;refine S (gh a5) ?_;obtain⟨O,a6,b⟩:=aQ b;refine sH (bF rfl rfl (al a6 _ au)) rfl ?_;refine hq ((tS (cS H g (Z7.c O.2)) k 5 f.aB).set m (some (.tok 1 f.aX.l.length))) (Y2 ?_);exact N _ (O.2,O.1) wA b
     refine Y5 ?_;refine cO b (fun a7 b=>?_) (fun a7 b=>?_)
     ·refine Y7 ?_;obtain⟨bZ,a8,b⟩:=aQ b;refine S (gh a8) ?_;obtain⟨P,a9,b⟩:=aQ b;refine sH (bF rfl rfl (an a9 _ au)) rfl ?_;refine hq ((tS (cS H g (Z7.c P.2)) k 5 f.aB).set m (some (.tok 1 f.aX.l.length))) (Y2 ?_);exact N _ (P.2,P.1) wA b
     refine Y3 ?_;obtain⟨b0,a_,b⟩:=dm b;refine Sc rfl rfl (rX a_) (Y2 ?_);refine cO b (fun a' b=>?_) (fun a' b=>?_)
     ·refine Y2 ?_;obtain⟨ae,ba,b⟩:=dm b;refine sH (bF rfl rfl (pF ba _ au)) rfl ?_;refine hq ((tS (cS H g (Z7.c ae)) k 5 f.aB).set m (some (.tok 1 f.aX.l.length))) (Y1 ?_);exact N _ (ae,af.zero) wA b
     refine ag.exit ?_;exact L _ (v,f) wA (ku M b:)
    rintro ⟨Q,b1⟩ b;try dsimp only at b
    refine Y6 ?_;obtain⟨y,bb,b⟩:=aQ b;refine SH (am aW (TK rfl) rfl (TK rfl) (TK rfl) bb) ?_;refine hq ((tS (cS H g (Z7.c Q)) k 5 f.aB).set m (some (.tok 1 y.l.length))) (Y8 ?_);obtain⟨s,bc,b⟩:=aQ b;refine SH (am af.c (TK rfl) rfl (TK rfl) (TK rfl) bc) ?_;refine hq ((tS (cS H g (Z7.c Q)) k 5 s).set m (some (.tok 1 y.l.length))) (Y3 ?_)
    exact L _ (Q,(af.mk f.aj f.bL f.bK s.nl s.l y)) wA (ku M b:)
   rintro ⟨bd,be⟩ b;try dsimp only at b
   refine Y5 ?_;exact aP _ ((u+1),bd,be) wA b (dl ad)
  have b:=ku aO b;try dsimp only at b
  refine ag.exit ?_;obtain⟨b2,bf,b⟩:=b8 b;exact aM _ (v,f) wA (ku bf b:)
 rintro ⟨b3,bg⟩ b;try dsimp only at b
 refine ar fun b4 bh=>ag.dU 1 _ rfl (fun j w cs hh hx=>nG 3 hx rfl) ?_;refine ag.dU 1 _ rfl (fun j w cs hh hx=>nG 4 hx rfl) ?_;refine ag.dU 1 (af.c bg) rfl (fun j w cs hh hx=>by rw [af.kI]; exact hx) ?_;refine Y4 ?_;refine bh _ ?_;exact rs b
theorem Vx (n:Nat) (k:vM (ak:=ak) n) (m:vN (ak:=ak) n) (p:vQ (ak:=ak) n) (q:vR (ak:=ak) n):vR (ak:=ak) (n+1):=by
 intro b s u v  g r j H t;rw [j7] at j;refine AC.oW 41 [.cell 8 110] Tryz.call227 Tryz.func227 ?_;refine hz (cS H g (Z7.c b)) (P4 ?_);refine bl 9 _ rfl (kl [0,3,5,6,8,10]) ?_;refine Y6 ?_;refine eW (xe (TK rfl) rfl rfl au rfl (Nat.le_of_ble_eq_true rfl) rfl rfl) rfl rfl ?_
 refine hq (H.set g (some (.cells (Z7.c (Z7.mk b.Fd (af.mk 0 0 [] true [] Sl.nil) b.gU b.fM b.eE))))) (Y2 ?_);refine eW (kz (TK rfl) rfl rfl au rfl (by repeat (first|exact cZ.zero|apply cZ.succ))) rfl rfl ?_;refine hq (H.set g (some (.cells (Z7.c (Z7.mk b.Fd (af.mk 0 0 [] true [] Sl.nil) true b.fM b.eE))))) (Y6 ?_);obtain⟨f,l,j⟩:=bz j
 refine sH (bF rfl rfl (k l _ au)) rfl ?_;refine hq (cS H g (Z7.c f.2)) (Y3 ?_);refine bl 11 _ rfl (kl [0,8,9,10]) ?_;refine Y7 ?_;refine eW (xe (TK rfl) rfl rfl au rfl (Nat.le_of_ble_eq_true rfl) rfl rfl) rfl rfl ?_;refine hq (H.set g (some (.cells (Z7.c (Z7.mk f.2.Fd b.dG f.2.gU f.2.fM f.2.eE))))) (Y2 ?_)
 refine eW (kz (TK rfl) rfl rfl au rfl (by repeat (first|exact cZ.zero|apply cZ.succ))) rfl rfl ?_;refine hq (H.set g (some (.cells (Z7.c (Z7.mk f.2.Fd b.dG b.gU f.2.fM f.2.eE))))) (Y5 ?_);exact rt j
theorem iP:∀(n:Nat),(vM (ak:=ak) n)/\(vN (ak:=ak) n)/\(vQ (ak:=ak) n)/\(vR (ak:=ak) n)
 | 0=>⟨fun b=>by first|cases b|(rw [gG] at b; cases b),fun b=>by first|cases b|(rw [tr] at b; cases b),fun b=>by first|cases b|(rw [tt] at b; cases b),fun b=>by first|cases b|(rw [j7] at b; cases b)⟩
 | n+1=>⟨Vu n (iP n).1 (iP n).2.1 (iP n).2.2.1 (iP n).2.2.2,Vv n (iP n).1 (iP n).2.1 (iP n).2.2.1 (iP n).2.2.2,Vw n (iP n).1 (iP n).2.1 (iP n).2.2.1 (iP n).2.2.2,Vx n (iP n).1 (iP n).2.1 (iP n).2.2.1 (iP n).2.2.2⟩
def Vy (a0:Z7) (b:ax) (a2:af) (a3:Int):Option (af×Z7):=gG F0 a0 b a2 a3
theorem Vz {g f j k b r}(l:Vy g f j k=some r) (H:ah) (m:H b=some (.cells (Z7.c g))):At 164 [.d (.ptr b 0),.agg (ax.c f),.agg (af.c j),.d (.int .i64 k)] H (RT (.a (.agg (af.c r.1))) ((cS H b (Z7.c r.2)))):=(iP F0).1 l H m
def LD (f:Z7) (b:ax) (g:af) (j:Int):Option (af×Z7):=gG F0 f b g j
def tA (g:Z7) (f:ax) (j:af):Option (af×Int×Z7):=(LD g f j (1:Int)).bind fun b=>bif (!decide (b.2.eE=(0:Int))) then(some ((af.mk 0 0 [] true [] Sl.nil),b.2.eE,b.2)) else(some (b.1,(0:Int),b.2))
theorem VA {g j k f r}(b:tA g j k=some r) (H:ah) (s:H f=some (.cells (Z7.c g))):At 119 [.d (.ptr f 0),.agg (ax.c j),.agg (af.c k)] H (RT (.b_ [.agg (af.c r.1),.d (.int .i64 r.2.1)]) ((cS H f (Z7.c r.2.2)))):=by
 unfold tA at b;refine AC.oW 24 [.cell 6 110,.tmp 7] Tryz.call119 Tryz.func119 ?_;refine hz (cS H f (Z7.c g)) (jM ?_);obtain⟨l,m,b⟩:=bz b;refine sH (bF rfl rfl (Vz m _ au)) rfl ?_;refine hq (cS H f (Z7.c l.2)) (Y3 ?_);refine bl 8 _ rfl (kl [0,6]) ?_;refine ar fun t p=>Y7 ?_;refine cE b (fun q b=>?_) (fun q b=>?_)
 ·refine Y9 ?_;exact rt b
 refine sk p (Y5 ?_);exact rt b
def vB (b:an) (f:ax) (k:af) (l:af):Option (af×Int):=on (lF b f.aa) fun g=>a_ (g) (q6 (Z7.mk b l true 0 0) k) false fun m=>bif (g&&m) then(some ((af.mk 0 0 [] true [] Sl.nil),(8:Int))) else((tA (Z7.mk b l true 0 0) f k).bind fun j=>some (j.1,j.2.1))
theorem VB {f j l g r}(b:vB f j l g=some r) (H:ah) :At 69 [.agg (an.c f),.agg (ax.c j),.agg (af.c l),.agg (af.c g)] H (RT (.b_ [.agg (af.c r.1),.d (.int .i64 r.2)]) H):=by
 unfold vB at b;refine AC.oW 31 [.cell 8 110,.tmp 9] Tryz.call69 Tryz.func69 ?_;refine kH ?_;refine sE (dA.rN rfl) rfl (fun _ _ _ ⟨k,z,m,p,q⟩=>?_);subst m p q;refine hq (H.set k (some (.cells (Z7.c (Z7.mk f g true 0 0))))) (Y2 ?_);refine ar fun B s=>Y4 ?_;obtain⟨C,t,b⟩:=dD b;refine Sc rfl rfl (Ej t) (Y3 ?_);obtain⟨E,u,b⟩:=dV b
 refine fc 20 21 rfl rfl (fun hC=>eV rfl rfl (Mh (u hC) _ au)) ?_;refine Y2 ?_;refine cE b (fun v b=>?_) (fun v b=>?_)
 ·refine Y5 ?_;refine ry ?_;obtain rfl:=oJ b;refine bR.cK H rfl ⟨rfl,rfl⟩ ?_;exact sy
 refine sk s (Y4 ?_);obtain⟨w,y,b⟩:=bz b;refine sH (bF rfl rfl (VA y _ au)) rfl ?_;refine hq (cS H k (Z7.c w.2.2)) (Y5 ?_);refine ry ?_;obtain rfl:=oJ b;refine bR.cK H rfl ⟨rfl,rfl⟩ ?_;exact sy
def o9 (g:an) (j:Bs) (k:Bs) (l:Bs):List az->(Sl Z9)->Option ((Sl Z9))
 | [],b=>some b
 | f::m,b=>on (f) fun p=>Option.bind (bif (!p.eC) then(some b) else(on (f) fun q=>on (f) fun r=>(vB g q.aM r.dZ (af.mk 0 0 [] true [] Sl.nil)).bind fun s=>bif (!decide (s.2=(0:Int))) then((cC j k).bind fun t=>on (f) fun u=>(cC t u.aa).bind fun v=>(cC v l).bind fun w=>(bq 24 b (⟨false,[(Z9.mk 23 w)]⟩:Sl Z9)).bind fun y=>some y) else(some b))) fun z=>o9 g j k l (m) z
def tB (j:an) (b:(Sl az)) (k:Bs) (m:Bs) (p:Bs):Option (Sl Z9):=Option.bind (o9 j k m p b.l (Sl.nil:Sl Z9)) fun f=>on (f) fun g=>some g
theorem Mm {m g p q s C r}(b:tB m g p q s=some r) (H:ah) :At 29 [.agg (an.c m),.d (Sl.d 10 az.c C g),.d (.str p),.d (.str q),.d (.str s)] H (RT (.a (.d (Sl.d 2 Z9.c none r))) H):=by
 unfold tB at b;refine AC.oW 61 [.tmp 10] Tryz.call29 Tryz.func29 ?_;refine ag.tok 2 fun f aa=>?_;refine Y2 ?_;refine s0 (dM (k':=2) rfl) rfl ?_;refine Y4 ?_;refine ag.gv 11 2 f rfl au ?_;refine aN kN (fun(z:(Sl Z9))=>[(11,.a (.d (Sl.d 2 Z9.c (some f) z)))]) (fun z=>(tS H f 2 z)) (fun z=>(some z)=some r) ?_ ?_
 ·intro ab E;refine Y4 ?_;obtain⟨u,F,b⟩:=b5 b;refine bx (tl [1,2,3,4,5]) (fun(z:(Sl Z9)×Nat)=>[(11,.a (.d (Sl.d 2 Z9.c (some f) z.1))),(12,vi z.2)]) (fun z=>(tS H f 2 z.1)) (fun z=>g.l.length-z.2) (fun z=>Option.bind (o9 m p q s (g.l.drop z.2) z.1) u=some r) ((Sl.nil:Sl Z9),0) b wA ?_;rintro ⟨t,j⟩ b ad G;try dsimp only at b
  refine ar fun ae I=>Y3 ?_;refine aV az.c g fun af=>Y2 ?_;refine ag.bW (fun l=>Option.bind (o9 m p q s l t) u=some r) b rfl (fun ai k v b=>?_) (fun v b=>?_)
  ·rw [o9] at b;try dsimp only at v
   have aj:=oD v;refine sk I (aN (tl [1,2,3,4,5,12]) (fun(z:(Sl Z9))=>[(11,.a (.d (Sl.d 2 Z9.c (some f) z)))]) (fun z=>(tS H f 2 z)) (fun z=>Option.bind (o9 m p q s (g.l.drop (j+1)) z) u=some r) ?_ ?_)
   ·intro ak w;refine Y1 ?_;refine ar fun al J=>Y3 ?_;obtain⟨ao,K,b⟩:=vO k b;refine S (ix az.c j K) (Y4 ?_);obtain⟨ap,y,b⟩:=eB b;refine cO b (fun L b=>?_) (fun L b=>?_)
    ·refine ag.exit ?_;exact w _ t wA (ku y b:)
    refine sk J (Y4 ?_);obtain⟨av,M,b⟩:=vO k b;refine Sd (ix az.c j M) (Y4 ?_);obtain⟨aw,N,b⟩:=vO k b;refine Sd (ix az.c j N) (Y3 ?_);obtain⟨ax,O,b⟩:=aQ b;refine ck rfl rfl (VB O) (Y7 ?_);refine bl 13 _ rfl (kl [1,2,3,4,5,11,12,14]) ?_;refine Y4 ?_;refine cO b (fun P b=>?_) (fun P b=>?_)
    ·refine Y4 ?_;obtain⟨ay,Q,b⟩:=aQ b;refine S (eN Q) (Y2 ?_);obtain⟨aA,R,b⟩:=vO k b;refine S (ix az.c j R) (Y2 ?_);obtain⟨aB,U,b⟩:=aQ b;refine S (eN U) (Y1 ?_);obtain⟨aC,W,b⟩:=aQ b;refine S (eN W) (Y2 ?_);obtain⟨B,X,b⟩:=aQ b;refine SH (am Z9.c (TK rfl) rfl (TK rfl) (TK rfl) X) ?_;refine hq (tS H f 2 B) (Y2 ?_)
     exact w _ B wA (ku y b:)
    refine ag.skip ?_;exact w _ t wA (ku y b:)
   rintro Y b;try dsimp only at b
   refine Y5 ?_;exact G _ (Y,(j+1)) wA b (dl k)
  rw [o9] at b;have b:=ku F b;refine ag.exit ?_;obtain⟨aD,Z,b⟩:=b8 b;exact E _ t wA (ku Z b:)
 rintro aE b;try dsimp only at b
 refine Y4 ?_;refine ag.eG 10 rfl ?_;refine ry ?_;obtain rfl:=oJ b;refine bR.cK H rfl ⟨rfl,rfl⟩ ?_;exact sy
def q7 (j:an) (f:ay):List aT->(Sl Z9)->Option ((Sl Z9))
 | [],b=>some b
 | g::k,b=>on (g) fun l=>(cC f.aa ([46]:Bs)).bind fun m=>on (g) fun p=>(cC m p.aa).bind fun q=>(tB j l.aG q ([40]:Bs) ([41]:Bs)).bind fun r=>(bq 24 b r).bind fun s=>q7 j f (k) s
def nk (g:an):List ay->(Sl Z9)->Option ((Sl Z9))
 | [],f=>some f
 | j::k,f=>on (j) fun b=>Option.bind (q7 g b b.bA.l f) fun m=>on (m) fun p=>(tB g b.bG b.aa ([46]:Bs) ([]:Bs)).bind fun q=>(bq 24 p q).bind fun r=>on (r) fun s=>nk g (k) s
def yU (b:an):Option (Sl Z9):=Option.bind (nk b b.aA.l (Sl.nil:Sl Z9)) fun f=>on (f) fun g=>some g
theorem VC {g r}(b:yU g=some r) (H:ah) :At 13 [.agg (an.c g)] H (RT (.a (.d (Sl.d 2 Z9.c none r))) H):=by
 unfold yU at b;refine AC.oW 55 [.tmp 2] Tryz.call13 Tryz.func13 ?_;refine ag.tok 2 fun j al=>?_;refine Y2 ?_;refine s0 (dM (k':=2) rfl) rfl ?_;refine Y4 ?_;refine ag.gv 3 2 j rfl au ?_;refine aN kN (fun(z:(Sl Z9))=>[(3,.a (.d (Sl.d 2 Z9.c (some j) z)))]) (fun z=>(tS H j 2 z)) (fun z=>(some z)=some r) ?_ ?_
 ·intro ao I;refine Y4 ?_;obtain⟨m,J,b⟩:=b5 b;refine bx (tl [1]) (fun(z:(Sl Z9)×Nat)=>[(3,.a (.d (Sl.d 2 Z9.c (some j) z.1))),(4,vi z.2)]) (fun z=>(tS H j 2 z.1)) (fun z=>g.aA.l.length-z.2) (fun z=>Option.bind (nk g (g.aA.l.drop z.2) z.1) m=some r) ((Sl.nil:Sl Z9),0) b wA ?_;rintro ⟨s,p⟩ b ap K;try dsimp only at b
  refine ar fun av L=>Y4 ?_;refine aV ay.c g.aA fun aw=>Y2 ?_;refine ag.bW (fun l=>Option.bind (nk g l s) m=some r) b rfl (fun ax B t b=>?_) (fun t b=>?_)
  ·rw [nk] at b;try dsimp only at t
   have az:=oD t;refine sk L (aN (tl [1,4]) (fun(z:(Sl Z9))=>[(3,.a (.d (Sl.d 2 Z9.c (some j) z)))]) (fun z=>(tS H j 2 z)) (fun z=>Option.bind (nk g (g.aA.l.drop (p+1)) z) m=some r) ?_ ?_)
   ·intro aB M;refine Y5 ?_;obtain⟨k,N,b⟩:=vO B b;refine S (ix ay.c p N) (Y4 ?_);refine bl 5 _ rfl (kl [1,3,4]) ?_
    refine aN (tl [1,4,5]) (fun(z:(Sl Z9))=>[(3,.a (.d (Sl.d 2 Z9.c (some j) z)))]) (fun z=>(tS H j 2 z)) (fun z=>Option.bind ((tB g k.bG k.aa ([46]:Bs) ([]:Bs)).bind fun C=>(bq 24 z C).bind fun q=>on (q) fun u=>nk g (g.aA.l.drop (p+1)) u) m=some r) ?_ ?_
    ·intro aC O;refine Y4 ?_;obtain⟨E,P,b⟩:=eB b;refine bx (tl [1,4,5]) (fun(z:(Sl Z9)×Nat)=>[(3,.a (.d (Sl.d 2 Z9.c (some j) z.1))),(6,vi z.2)]) (fun z=>(tS H j 2 z.1)) (fun z=>k.bA.l.length-z.2) (fun z=>Option.bind (q7 g k (k.bA.l.drop z.2) z.1) E=some r) (s,0) b wA ?_;rintro ⟨F,v⟩ b aD Q;try dsimp only at b
     refine ar fun aE R=>Y4 ?_;refine aV aT.c k.bA fun aF=>Y2 ?_;refine ag.bW (fun l=>Option.bind (q7 g k l F) E=some r) b rfl (fun aG w y b=>?_) (fun y b=>?_)
     ·rw [q7] at b;try dsimp only at y
      have aJ:=oD y;refine sk R (ar fun aK U=>Y1 ?_);refine ag.draw rfl ?_;refine Y5 ?_;obtain⟨aL,W,b⟩:=vO w b;refine Sd (ix aT.c v W) (Y4 ?_);obtain⟨aM,X,b⟩:=aQ b;refine aH.s0 (xu rfl rfl X) rfl ?_;refine Y3 ?_;obtain⟨aO,Y,b⟩:=vO w b;refine Sd (ix aT.c v Y) (Y2 ?_);obtain⟨aP,Z,b⟩:=aQ b;refine aH.s0 (xu rfl rfl Z) rfl ?_
      obtain⟨aR,ab,b⟩:=aQ b;refine ck rfl rfl (Mm ab) ?_;obtain⟨G,ad,b⟩:=aQ b;refine aH.sH (mw (f:=Z9.c) (TK rfl) rfl (TK rfl) (TK rfl) ⟨_,rfl⟩ rfl rfl (by decide) rfl rfl rfl rfl au rfl ad) rfl ?_;refine aH.Dh (tS H j 2 G) ?_;refine Y2 ?_;refine U _ ?_;refine Y5 ?_;exact Q _ (G,(v+1)) wA b (dl w)
     rw [q7] at b;have b:=ku P b;refine ag.exit ?_;obtain⟨aS,ae,b⟩:=gB b;exact O _ F wA (ku ae b:)
    rintro aU b;try dsimp only at b
    refine Y7 ?_;obtain⟨C,af,b⟩:=aQ b;refine Sc rfl rfl (Mm af) ?_;obtain⟨q,ai,b⟩:=aQ b;refine SH (am Z9.c (TK rfl) rfl (TK rfl) (TK rfl) ai) ?_;refine hq (tS H j 2 q) (Y2 ?_);obtain⟨aW,aj,b⟩:=gB b;exact M _ q wA (ku aj b:)
   rintro u b;try dsimp only at b
   refine Y5 ?_;exact K _ (u,(p+1)) wA b (dl B)
  rw [nk] at b;have b:=ku J b;refine ag.exit ?_;obtain⟨aX,ak,b⟩:=b8 b;exact I _ s wA (ku ak b:)
 rintro aY b;try dsimp only at b
 refine Y4 ?_;refine ag.eG 2 rfl ?_;refine ry ?_;obtain rfl:=oJ b;refine bR.cK H rfl ⟨rfl,rfl⟩ ?_;exact sy
def ze (f:an):Option (Sl Z9):=(xM f true).bind fun b=>bif (decide ((0:Int)<((b.l.length:Nat):Int))) then(some b) else((yG f).bind fun g=>(bq 24 b g).bind fun j=>(yU f).bind fun k=>(bq 24 j k).bind fun m=>some m)
def A3 (b:an):Option (Sl Z9):=ze b
theorem UW (a0:an):A3 a0=ze a0:=rfl
theorem QZ {j r}(b:A3 j=some r) (H:ah) :At 4 [.agg (an.c j)] H (RT (.a (.d (Sl.d 2 Z9.c none r))) H):=by
 unfold A3 ze at b;refine AC.oW 18 [.tmp 2] Tryz.call4 Tryz.func4 ?_;refine Y2 ?_;refine s0 (dM (k':=2) rfl) rfl ?_;refine Y1 ?_;refine ag.tok 2 fun f w=>?_;refine Y2 ?_;obtain⟨g,k,b⟩:=bz b;refine sH (bF rfl rfl (QG k _ au)) rfl ?_;refine hq (tS H f 2 g) (Y2 ?_);refine ar fun y l=>Y2 ?_;refine aV Z9.c g fun z=>Y2 ?_;refine cE b (fun m b=>?_) (fun m b=>?_)
 ·refine Y4 ?_;refine ag.eG 2 rfl ?_;refine ry ?_;obtain rfl:=oJ b;refine bR.cK H rfl ⟨rfl,rfl⟩ ?_;exact sy
 refine sk l (Y3 ?_);obtain⟨B,p,b⟩:=bz b;refine Sc rfl rfl (Vd p) ?_;obtain⟨q,s,b⟩:=bz b;refine SH (am Z9.c (TK rfl) rfl (TK rfl) (TK rfl) s) ?_;refine hq (tS H f 2 q) (Y5 ?_);obtain⟨C,t,b⟩:=bz b;refine Sc rfl rfl (VC t) ?_;obtain⟨u,v,b⟩:=bz b;refine SH (am Z9.c (TK rfl) rfl (TK rfl) (TK rfl) v) ?_;refine hq (tS H f 2 u) (Y2 ?_)
 refine ag.eG 2 rfl ?_;refine ry ?_;obtain rfl:=oJ b;refine bR.cK H rfl ⟨rfl,rfl⟩ ?_;exact sy
def qa (f:af->Option Int):List af->Int->Option (Int)
 | [],b=>some b
 | g::j,b=>on (g) fun k=>(f k).bind fun l=>(cV b l).bind fun m=>qa f (j) m
def lJ:Nat->af->Option Int
 | 0,_=>none
 | n+1,g=>Option.bind (qa (lJ n) g.aB.l (1:Int)) fun b=>on (b) fun f=>some f
def F8 (n:Nat):Prop:=∀{a0:af}   {r:Int},lJ n a0=some r->∀(H:ah),At 80 [.agg (af.c a0)] H (RT (.a (.d (.int .i64 r))) H)
theorem VD (n:Nat) (q:F8 (ak:=ak) n):F8 (ak:=ak) (n+1):=by
 intro g   r b H;rw [lJ] at b;refine AC.oW 21 [.tmp 2] Tryz.call80 Tryz.func80 ?_;refine Y7 ?_;refine aN kN (fun(z:Int)=>[(3,.a (.d (.int .i64 z)))]) (fun z=>H) (fun z=>(some z)=some r) ?_ ?_
 ·intro G s;refine Y4 ?_;obtain⟨j,t,b⟩:=b5 b;refine bx (tl [1]) (fun(z:Int×Nat)=>[(3,.a (.d (.int .i64 z.1))),(4,vi z.2)]) (fun z=>H) (fun z=>g.aB.l.length-z.2) (fun z=>Option.bind (qa (lJ n) (g.aB.l.drop z.2) z.1) j=some r) ((1:Int),0) b wA ?_;rintro ⟨k,m⟩ b I u;try dsimp only at b
  refine ar fun J v=>Y3 ?_;refine s0 (cA (TK rfl) rfl rfl (af.dX _)) rfl ?_;refine aV af.c g.aB fun K=>Y2 ?_;refine ag.bW (fun l=>Option.bind (qa (lJ n) l k) j=some r) b rfl (fun L p f b=>?_) (fun f b=>?_)
  ·rw [qa] at b;try dsimp only at f
   have M:=oD f;refine sk v (ar fun N w=>Y4 ?_);refine s0 (cA (TK rfl) rfl rfl (af.dX _)) rfl ?_;refine Y1 ?_;obtain⟨O,y,b⟩:=vO p b;refine S (ix af.c m y) (Y1 ?_);obtain⟨P,B,b⟩:=aQ b;refine Sc rfl rfl (q B) ?_;obtain⟨C,E,b⟩:=aQ b;refine S (gh E) (Y2 ?_);refine w _ ?_;refine Y5 ?_
   exact u _ (C,(m+1)) wA b (dl p)
  rw [qa] at b;have b:=ku t b;refine ag.exit ?_;obtain⟨Q,F,b⟩:=b8 b;exact s _ k wA (ku F b:)
 rintro R b;try dsimp only at b
 refine Y4 ?_;exact rt b
theorem Mn:∀(n:Nat),(F8 (ak:=ak) n)
 | 0=>fun b=>by first|cases b|(rw [lJ] at b; cases b)
 | n+1=>VD n (Mn n)
def Mo (b:af):Option Int:=lJ F0 b
theorem Mp {b r}(f:Mo b=some r) (H:ah) :At 80 [.agg (af.c b)] H (RT (.a (.d (.int .i64 r))) H):=(Mn F0) f H 
def EP (b:af):Option Int:=lJ F0 b
def qb (f:af->Option Int):List af->Int->Option (Int)
 | [],b=>some b
 | j::k,b=>on (j) fun l=>(f l).bind fun g=>qb f (k) (if g>b then g else b)
def lK:Nat->af->Option Int
 | 0,_=>none
 | n+1,j=>Option.bind (qb (lK n) j.aB.l (0:Int)) fun b=>on (b) fun f=>(cV f (1:Int)).bind fun g=>some g
def F9 (n:Nat):Prop:=∀{a0:af}   {r:Int},lK n a0=some r->∀(H:ah),At 122 [.agg (af.c a0)] H (RT (.a (.d (.int .i64 r))) H)
theorem VE (n:Nat) (t:F9 (ak:=ak) n):F9 (ak:=ak) (n+1):=by
 intro j   r b H;rw [lK] at b;refine AC.oW 22 [.tmp 2] Tryz.call122 Tryz.func122 ?_;refine Y7 ?_;refine aN kN (fun(z:Int)=>[(3,.a (.d (.int .i64 z)))]) (fun z=>H) (fun z=>((cV z (1:Int)).bind fun k=>some k)=some r) ?_ ?_
 ·intro I u;refine Y4 ?_;obtain⟨m,v,b⟩:=b5 b;refine bx (tl [1]) (fun(z:Int×Nat)=>[(3,.a (.d (.int .i64 z.1))),(4,vi z.2)]) (fun z=>H) (fun z=>j.aB.l.length-z.2) (fun z=>Option.bind (qb (lK n) (j.aB.l.drop z.2) z.1) m=some r) ((0:Int),0) b wA ?_;rintro ⟨f,p⟩ b J w;try dsimp only at b
  refine ar fun K y=>Y3 ?_;refine s0 (cA (TK rfl) rfl rfl (af.dX _)) rfl ?_;refine aV af.c j.aB fun L=>Y2 ?_;refine ag.bW (fun l=>Option.bind (qb (lK n) l f) m=some r) b rfl (fun M q g b=>?_) (fun g b=>?_)
  ·rw [qb] at b;try dsimp only at g
   have N:=oD g;refine sk y (ar fun O B=>Y4 ?_);refine s0 (cA (TK rfl) rfl rfl (af.dX _)) rfl ?_;refine Y1 ?_;obtain⟨P,C,b⟩:=vO q b;refine S (ix af.c p C) (Y1 ?_);obtain⟨s,E,b⟩:=aQ b;refine Sc rfl rfl (t E) (s0 (Io rfl rfl) rfl ?_);refine Y2 ?_;refine B _ ?_;refine Y5 ?_
   exact w _ ((if s>f then s else f),(p+1)) wA b (dl q)
  rw [qb] at b;have b:=ku v b;refine ag.exit ?_;obtain⟨Q,F,b⟩:=b8 b;exact u _ f wA (ku F b:)
 rintro R b;try dsimp only at b
 refine Y2 ?_;obtain⟨k,G,b⟩:=bz b;refine S (gh G) (Y2 ?_);exact rt b
theorem Mq:∀(n:Nat),(F9 (ak:=ak) n)
 | 0=>fun b=>by first|cases b|(rw [lK] at b; cases b)
 | n+1=>VE n (Mq n)
def VF (b:af):Option Int:=lK F0 b
theorem VG {b r}(f:VF b=some r) (H:ah) :At 122 [.agg (af.c b)] H (RT (.a (.d (.int .i64 r))) H):=(Mq F0) f H 
def JB (b:af):Option Int:=lK F0 b
def qc (g:(Sl Bs)) (f:Bs):Nat->Nat->Option (Unit ⊕ Bool)
 | 0,b=>some (Sum.inl ())
 | j+1,b=>on (f) fun k=>(g.l[b]?).bind fun m=>bif ((k==m)) then(some (Sum.inr true)) else(qc g f (j) (b+1) )
def oa (f:(Sl Bs)):List Bs->Nat->Option (Unit ⊕ Bool)
 | [],b=>some (Sum.inl ())
 | g::j,b=>Option.bind (qc f g b 0 ) fun k=>match k with|Sum.inl _=>(on (()) fun _=>oa f (j) (b+1) )|Sum.inr l=>(some (Sum.inr l))
def xS (b:(Sl Bs)):Option Bool:=Option.bind (oa b b.l 0 ) fun f=>match f with|Sum.inl _=>(on (()) fun _=>some false)|Sum.inr g=>(some g)
theorem VH {f w0 r}(b:xS f=some r) (H:ah) :At 203 [.d (Sl.d 1 aW w0 f)] H (RT (.a (.d (.bool r))) H):=by
 unfold xS at b;refine AC.oW 25 [.tmp 2] Tryz.call203 Tryz.func203 ?_;refine Y3 ?_;refine aN kN (fun(z:Unit)=>[]) (fun z=>H) (fun z=>(some false)=some r) ?_ ?_
 ·intro O w;refine Y4 ?_;obtain⟨j,q,b⟩:=b5 b;refine bx (tl [0]) (fun(z:Nat)=>[(3,vi z)]) (fun z=>H) (fun z=>f.l.length-z) (fun z=>Option.bind (oa f (f.l.drop z) z ) j=some r) 0 b wA ?_;rintro g b P y;try dsimp only at b
  refine ar fun Q B=>Y3 ?_;refine aV aW f fun R=>Y2 ?_;refine ag.bW (fun l=>Option.bind (oa f l g ) j=some r) b rfl (fun s t k b=>?_) (fun k b=>?_)
  ·rw [oa] at b;try dsimp only at k
   have S:=oD k;refine sk B (aN (tl [0,3]) (fun(z:Unit)=>[]) (fun z=>H) (fun z=>Option.bind (oa f (f.l.drop (g+1)) (g+1) ) j=some r) ?_ ?_)
   ·intro U C;refine Y5 ?_;obtain⟨u,v,b⟩:=eB b;refine bx (tl [0,3]) (fun(z:Nat)=>[(4,vi z)]) (fun z=>H) (fun z=>g-z) (fun z=>Option.bind (qc f s (g-z) z ) u=some r) 0 b wA ?_;rintro m b W E;try dsimp only at b
    refine ar fun X F=>Y5 ?_;refine ag.I8 (fun l=>Option.bind (qc f s l m ) u=some r) b rfl (fun G p b=>?_) (fun p b=>?_)
    ·rw [qc] at b;try dsimp only at p
     have Y:=oD p;refine sk F (ar fun Z I=>Y4 ?_);obtain⟨aa,J,b⟩:=vO t b;refine Sd (ix aW g J) (Y3 ?_);obtain⟨ab,K,b⟩:=aQ b;refine Sd (ix aW m K) (Y3 ?_);refine cO b (fun L b=>?_) (fun L b=>?_)
     ·refine Y3 ?_;refine ry ?_;have b:=ku v b;have b:=ku q b;obtain rfl:=oJ b;refine bR.cK H rfl ⟨rfl,rfl⟩ ?_;exact(fun _ _ h=>h)
     refine sk I (Y5 ?_);exact E _ (m+1) wA b (dn G)
    rw [qc] at b;have b:=ku v b;try dsimp only at b
    refine ag.exit ?_;obtain⟨ad,M,b⟩:=gB b;exact C _ () wA (ku M b:)
   rintro _ b;try dsimp only at b
   refine Y5 ?_;exact y _ (g+1) wA b (dl t)
  rw [oa] at b;have b:=ku q b;try dsimp only at b
  refine ag.exit ?_;obtain⟨ae,N,b⟩:=b8 b;exact w _ () wA (ku N b:)
 rintro _ b;try dsimp only at b
 refine Y3 ?_;exact rt b
def xT (b:af) (f:Bool):Option Bool:=bif (decide (b.aj=(0:Int))) then(some ((((decide (b.bL=(0:Int)))&&((b.bK==([]:Bs))))&&(decide (((b.aB.l.length:Nat):Int)=(0:Int))))&&(decide (((b.aX.l.length:Nat):Int)=(0:Int))))) else(bif (decide (b.aj=(1:Int))) then(some (((((decide (b.bL=(0:Int)))||(decide (b.bL=(1:Int))))&&((b.bK==([]:Bs))))&&(decide (((b.aB.l.length:Nat):Int)=(0:Int))))&&(decide (((b.aX.l.length:Nat):Int)=(0:Int))))) else(bif (decide (b.aj=(2:Int))) then(some ((((b.bK==([]:Bs)))&&(decide (((b.aB.l.length:Nat):Int)=(0:Int))))&&(decide (((b.aX.l.length:Nat):Int)=(0:Int))))) else(bif (decide (b.aj=(3:Int))) then(some (((decide (b.bL=(0:Int)))&&(decide (((b.aB.l.length:Nat):Int)=(0:Int))))&&(decide (((b.aX.l.length:Nat):Int)=(0:Int))))) else(bif (decide (b.aj=(4:Int))) then(on (bif (((decide (b.bL=(0:Int)))&&(decide (((b.aB.l.length:Nat):Int)=(0:Int))))&&(decide (((b.aX.l.length:Nat):Int)=(0:Int)))) then fB b.bK else false) fun g=>some (((((((decide (b.bL=(0:Int)))&&(decide (((b.aB.l.length:Nat):Int)=(0:Int))))&&(decide (((b.aX.l.length:Nat):Int)=(0:Int))))&&g)&&(!(b.bK==([116,114,117,101]:Bs))))&&(!(b.bK==([102,97,108,115,101]:Bs))))&&(!(b.bK==([110,117,108,108]:Bs))))) else(bif (decide (b.aj=(5:Int))) then(some (((decide (b.bL=(0:Int)))&&((b.bK==([]:Bs))))&&(decide (((b.aX.l.length:Nat):Int)=(0:Int))))) else(bif (decide (b.aj=(6:Int))) then(a_ ((((decide (b.bL=(0:Int)))&&((b.bK==([]:Bs))))&&(decide (((b.aX.l.length:Nat):Int)=((b.aB.l.length:Nat):Int))))) (xS b.aX) false fun j=>some ((((decide (b.bL=(0:Int)))&&((b.bK==([]:Bs))))&&(decide (((b.aX.l.length:Nat):Int)=((b.aB.l.length:Nat):Int))))&&(!j))) else(bif (decide (b.aj=(7:Int))) then(on (bif (((f&&(decide (b.bL=(0:Int))))&&(decide (((b.aB.l.length:Nat):Int)=(0:Int))))&&(decide (((b.aX.l.length:Nat):Int)=(0:Int)))) then fB b.bK else false) fun k=>some ((((f&&(decide (b.bL=(0:Int))))&&(decide (((b.aB.l.length:Nat):Int)=(0:Int))))&&(decide (((b.aX.l.length:Nat):Int)=(0:Int))))&&k)) else(some false))))))))
theorem VI {f g r}(b:xT f g=some r) (H:ah) :At 165 [.agg (af.c f),.d (.bool g)] H (RT (.a (.d (.bool r))) H):=by
 unfold xT at b;refine AC.oW 193 [.tmp 4] Tryz.call165 Tryz.func165 ?_;refine Y4 ?_;refine ar fun z j=>Y9 ?_;refine cE b (fun k b=>?_) (fun k b=>?_)
 ·refine Y6 ?_;refine Gk 13 ?_;refine Gk 14 ?_;refine Y3 ?_;refine bE 18 rfl (fun hC=>cA (TK rfl) rfl rfl (af.dX _)) ?_;refine bE 19 rfl (fun hC=>dW af.c f.aB) ?_;refine Gk 20 ?_;refine Y3 ?_;refine Gk 24 ?_;refine bE 25 rfl (fun hC=>dW aW f.aX) ?_;refine Gk 26 ?_;refine Y3 ?_;exact rt b
 refine Y4 ?_;refine cE b (fun l b=>?_) (fun l b=>?_)
 ·refine Y6 ?_;refine Gk 35 ?_;refine Gk 36 ?_;refine Y3 ?_;refine Gk 40 ?_;refine Gk 41 ?_;refine Y3 ?_;refine bE 45 rfl (fun hC=>cA (TK rfl) rfl rfl (af.dX _)) ?_;refine bE 46 rfl (fun hC=>dW af.c f.aB) ?_;refine Gk 47 ?_;refine Y3 ?_;refine Gk 51 ?_;refine bE 52 rfl (fun hC=>dW aW f.aX) ?_;refine Gk 53 ?_;refine Y3 ?_;exact rt b
 refine Y4 ?_;refine cE b (fun m b=>?_) (fun m b=>?_)
 ·refine Y6 ?_;refine bE 62 rfl (fun hC=>cA (TK rfl) rfl rfl (af.dX _)) ?_;refine bE 63 rfl (fun hC=>dW af.c f.aB) ?_;refine Gk 64 ?_;refine Y3 ?_;refine Gk 68 ?_;refine bE 69 rfl (fun hC=>dW aW f.aX) ?_;refine Gk 70 ?_;refine Y3 ?_;exact rt b
 refine Y4 ?_;refine cE b (fun p b=>?_) (fun p b=>?_)
 ·refine Y6 ?_;refine bE 79 rfl (fun hC=>cA (TK rfl) rfl rfl (af.dX _)) ?_;refine bE 80 rfl (fun hC=>dW af.c f.aB) ?_;refine Gk 81 ?_;refine Y3 ?_;refine Gk 85 ?_;refine bE 86 rfl (fun hC=>dW aW f.aX) ?_;refine Gk 87 ?_;refine Y3 ?_;exact rt b
 refine Y4 ?_;refine cE b (fun q b=>?_) (fun q b=>?_)
 ·refine Y6 ?_;refine bE 96 rfl (fun hC=>cA (TK rfl) rfl rfl (af.dX _)) ?_;refine bE 97 rfl (fun hC=>dW af.c f.aB) ?_;refine Gk 98 ?_;refine Y3 ?_;refine Gk 102 ?_;refine bE 103 rfl (fun hC=>dW aW f.aX) ?_;refine Gk 104 ?_;refine Y3 ?_;refine Gk 108 ?_;obtain⟨B,s,b⟩:=jv (fun _=>rfl) b
  refine dx 109 rfl rfl rfl rfl rfl (fun hC=>gV (s hC)) ?_;refine Y3 ?_;refine Gk 113 ?_;refine Gk 114 ?_;refine Y3 ?_;refine Gk 118 ?_;refine Gk 119 ?_;refine Y3 ?_;refine Gk 123 ?_;refine Gk 124 ?_;refine Y3 ?_;exact rt b
 refine Y4 ?_;refine cE b (fun t b=>?_) (fun t b=>?_)
 ·refine Y6 ?_;refine Gk 133 ?_;refine Gk 134 ?_;refine Y3 ?_;refine Gk 138 ?_;refine bE 139 rfl (fun hC=>dW aW f.aX) ?_;refine Gk 140 ?_;refine Y3 ?_;exact rt b
 refine Y4 ?_;refine cE b (fun u b=>?_) (fun u b=>?_)
 ·refine Y6 ?_;refine Gk 149 ?_;refine Gk 150 ?_;refine Y3 ?_;refine Gk 154 ?_;refine bE 155 rfl (fun hC=>dW aW f.aX) ?_;refine Y1 ?_;refine bE 157 rfl (fun hC=>cA (TK rfl) rfl rfl (af.dX _)) ?_;refine bE 158 rfl (fun hC=>dW af.c f.aB) ?_;refine G2 156 159 rfl rfl BI ?_;refine Y3 ?_;refine Gk 163 ?_;obtain⟨C,v,b⟩:=dV b
  refine dx 164 rfl rfl rfl rfl rfl (fun hC=>VH (v hC)) ?_;refine Gk 165 ?_;refine Y3 ?_;exact rt b
 refine Y4 ?_;refine cE b (fun w b=>?_) (fun w b=>?_)
 ·refine Y4 ?_;refine Gk 172 ?_;refine Gk 173 ?_;refine Y3 ?_;refine bE 177 rfl (fun hC=>cA (TK rfl) rfl rfl (af.dX _)) ?_;refine bE 178 rfl (fun hC=>dW af.c f.aB) ?_;refine Gk 179 ?_;refine Y3 ?_;refine Gk 183 ?_;refine bE 184 rfl (fun hC=>dW aW f.aX) ?_;refine Gk 185 ?_;refine Y3 ?_;refine Gk 189 ?_;obtain⟨E,y,b⟩:=jv (fun _=>rfl) b
  refine dx 190 rfl rfl rfl rfl rfl (fun hC=>gV (y hC)) ?_;refine Y3 ?_;exact rt b
 refine sk j (Y3 ?_);exact rt b
def vS (b:Bool):List Bs->Unit ⊕ Bool
 | []=>Sum.inl ()
 | f::g=>on (bif b then f else([]:Bs)) fun j=>on (bif b then fB j else false) fun k=>bif (b&&(!k)) then(Sum.inr false) else(vS b (g) )
def oc (b:Bool) (f:af->Bool->Option Bool):List af->Option (Unit ⊕ Bool)
 | []=>some (Sum.inl ())
 | g::j=>on (g) fun k=>(f k b).bind fun l=>bif (!l) then(some (Sum.inr false)) else(oc b f (j) )
def lM:Nat->af->Bool->Option Bool
 | 0,_,_=>none
 | n+1,f,b=>(xT f b).bind fun g=>bif (!g) then(some false) else(on (vS b f.aX.l ) fun j=>match j with|Sum.inl _=>(on (()) fun _=>Option.bind (oc b (lM n) f.aB.l ) fun k=>match k with|Sum.inl _=>(on (()) fun _=>some true)|Sum.inr m=>(some m))|Sum.inr p=>(some p))
def F_ (n:Nat):Prop:=∀{a0:af}{b:Bool}   {r:Bool},lM n a0 b=some r->∀(H:ah),At 123 [.agg (af.c a0),.d (.bool b)] H (RT (.a (.d (.bool r))) H)
theorem VJ (n:Nat) (y:F_ (ak:=ak) n):F_ (ak:=ak) (n+1):=by
 intro f g   r b H;rw [lM] at b;refine AC.oW 43 [.tmp 4] Tryz.call123 Tryz.func123 ?_;refine Y4 ?_;refine ar fun ab B=>Y3 ?_;obtain⟨ad,C,b⟩:=bz b;refine Sc rfl rfl (VI C) (Y2 ?_);refine cE b (fun E b=>?_) (fun E b=>?_)
 ·refine Y3 ?_;exact rt b
 refine sk B (aN (tl [1,2]) (fun(z:Unit)=>[]) (fun z=>H) (fun z=>(Option.bind (oc g (lM n) f.aB.l ) fun F=>match F with|Sum.inl _=>(on (()) fun _=>some true)|Sum.inr G=>(some G))=some r) ?_ ?_)
 ·intro ae I;refine Y4 ?_;obtain⟨m,p,b⟩:=b8 b;refine bx (tl [1,2]) (fun(z:Nat)=>[(5,vi z)]) (fun z=>H) (fun z=>f.aX.l.length-z) (fun z=>m (vS g (f.aX.l.drop z) )=some r) 0 b wA ?_;rintro q b ai J;try dsimp only at b
  refine ar fun aj K=>Y4 ?_;refine aV aW f.aX fun al=>Y2 ?_;refine ag.bW (fun l=>m (vS g l )=some r) b rfl (fun am s j b=>?_) (fun j b=>?_)
  ·rw [vS] at b;try dsimp only at j
   have an:=oD j;refine sk K (ar fun ao L=>Y5 ?_);refine Gk 20 ?_;refine Y1 ?_;obtain⟨ap,M,b⟩:=lz (fun _=>s) b;refine fc 21 22 rfl rfl (fun hC=>ix aW q (M hC)) ?_;refine Gk 23 ?_;obtain⟨av,N,b⟩:=lz (fun _=>rfl) b;refine dx 24 rfl rfl rfl rfl rfl (fun hC=>gV (N hC)) ?_;refine Gk 25 ?_;refine Y2 ?_;refine cP b (fun O b=>?_) (fun O b=>?_)
   ·refine Y3 ?_;exact rs (ku p b:)
   refine sk L (Y5 ?_);exact J _ (q+1) wA b (dl s)
  rw [vS] at b;have b:=ku p b;try dsimp only at b
  refine ag.exit ?_;obtain⟨aw,P,b⟩:=b8 b;exact I _ () wA (ku P b:)
 rintro _ b;try dsimp only at b
 refine aN kN (fun(z:Unit)=>[]) (fun z=>H) (fun z=>(some true)=some r) ?_ ?_
 ·intro ax Q;refine Y4 ?_;obtain⟨t,u,b⟩:=b5 b;refine bx (tl [1,2]) (fun(z:Nat)=>[(6,vi z)]) (fun z=>H) (fun z=>f.aB.l.length-z) (fun z=>Option.bind (oc g (lM n) (f.aB.l.drop z) ) t=some r) 0 b wA ?_;rintro v b ay R;try dsimp only at b
  refine ar fun az U=>Y3 ?_;refine s0 (cA (TK rfl) rfl rfl (af.dX _)) rfl ?_;refine aV af.c f.aB fun aA=>Y2 ?_;refine ag.bW (fun l=>Option.bind (oc g (lM n) l ) t=some r) b rfl (fun aC w k b=>?_) (fun k b=>?_)
  ·rw [oc] at b;try dsimp only at k
   have aD:=oD k;refine sk U (ar fun aE W=>Y3 ?_);refine s0 (cA (TK rfl) rfl rfl (af.dX _)) rfl ?_;refine Y1 ?_;obtain⟨aF,X,b⟩:=vO w b;refine S (ix af.c v X) (Y2 ?_);obtain⟨aG,Y,b⟩:=aQ b;refine Sc rfl rfl (y Y) (Y2 ?_);refine cO b (fun Z b=>?_) (fun Z b=>?_)
   ·refine Y3 ?_;exact rs (ku u b:)
   refine sk W (Y5 ?_);exact R _ (v+1) wA b (dl w)
  rw [oc] at b;have b:=ku u b;try dsimp only at b
  refine ag.exit ?_;obtain⟨aJ,aa,b⟩:=b8 b;exact Q _ () wA (ku aa b:)
 rintro _ b;try dsimp only at b
 refine Y3 ?_;exact rt b
theorem Mr:∀(n:Nat),(F_ (ak:=ak) n)
 | 0=>fun b=>by first|cases b|(rw [lM] at b; cases b)
 | n+1=>VJ n (Mr n)
def VK (f:af) (b:Bool):Option Bool:=lM F0 f b
theorem VL {f b r}(g:VK f b=some r) (H:ah) :At 123 [.agg (af.c f),.d (.bool b)] H (RT (.a (.d (.bool r))) H):=(Mr F0) g H 
def VM (f:af) (b:Bool):Option Bool:=lM F0 f b
def qd (f:af):Option Bool:=(EP f).bind fun b=>a_ ((decide (b<=(4096:Int)))) (JB f) (0:Int) fun g=>a_ (((decide (b<=(4096:Int)))&&(decide (g<=(24:Int))))) (VM f true) false fun j=>some (((decide (b<=(4096:Int)))&&(decide (g<=(24:Int))))&&j)
def Ga (b:af):Option Bool:=qd b
theorem Cp {f r}(b:Ga f=some r) (H:ah) :At 77 [.agg (af.c f)] H (RT (.a (.d (.bool r))) H):=by
 unfold Ga qd at b;refine AC.oW 15 [.tmp 2] Tryz.call77 Tryz.func77 ?_;refine Y6 ?_;obtain⟨l,g,b⟩:=bz b;refine Sc rfl rfl (Mp g) (Y3 ?_);obtain⟨m,j,b⟩:=dV b;refine dx 7 rfl rfl rfl rfl rfl (fun hC=>VG (j hC)) ?_;refine Gk 8 ?_;refine Y3 ?_;obtain⟨p,k,b⟩:=dV b;refine dx 12 rfl rfl rfl rfl rfl (fun hC=>VL (k hC)) ?_;refine Y3 ?_;exact rt b
def qe (b:af->Option Bool):List af->Option (Unit ⊕ Bool)
 | []=>some (Sum.inl ())
 | f::g=>on (f) fun j=>(b j).bind fun k=>bif (!k) then(some (Sum.inr false)) else(qe b (g) )
def mJ:Nat->af->Option Bool
 | 0,_=>none
 | n+1,b=>Option.bind (qe (mJ n) b.aB.l ) fun f=>match f with|Sum.inl _=>(on (()) fun _=>some (!decide (b.aj=(7:Int))))|Sum.inr g=>(some g)
def Gb (n:Nat):Prop:=∀{a0:af}   {r:Bool},mJ n a0=some r->∀(H:ah),At 120 [.agg (af.c a0)] H (RT (.a (.d (.bool r))) H)
theorem VN (n:Nat) (q:Gb (ak:=ak) n):Gb (ak:=ak) (n+1):=by
 intro f   r b H;rw [mJ] at b;refine AC.oW 21 [.tmp 2] Tryz.call120 Tryz.func120 ?_;refine Y4 ?_;refine aN (tl [1]) (fun(z:Unit)=>[]) (fun z=>H) (fun z=>(some (!decide (f.aj=(7:Int))))=some r) ?_ ?_
 ·intro E s;refine Y4 ?_;obtain⟨j,k,b⟩:=b5 b;refine bx (tl [1]) (fun(z:Nat)=>[(3,vi z)]) (fun z=>H) (fun z=>f.aB.l.length-z) (fun z=>Option.bind (qe (mJ n) (f.aB.l.drop z) ) j=some r) 0 b wA ?_;rintro m b F t;try dsimp only at b
  refine ar fun G u=>Y3 ?_;refine s0 (cA (TK rfl) rfl rfl (af.dX _)) rfl ?_;refine aV af.c f.aB fun I=>Y2 ?_;refine ag.bW (fun l=>Option.bind (qe (mJ n) l ) j=some r) b rfl (fun J p g b=>?_) (fun g b=>?_)
  ·rw [qe] at b;try dsimp only at g
   have K:=oD g;refine sk u (ar fun L v=>Y3 ?_);refine s0 (cA (TK rfl) rfl rfl (af.dX _)) rfl ?_;refine Y1 ?_;obtain⟨M,w,b⟩:=vO p b;refine S (ix af.c m w) (Y1 ?_);obtain⟨N,y,b⟩:=aQ b;refine Sc rfl rfl (q y) (Y2 ?_);refine cO b (fun B b=>?_) (fun B b=>?_)
   ·refine Y3 ?_;exact rs (ku k b:)
   refine sk v (Y5 ?_);exact t _ (m+1) wA b (dl p)
  rw [qe] at b;have b:=ku k b;try dsimp only at b
  refine ag.exit ?_;obtain⟨O,C,b⟩:=b8 b;exact s _ () wA (ku C b:)
 rintro _ b;try dsimp only at b
 refine Y6 ?_;exact rt b
theorem Ms:∀(n:Nat),(Gb (ak:=ak) n)
 | 0=>fun b=>by first|cases b|(rw [mJ] at b; cases b)
 | n+1=>VN n (Ms n)
def Mt (b:af):Option Bool:=mJ F0 b
theorem Mu {b r}(f:Mt b=some r) (H:ah) :At 120 [.agg (af.c b)] H (RT (.a (.d (.bool r))) H):=(Ms F0) f H 
def EQ (b:af):Option Bool:=mJ F0 b
def vU  :Option Bool:=some true
def vV (b:Nat) (f:Nat->Option Bool) :Option Bool:=f (b+1)
def vW (k:(Sl aP)) (b:Nat) (m:Nat->Option Bool):Nat->Nat->Option Bool
 | 0,_=>none
 | q+1,f=>(k.l[b]?).bind fun r=>bif (decide (((f:Nat):Int)<((r.aG.l.length:Nat):Int))) then((k.l[b]?).bind fun s=>(s.aG.l[f]?).bind fun g=>(AN g.aa).bind fun j=>a_ (!(!j)) (Ga g.dr) false fun p=>a_ (!((!j)||(!p))) (Mt g.dr) false fun t=>bif (((!j)||(!p))||(!t)) then(some false) else((vW k b m q) (f+1))) else(vV b m )
def pG (b:(Sl aP)) :Nat->Nat->Option Bool
 | 0,_=>none
 | n10+1,f=>bif (decide (((f:Nat):Int)<((b.l.length:Nat):Int))) then((b.l[f]?).bind fun j=>(AN j.aa).bind fun g=>a_ (!(!g)) (b.l[f]?) aP.zero fun k=>bif ((!g)||(decide ((16:Int)<((k.aG.l.length:Nat):Int)))) then(some false) else(vW b f ((pG b n10)) (Option.elim (b.l[f]?) 1 (fun m=>m.aG.l.length+1)) 0)) else(vU   )
def Cr (b:(Sl aP)):Option Bool:=bif (decide ((16:Int)<((b.l.length:Nat):Int))) then(some false) else(pG b (b.l.length+1) 0)
theorem Ct {f w0 r}(b:Cr f=some r) (H:ah) :At 70 [.d (Sl.d 2 aP.c w0 f)] H (RT (.a (.d (.bool r))) H):=by
 unfold Cr at b;refine AC.oW 65 [.tmp 2] Tryz.call70 Tryz.func70 ?_;refine Y3 ?_;refine ar fun W s=>Y2 ?_;refine aV aP.c f fun X=>Y2 ?_;refine cE b (fun t b=>?_) (fun t b=>?_)
 ·refine Y3 ?_;exact rt b
 refine sk s (aN kN (fun(z:Unit)=>[]) (fun z=>H) (fun z=>vU =some r) ?_ ?_)
 ·intro Y u;refine Y4 ?_;refine bx (tl [0]) (fun(z:Nat×Nat)=>[(3,vi z.2)]) (fun z=>H) (fun z=>z.1) (fun z=>pG f z.1 z.2=some r) ((f.l.length+1),0) b wA ?_;rintro ⟨n10,g⟩ b Z v;try dsimp only at b
  cases n10 with
  | zero=>cases b
  | succ n10 =>
    rw [pG] at b;refine ar fun aa w=>Y3 ?_;refine aV aP.c f fun ab=>Y2 ?_;refine cE b (fun j b=>?_) (fun j b=>?_)
    ·try dsimp only at j
     have ad:=oD j;refine sk w (aN (tl [0,3]) (fun(z:Unit)=>[]) (fun z=>H) (fun z=>vV g ((pG f n10)) =some r) ?_ ?_)
     ·intro ae y;refine Y1 ?_;refine ar fun af B=>Y3 ?_;obtain⟨ai,C,b⟩:=bO b;refine S (ix aP.c g C) (Y2 ?_);obtain⟨aj,E,b⟩:=bO b;refine Sc rfl rfl (gV E) (Y4 ?_);obtain⟨F,G,b⟩:=gO b;refine fc 23 24 rfl rfl (fun hC=>ix aP.c g (G hC)) ?_;refine Gk 25 ?_;refine Gk 26 ?_;refine bE 27 rfl (fun hC=>dW aO.c F.aG) ?_;refine Gk 28 ?_;refine Y2 ?_
      refine cE b (fun I b=>?_) (fun I b=>?_)
      ·refine Y3 ?_;exact rt b
      refine sk B (Y4 ?_);refine bx (tl [0,3]) (fun(z:Nat×Nat)=>[(4,vi z.2)]) (fun z=>H) (fun z=>z.1) (fun z=>vW f g ((pG f n10)) z.1 z.2=some r) ((Option.elim (f.l[g]?) 1 (fun k=>k.aG.l.length+1)),0) b wA ?_;rintro ⟨m,q⟩ b ak J;try dsimp only at b
      cases m with
      | zero=>cases b
      | succ m =>
        rw [vW] at b;refine ar fun al K=>Y4 ?_;obtain⟨k,L,b⟩:=bO b;refine S (ix aP.c g L) (Y2 ?_);refine aV aO.c k.aG fun am=>Y2 ?_;refine cE b (fun p b=>?_) (fun p b=>?_)
        ·try dsimp only at p
         have an:=oD p;refine sk K (ar fun ao M=>Y4 ?_);obtain⟨ap,N,b⟩:=bO b;refine S (ix aP.c g N) (Y3 ?_);obtain⟨av,O,b⟩:=bO b;refine S (ix aO.c q O) (Y4 ?_);refine bl 5 _ rfl (kl [0,3,4]) ?_;refine Y3 ?_;obtain⟨aw,P,b⟩:=bO b;refine Sc rfl rfl (gV P) (Y3 ?_);refine Gk 54 ?_;obtain⟨ax,Q,b⟩:=gO b
         refine dx 55 rfl rfl rfl rfl rfl (fun hC=>Cp (Q hC)) ?_;refine Gk 56 ?_;refine Y3 ?_;refine Gk 60 ?_;obtain⟨ay,R,b⟩:=gO b;refine dx 61 rfl rfl rfl rfl rfl (fun hC=>Mu (R hC)) ?_;refine Gk 62 ?_;refine Y2 ?_;refine cE b (fun U b=>?_) (fun U b=>?_)
         ·refine Y3 ?_;exact rt b
         refine sk M (Y5 ?_);exact J _ (m,(q+1)) wA b (nS _)
        refine ag.exit ?_;exact y _ () wA b
     rintro _ b;try dsimp only at b
     unfold vV at b;refine Y5 ?_;exact v _ (n10,(g+1)) wA b (nS _)
    refine ag.exit ?_;exact u _ () wA b
 rintro _ b;try dsimp only at b
 unfold vU at b;refine Y3 ?_;exact rt b
def sj (g:aP):List aO->Option (Unit ⊕ Bool)
 | []=>some (Sum.inl ())
 | k::l=>on (g) fun p=>on (k) fun b=>on (fB b.aa) fun f=>a_ (!(!f)) (qd b.dr) false fun j=>a_ (!((!f)||(!j))) (EQ b.dr) false fun m=>bif (((!f)||(!j))||(!m)) then(some (Sum.inr false)) else(sj g (l) )
theorem VO {s:Sl aP}{k:Nat}{p:Nat->Option Bool}{j:aP}(q:s.l[k]?=some j) (m:(Unit ⊕ Bool)->Option Bool) (t:∀(b:Nat) (f:Nat),vV k p =m (Sum.inl ())) (u:∀e:Bool,some e=m (Sum.inr e)):∀(b:Nat) (f:Nat),(0<b/\j.aG.l.length<f+b)->vW s k p b f=Option.bind (sj j (j.aG.l.drop f) ) m:=by
 intro b;induction b with
 | zero=>intro f hn; exact absurd hn.1 (by omega)
 | succ b v =>
  intro f hn;rw [vW];refine Q.preB q fun w y=>?_;subst y;by_cases aJ:f<w.aG.l.length
  ·obtain⟨z,g⟩:=Qa aJ;rw [Q.gP g,sj];refine QT aJ ?_;refine Q.iB q fun B r=>?_;refine Q.iB (by first|exact g|(simp only [r]; exact g)|(simp only [r] at g ⊢; exact g)) fun C E=>?_;refine Q.iB rfl fun F G=>?_;refine Q.I3 rfl fun H=>?_;refine Q.I3 rfl fun I=>?_;refine Q.kE ?_ ?_
   ·all_goals exact u _
   all_goals exact v _ ⟨by omega,by omega⟩
  rw [dL (by omega),sj];refine QF aJ ?_;exact t b f
def sr :List aP->Option (Unit ⊕ Bool)
 | []=>some (Sum.inl ())
 | b::g=>on (b) fun j=>on (fB j.aa) fun f=>on (bif !(!f) then b else aP.zero) fun k=>bif ((!f)||(decide ((16:Int)<((k.aG.l.length:Nat):Int)))) then(some (Sum.inr false)) else(Option.bind (sj b b.aG.l ) fun m=>match m with|Sum.inl _=>(on (()) fun _=>sr  (g) )|Sum.inr p=>(some (Sum.inr p)))
theorem VP {g:Sl aP}(j:(Unit ⊕ Bool)->Option Bool) (p:∀(n10:Nat) (b:Nat),vU   =j (Sum.inl ())) (k:∀e:Bool,some e=j (Sum.inr e)):∀(n10:Nat) (b:Nat),(0<n10/\g.l.length<b+n10)->pG g n10 b=Option.bind (sr  (g.l.drop b) ) j:=by
 intro n10;induction n10 with
 | zero=>intro b hn; exact absurd hn.1 (by omega)
 | succ n10 q =>
  intro b hn;rw [pG];by_cases aJ:b<g.l.length
  ·obtain⟨v,f⟩:=Qa aJ;rw [Q.gP f,sr];refine QT aJ ?_;refine Q.iB f fun w y=>?_;refine Q.iB rfl fun z B=>?_;refine Q.I2 f fun C E=>?_;refine Q.kE ?_ ?_
   ·all_goals exact k _
   refine Q.kF fun r m=>?_;refine VO f r ?_ ?_ _ _ ⟨by rw [f]; exact Nat.succ_pos _,by rw [f]; simp only [Option.elim]; omega⟩
   ·intro F G;refine Qe (m _) ?_;try dsimp only
    refine Q.lu fun s t=>?_;have u:vV b (pG g n10) =s ():=by
     refine Qe (t _) ?_;unfold vV;all_goals exact q _ ⟨by omega,by omega⟩
    all_goals exact u
   intro H;refine Qe (m _) ?_;try dsimp only
   all_goals exact k _
  rw [dL (by omega),sr];refine QF aJ ?_;exact p n10 b
def qg (b:(Sl aP)):Option Bool:=bif (decide ((16:Int)<((b.l.length:Nat):Int))) then(some false) else(Option.bind (sr  b.l ) fun f=>match f with|Sum.inl _=>(on (()) fun _=>some true)|Sum.inr g=>(some g))
theorem Cu (a0:(Sl aP)):Cr a0=qg a0:=by
 unfold Cr qg;refine Qs ?_;refine Q.kE ?_ ?_
 ·all_goals rfl
 refine Q.kF fun f b=>?_;refine VP  f ?_ ?_ _ _ ⟨Nat.succ_pos _,by omega⟩
 ·intro n10 l;refine Qe (b _) ?_;try dsimp only
  refine Q.lu fun g j=>?_;have k:vU  =g ():=by
   refine Qe (j _) ?_;unfold vU;all_goals rfl
  all_goals exact k
 intro m;refine Qe (b _) ?_;try dsimp only
 all_goals rfl
def p_ (k:ax):List Int->Nat->Option (Unit ⊕ Bool)
 | [],b=>some (Sum.inl ())
 | f::m,b=>on (f) fun j=>on (bif (!decide (j=(1:Int))) then f else(0:Int)) fun p=>bif ((!decide (j=(1:Int)))&&(!decide (p=(2:Int)))) then(some (Sum.inr false)) else(on (bif (decide ((0:Int)<((b:Nat):Int))) then f else(0:Int)) fun g=>a_ (((decide ((0:Int)<((b:Nat):Int)))&&(decide (g=(1:Int))))) (mu ((b:Nat):Int) (1:Int)) (0:Int) fun q=>a_ (((decide ((0:Int)<((b:Nat):Int)))&&(decide (g=(1:Int))))) (dc k.av.l q) (0:Int) fun r=>bif (((decide ((0:Int)<((b:Nat):Int)))&&(decide (g=(1:Int))))&&(decide (r=(1:Int)))) then(some (Sum.inr false)) else(p_ k (m) (b+1) ))
def sg (b:ax):Option Bool:=on (fB b.aa) fun f=>bif ((!f)||(decide ((24:Int)<((b.av.l.length:Nat):Int)))) then(some false) else(Option.bind (p_ b b.av.l 0 ) fun g=>match g with|Sum.inl _=>(on (()) fun _=>some true)|Sum.inr j=>(some j))
theorem Gc {g r}(b:sg g=some r) (H:ah) :At 76 [.agg (ax.c g)] H (RT (.a (.d (.bool r))) H):=by
 unfold sg at b;refine AC.oW 54 [.tmp 2] Tryz.call76 Tryz.func76 ?_;refine Y4 ?_;refine ar fun N s=>Y3 ?_;obtain⟨O,t,b⟩:=dD b;refine Sc rfl rfl (gV t) (Y3 ?_);refine Gk 9 ?_;refine bE 10 rfl (fun hC=>dW (bM .i64) g.av) ?_;refine Gk 11 ?_;refine Y2 ?_;refine cE b (fun u b=>?_) (fun u b=>?_)
 ·refine Y3 ?_;exact rt b
 refine sk s (aN kN (fun(z:Unit)=>[]) (fun z=>H) (fun z=>(some true)=some r) ?_ ?_)
 ·intro P v;refine Y4 ?_;obtain⟨q,m,b⟩:=b5 b;refine bx (tl [1]) (fun(z:Nat)=>[(3,vi z)]) (fun z=>H) (fun z=>g.av.l.length-z) (fun z=>Option.bind (p_ g (g.av.l.drop z) z ) q=some r) 0 b wA ?_;rintro j b Q w;try dsimp only at b
  refine ar fun R y=>Y4 ?_;refine aV (bM .i64) g.av fun U=>Y2 ?_;refine ag.bW (fun l=>Option.bind (p_ g l j ) q=some r) b rfl (fun W k p b=>?_) (fun p b=>?_)
  ·rw [p_] at b;try dsimp only at p
   have X:=oD p;refine sk y (ar fun Y B=>Y1 ?_);refine ar fun Z C=>Y4 ?_;obtain⟨aa,E,b⟩:=vO k b;refine S (ix (bM .i64) j E) (Y4 ?_);refine Gk 28 ?_;refine Y1 ?_;obtain⟨ab,F,b⟩:=fo (fun _=>k) b;refine fc 29 30 rfl rfl (fun hC=>ix (bM .i64) j (F hC)) ?_;refine Gk 31 ?_;refine Gk 32 ?_;refine Y2 ?_;refine cO b (fun G b=>?_) (fun G b=>?_)
   ·refine Y3 ?_;exact rs (ku m b:)
   refine sk C (Y5 ?_);refine Gk 38 ?_;refine Y1 ?_;obtain⟨ad,I,b⟩:=fo (fun _=>k) b;refine fc 39 40 rfl rfl (fun hC=>ix (bM .i64) j (I hC)) ?_;refine Gk 41 ?_;refine Gk 42 ?_;refine Y3 ?_;refine Gk 46 ?_;refine Y1 ?_;obtain⟨ae,J,b⟩:=fG b;refine bE 48 rfl (fun hC=>D4 (J hC)) ?_;obtain⟨af,K,b⟩:=fG b
   refine fc 47 49 rfl rfl (fun hC=>iK (f:=(bM .i64)) (TK rfl) rfl (TK rfl) rfl rfl rfl (K hC)) ?_;refine Gk 50 ?_;refine Gk 51 ?_;refine Y2 ?_;refine cO b (fun L b=>?_) (fun L b=>?_)
   ·refine Y3 ?_;exact rs (ku m b:)
   refine sk B (Y5 ?_);exact w _ (j+1) wA b (dl k)
  rw [p_] at b;have b:=ku m b;try dsimp only at b
  refine ag.exit ?_;obtain⟨ai,M,b⟩:=b8 b;exact v _ () wA (ku M b:)
 rintro _ b;try dsimp only at b
 refine Y3 ?_;exact rt b
def Gd (b:af):Bool:=(((((decide (b.aj=(0:Int)))&&(decide (b.bL=(0:Int))))&&((b.bK==([]:Bs))))&&(decide (((b.aB.l.length:Nat):Int)=(0:Int))))&&(decide (((b.aX.l.length:Nat):Int)=(0:Int))))
theorem VQ {b r}(f:some (Gd b)=some r) (H:ah) :At 121 [.agg (af.c b)] H (RT (.a (.d (.bool r))) H):=by
 unfold Gd at f;refine AC.oW 28 [.tmp 2] Tryz.call121 Tryz.func121 ?_;refine jM ?_;refine Gk 7 ?_;refine Gk 8 ?_;refine Y3 ?_;refine Gk 12 ?_;refine Gk 13 ?_;refine Y3 ?_;refine bE 17 rfl (fun hC=>cA (TK rfl) rfl rfl (af.dX _)) ?_;refine bE 18 rfl (fun hC=>dW af.c b.aB) ?_;refine Gk 19 ?_;refine Y3 ?_;refine Gk 23 ?_
 refine bE 24 rfl (fun hC=>dW aW b.aX) ?_;refine Gk 25 ?_;refine Y3 ?_;exact rt f
def qh :List az->Option (Unit ⊕ Bool)
 | []=>some (Sum.inl ())
 | l::m=>on (l) fun b=>on (fB b.aa) fun f=>a_ (!(!f)) (sg b.aM) false fun j=>a_ (!((!f)||(!j))) (qg b.bS) false fun p=>bif (((!f)||(!j))||(!p)) then(some (Sum.inr false)) else(a_ (b.eC) (qd b.dZ) false fun g=>a_ ((b.eC&&!(!g))) (EQ b.dZ) false fun k=>on (bif (!(b.eC&&((!g)||(!k)))&&(!b.eC)) then Gd b.dZ else false) fun q=>bif ((b.eC&&((!g)||(!k)))||((!b.eC)&&(!q))) then(some (Sum.inr false)) else(qh  (m) ))
def su (b:(Sl az)):Option Bool:=bif (decide ((16:Int)<((b.l.length:Nat):Int))) then(some false) else(Option.bind (qh  b.l ) fun f=>match f with|Sum.inl _=>(on (()) fun _=>some true)|Sum.inr g=>(some g))
theorem Mv {f w0 r}(b:su f=some r) (H:ah) :At 73 [.d (Sl.d 10 az.c w0 f)] H (RT (.a (.d (.bool r))) H):=by
 unfold su at b;refine AC.oW 59 [.tmp 2] Tryz.call73 Tryz.func73 ?_;refine Y3 ?_;refine ar fun N q=>Y2 ?_;refine aV az.c f fun O=>Y2 ?_;refine cE b (fun s b=>?_) (fun s b=>?_)
 ·refine Y3 ?_;exact rt b
 refine sk q (aN kN (fun(z:Unit)=>[]) (fun z=>H) (fun z=>(some true)=some r) ?_ ?_)
 ·intro P t;refine Y4 ?_;obtain⟨k,g,b⟩:=b5 b;refine bx (tl [0]) (fun(z:Nat)=>[(3,vi z)]) (fun z=>H) (fun z=>f.l.length-z) (fun z=>Option.bind (qh  (f.l.drop z) ) k=some r) 0 b wA ?_;rintro m b Q u;try dsimp only at b
  refine ar fun R v=>Y3 ?_;refine aV az.c f fun U=>Y2 ?_;refine ag.bW (fun l=>Option.bind (qh  l ) k=some r) b rfl (fun W p j b=>?_) (fun j b=>?_)
  ·rw [qh] at b;try dsimp only at j
   have X:=oD j;refine sk v (ar fun Y w=>Y4 ?_);obtain⟨Z,y,b⟩:=vO p b;refine S (ix az.c m y) (Y4 ?_);refine bl 4 _ rfl (kl [0,3]) ?_;refine ar fun aa B=>Y3 ?_;obtain⟨ab,C,b⟩:=dm b;refine Sc rfl rfl (gV C) (Y3 ?_);refine Gk 23 ?_;obtain⟨ad,E,b⟩:=fG b;refine dx 24 rfl rfl rfl rfl rfl (fun hC=>Gc (E hC)) ?_;refine Gk 25 ?_;refine Y3 ?_
   refine Gk 29 ?_;obtain⟨ae,F,b⟩:=AG (Cu _) b;refine dx 30 rfl rfl rfl rfl rfl (fun hC=>Ct (F hC)) ?_;refine Gk 31 ?_;refine Y2 ?_;refine cO b (fun G b=>?_) (fun G b=>?_)
   ·refine Y3 ?_;exact rs (ku g b:)
   refine sk B (Y5 ?_);refine Gk 37 ?_;obtain⟨af,I,b⟩:=fG b;refine dx 38 rfl rfl rfl rfl rfl (fun hC=>Cp (I hC)) ?_;refine Gk 39 ?_;refine Gk 40 ?_;refine Y1 ?_;refine Gk 42 ?_;obtain⟨ai,J,b⟩:=fG b;refine dx 43 rfl rfl rfl rfl rfl (fun hC=>Mu (J hC)) ?_;refine Gk 44 ?_;refine bE 41 rfl (fun hC=>kB rfl rfl rfl) ?_;refine Y3 ?_;refine Gk 49 ?_;refine Gk 50 ?_
   refine Gk 51 ?_;refine Y1 ?_;refine Gk 53 ?_;obtain⟨aj,K,b⟩:=fo (fun _=>rfl) b;refine dx 54 rfl rfl rfl rfl rfl (fun hC=>VQ (K hC)) ?_;refine Gk 55 ?_;refine bE 52 rfl (fun hC=>f_ rfl rfl rfl) ?_;refine Y2 ?_;refine cO b (fun L b=>?_) (fun L b=>?_)
   ·refine Y3 ?_;exact rs (ku g b:)
   refine sk w (Y5 ?_);exact u _ (m+1) wA b (dl p)
  rw [qh] at b;have b:=ku g b;try dsimp only at b
  refine ag.exit ?_;obtain⟨ak,M,b⟩:=b8 b;exact t _ () wA (ku M b:)
 rintro _ b;try dsimp only at b
 refine Y3 ?_;exact rt b
end Go.Proofs
