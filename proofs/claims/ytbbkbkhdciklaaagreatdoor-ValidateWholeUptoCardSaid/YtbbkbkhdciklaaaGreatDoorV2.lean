import Derived.Test.YtbbkbkhdciklaaaGreatDoorV1
set_option maxRecDepth 100000
set_option maxHeartbeats 2000000
set_option linter.unusedVariables false
set_option linter.unusedSimpArgs false
namespace Go.Proofs
open Go Go.Ab
open aI aq ag dR fO
attribute [local irreducible] aI aH ag aq
variable {ak:bP}
variable {gK:Nat}
def mM (b:ax):Option (ax×Bool):=(uK b).bind fun f=>bif (!f) then(some ((ax.mk [] Sl.nil),false)) else((lI b).bind fun g=>(p8 g).bind fun j=>some (j,true))
theorem FY {f r}(b:mM f=some r) (H:ah) :At 160 [.agg (ax.c f)] H (RT (.b_ [.agg (ax.c r.1),.d (.bool r.2)]) H):=by
 unfold mM at b;refine AC.oW 11 [.cell 2 56,.tmp 3] Tryz.call160 Tryz.func160 ?_;refine Y5 ?_;refine ar fun p g=>Y2 ?_;obtain⟨q,j,b⟩:=bz b;refine Sc rfl rfl (QH j) (Y2 ?_);refine cE b (fun k b=>?_) (fun k b=>?_)
 ·refine Y5 ?_;exact rt b
 refine sk g (Y2 ?_);obtain⟨s,l,b⟩:=bz b;refine Sc rfl rfl (xN l) ?_;obtain⟨t,m,b⟩:=bz b;refine Sc rfl rfl (Jt m) (Y3 ?_);exact rt b
def oI (b:Bs):List bC->Unit ⊕ Bool
 | []=>Sum.inl ()
 | f::g=>on (f) fun j=>bif ((j.aa==b)) then(Sum.inr true) else(oI b (g) )
def sZ (j:ay) (b:Bs):Bool:=on (oI b j.bV.l ) fun f=>match f with|Sum.inl _=>(on (()) fun _=>false)|Sum.inr g=>(g)
theorem Mf {f g r}(b:some (sZ f g)=some r) (H:ah) :At 68 [.agg (ay.c f),.d (.str g)] H (RT (.a (.d (.bool r))) H):=by
 unfold sZ at b;refine AC.oW 21 [.tmp 4] Tryz.call68 Tryz.func68 ?_;refine Y4 ?_;refine aN kN (fun(z:Unit)=>[]) (fun z=>H) (fun z=>some (false)=some r) ?_ ?_
 ·intro C s;refine Y4 ?_;obtain⟨k,m,b⟩:=eH b;refine bx (tl [1,2]) (fun(z:Nat)=>[(5,vi z)]) (fun z=>H) (fun z=>f.bV.l.length-z) (fun z=>k (oI g (f.bV.l.drop z) )=some r) 0 b wA ?_;rintro p b E t;try dsimp only at b
  refine ar fun F u=>Y4 ?_;refine aV bC.c f.bV fun G=>Y2 ?_;refine ag.bW (fun l=>k (oI g l )=some r) b rfl (fun I q j b=>?_) (fun j b=>?_)
  ·rw [oI] at b;try dsimp only at j
   have J:=oD j;refine sk u (ar fun K v=>Y5 ?_);obtain⟨L,w,b⟩:=vP q b;refine S (ix bC.c p w) (Y5 ?_);refine cP b (fun y b=>?_) (fun y b=>?_)
   ·refine Y3 ?_;exact rs (ku m b:)
   refine sk v (Y5 ?_);exact t _ (p+1) wA b (dl q)
  rw [oI] at b;have b:=ku m b;try dsimp only at b
  refine ag.exit ?_;obtain⟨M,B,b⟩:=eH b;exact s _ () wA (ku B b:)
 rintro _ b;try dsimp only at b
 refine Y3 ?_;exact rt b
def FZ  :Option Bool:=some true
def vf (g:an) (b:Int) :Nat->Int->Option Bool
 | 0,_=>none
 | j+1,f=>bif (decide (f<b)) then((dc g.aA.l f).bind fun k=>(dc g.aA.l b).bind fun m=>bif ((k.aa==m.aa)) then(some false) else((cV f (1:Int)).bind fun p=>(vf g b j) p)) else(FZ   )
def Bu (f:an) (b:Int):Option Bool:=vf f b F0 (0:Int)
theorem U4 {k g r}(b:Bu k g=some r) (H:ah) :At 223 [.agg (an.c k),.d (.int .i64 g)] H (RT (.a (.d (.bool r))) H):=by
 unfold Bu at b;refine AC.oW 24 [.tmp 4] Tryz.call223 Tryz.func223 ?_;refine Y4 ?_;refine aN kN (fun(z:Unit)=>[]) (fun z=>H) (fun z=>FZ =some r) ?_ ?_
 ·intro B l;refine Y4 ?_;refine bx (tl [1,2]) (fun(z:Nat×Int)=>[(5,.a (.d (.int .i64 z.2)))]) (fun z=>H) (fun z=>z.1) (fun z=>vf k g z.1 z.2=some r) (F0,(0:Int)) b wA ?_;rintro ⟨j,C⟩ b E m;try dsimp only at b
  cases j with
  | zero=>cases b
  | succ j =>
    rw [vf] at b;refine ar fun F p=>Y5 ?_;refine cE b (fun q b=>?_) (fun q b=>?_)
    ·refine sk p (ar fun G s=>Y5 ?_);obtain⟨I,t,b⟩:=bO b;refine aH.s0 (iK (f:=ay.c) (TK rfl) rfl (TK rfl) rfl rfl rfl t) rfl ?_;refine Y5 ?_;obtain⟨J,u,b⟩:=bO b;refine aH.s0 (iK (f:=ay.c) (TK rfl) rfl (TK rfl) rfl rfl rfl u) rfl ?_;refine Y4 ?_;refine cE b (fun v b=>?_) (fun v b=>?_)
     ·refine Y3 ?_;exact rt b
     refine sk s (Y2 ?_);obtain⟨w,y,b⟩:=bO b;refine S (gh y) (Y2 ?_);exact m _ (j,w) wA b (nS _)
    refine ag.exit ?_;exact l _ () wA b
 rintro _ b;try dsimp only at b
 unfold FZ at b;refine Y3 ?_;exact rt b
def Fl (f:an) (b:Int):Option Bool:=Bu f b
def iY (m:an) (j:Bs) (b:(ay×Bool)):List ay->Nat->(Sl Bs)->Option ((Sl Bs))
 | [],k,g=>some g
 | p::q,k,g=>bif b.2 then(on (p) fun f=>a_ (!(!decide (f.aj=(1:Int)))) (Fl m ((k:Nat):Int)) false fun r=>Option.bind (bif ((!decide (f.aj=(1:Int)))||(!r)) then(some g) else(on (bif (!((decide (b.1.aj=(1:Int)))&&((f.aa==j)))&&(decide (b.1.aj=(2:Int)))) then nY f.cN j else false) fun l=>on (bif (!(((decide (b.1.aj=(1:Int)))&&((f.aa==j)))||((decide (b.1.aj=(2:Int)))&&l))&&(decide (b.1.aj=(3:Int)))) then sZ b.1 f.aa else false) fun s=>bif ((((decide (b.1.aj=(1:Int)))&&((f.aa==j)))||((decide (b.1.aj=(2:Int)))&&l))||((decide (b.1.aj=(3:Int)))&&s)) then((bq 16 g (⟨false,[f.aa]⟩:Sl Bs)).bind fun t=>some t) else(some g))) fun u=>iY m j b (q) (k+1) u) else(some g)
def yB (b:an) (f:Bs):Option (Sl Bs):=on (fH b f) fun g=>Option.bind (iY b f g b.aA.l 0 (Sl.nil:Sl Bs)) fun j=>on (j) fun k=>some k
theorem U5 {f j r}(b:yB f j=some r) (H:ah) :At 194 [.agg (an.c f),.d (.str j)] H (RT (.a (.d (Sl.d 1 aW none r))) H):=by
 unfold yB at b;refine AC.oW 81 [.tmp 4] Tryz.call194 Tryz.func194 ?_;refine ag.tok 1 fun g U=>?_;refine Y2 ?_;refine s0 (dM (k':=1) rfl) rfl ?_;refine Y4 ?_;refine ag.gv 5 1 g rfl au ?_;refine Y3 ?_;obtain⟨q,y,b⟩:=dD b;refine Sc rfl rfl (kK y) (Y7 ?_);refine bl 6 _ rfl (kl [1,2,5,7]) ?_
 refine aN kN (fun(z:(Sl Bs))=>[(5,.a (.d (Sl.d 1 aW (some g) z)))]) (fun z=>(tS H g 1 z)) (fun z=>(some z)=some r) ?_ ?_
 ·intro W B;refine Y4 ?_;obtain⟨p,C,b⟩:=b5 b;refine bx (tl [1,2,6,7]) (fun(z:(Sl Bs)×Nat)=>[(5,.a (.d (Sl.d 1 aW (some g) z.1))),(8,vi z.2)]) (fun z=>(tS H g 1 z.1)) (fun z=>f.aA.l.length-z.2) (fun z=>Option.bind (iY f j q (f.aA.l.drop z.2) z.2 z.1) p=some r) ((Sl.nil:Sl Bs),0) b wA ?_;rintro ⟨k,m⟩ b X E;try dsimp only at b
  refine ar fun Y F=>Y4 ?_;refine aV ay.c f.aA fun Z=>Y5 ?_;refine ag.uv (fun l=>Option.bind (iY f j q l m k) p=some r) (Option.bind (some k) p=some r) b (fun b=>by rw [iY] at b; exact b) (fun _ hd b=>by rw [iY] at b; rw [hd] at b; exact b) rfl rfl (fun aa v s G b=>?_) (fun s b=>?_)
  ·rw [iY] at b;rw [G,cond_true] at b;try dsimp only at s
   have ab:=oD (and_left s);refine sk F (aN (tl [1,2,6,7,8]) (fun(z:(Sl Bs))=>[(5,.a (.d (Sl.d 1 aW (some g) z)))]) (fun z=>(tS H g 1 z)) (fun z=>Option.bind (iY f j q (f.aA.l.drop (m+1)) (m+1) z) p=some r) ?_ ?_)
   ·intro ad t;refine Y5 ?_;obtain⟨ae,I,b⟩:=vO v b;refine S (ix ay.c m I) (Y4 ?_);refine bl 9 _ rfl (kl [1,2,5,6,7,8]) ?_;refine ar fun af J=>Y7 ?_;obtain⟨ai,K,b⟩:=fG b;refine fV 36 37 rfl rfl rfl rfl rfl rfl (fun hC=>U4 (K hC)) ?_;refine Gk 38 ?_;refine Y2 ?_;obtain⟨aj,u,b⟩:=eB b;refine cO b (fun L b=>?_) (fun L b=>?_)
    ·refine ag.exit ?_;exact t _ k wA (ku u b:)
    refine sk J (Y6 ?_);refine Gk 45 ?_;refine Y1 ?_;refine G2 46 47 rfl rfl BS ?_;refine Y7 ?_;refine Gk 52 ?_;refine Gk 53 ?_;refine Gk 54 ?_;refine Y1 ?_;refine Gk 56 ?_;refine Y1 ?_;obtain⟨ak,M,b⟩:=fo (fun _=>rfl) b;refine fV 57 58 rfl rfl rfl rfl rfl rfl (fun hC=>Ek (M hC)) ?_;refine bE 55 rfl (fun hC=>f_ rfl rfl rfl) ?_;refine Y7 ?_;refine Gk 64 ?_;refine Gk 65 ?_;refine Gk 66 ?_
    refine Y2 ?_;refine Gk 69 ?_;obtain⟨al,N,b⟩:=fo (fun _=>rfl) b;refine fV 68 70 rfl rfl rfl rfl rfl rfl (fun hC=>Mf (N hC)) ?_;refine bE 67 rfl (fun hC=>f_ rfl rfl rfl) ?_;refine Y6 ?_;refine cO b (fun O b=>?_) (fun O b=>?_)
    ·refine Y5 ?_;obtain⟨w,P,b⟩:=aQ b;refine SH (am aW (TK rfl) rfl (TK rfl) (TK rfl) P) ?_;refine hq (tS H g 1 w) (Y2 ?_);exact t _ w wA (ku u b:)
    refine ag.skip ?_;exact t _ k wA (ku u b:)
   rintro Q b;try dsimp only at b
   refine Y5 ?_;exact E _ (Q,(m+1)) wA b (dl v)
  have b:=ku C b;refine ag.exit ?_;obtain⟨ao,R,b⟩:=b8 b;exact B _ k wA (ku R b:)
 rintro ap b;try dsimp only at b
 refine Y4 ?_;refine ag.eG 4 rfl ?_;refine ry ?_;obtain rfl:=oJ b;refine bR.cK H rfl ⟨rfl,rfl⟩ ?_;exact sy
def s4 (j:an) (b:Bs) (k:Bs):Option Bool:=(yB j k).bind fun f=>on (nY f b) fun g=>some g
theorem U6 {g f j r}(b:s4 g f j=some r) (H:ah) :At 161 [.agg (an.c g),.d (.str f),.d (.str j)] H (RT (.a (.d (.bool r))) H):=by
 unfold s4 at b;refine AC.oW 12 [.tmp 6] Tryz.call161 Tryz.func161 ?_;refine Y7 ?_;obtain⟨m,k,b⟩:=bz b;refine Sc rfl rfl (U5 k) (Y1 ?_);obtain⟨p,l,b⟩:=dD b;refine Sc rfl rfl (Ek l) (Y2 ?_);exact rt b
def kQ:Nat->an->ax->ax->Option Bool
 | 0,_,_,_=>none
 | n+1,l,b,f=>on (iD f) fun m=>bif m then(on (iD b) fun g=>a_ (g) (lI b) ax.zero fun p=>a_ (g) (lI f) ax.zero fun q=>a_ (g) ((kQ n) l p q) false fun r=>some (g&&r)) else(on (iD b) fun s=>bif s then((lI b).bind fun t=>((kQ n) l t f).bind fun u=>some u) else((mM b).bind fun j=>(mM f).bind fun k=>bif (j.2&&k.2) then(((kQ n) l j.1 k.1).bind fun v=>some v) else(a_ ((((!j.2)&&(!k.2))&&!((b.aa==f.aa)))) (s4 l b.aa f.aa) false fun w=>some (((!j.2)&&(!k.2))&&(((b.aa==f.aa))||w)))))
def F4 (n:Nat):Prop:=∀{a0:an}{b:ax}{a2:ax}   {r:Bool},kQ n a0 b a2=some r->∀(H:ah),At 115 [.agg (an.c a0),.agg (ax.c b),.agg (ax.c a2)] H (RT (.a (.d (.bool r))) H)
theorem U7 (n:Nat) (f:F4 (ak:=ak) n):F4 (ak:=ak) (n+1):=by
 intro aa I ab   r b H;rw [kQ] at b;refine AC.oW 69 [.tmp 6] Tryz.call115 Tryz.func115 ?_;refine Y6 ?_;refine ar fun J g=>Y2 ?_;obtain⟨K,j,b⟩:=dD b;refine Sc rfl rfl (rX j) (Y1 ?_);refine cE b (fun l b=>?_) (fun l b=>?_)
 ·refine Y2 ?_;obtain⟨L,m,b⟩:=dD b;refine ck rfl rfl (rX m) (Y3 ?_);obtain⟨M,p,b⟩:=dV b;refine uw 17 rfl rfl rfl rfl rfl (fun hC=>xN (p hC)) ?_;refine Y1 ?_;obtain⟨N,q,b⟩:=dV b;refine uw 19 rfl rfl rfl rfl rfl (fun hC=>xN (q hC)) ?_;obtain⟨O,s,b⟩:=dV b
  refine aH.gC rfl rfl (fun hC=>fm (k:=16) rfl (fm (k:=18) rfl (fm (k:=20) rfl (fT rfl rfl (fun H=>f (s hC) H))))) rfl ?_;refine Y3 ?_;exact rt b
 refine sk g (ar fun P t=>Y2 ?_);obtain⟨Q,u,b⟩:=dD b;refine Sc rfl rfl (rX u) (Y1 ?_);refine cE b (fun v b=>?_) (fun v b=>?_)
 ·refine Y3 ?_;obtain⟨R,w,b⟩:=bz b;refine ck rfl rfl (xN w) (Y1 ?_);obtain⟨S,y,b⟩:=bz b;refine ck rfl rfl (f y) (Y2 ?_);exact rt b
 refine sk t (Y2 ?_);obtain⟨U,z,b⟩:=bz b;refine Sc rfl rfl (FY z) (Y7 ?_);refine bl 7 _ rfl (kl [3,4,5,8]) ?_;refine Y2 ?_;obtain⟨W,B,b⟩:=bz b;refine Sc rfl rfl (FY B) (Y7 ?_);refine bl 9 _ rfl (kl [3,4,5,7,8,10]) ?_;refine ar fun X C=>Y6 ?_;refine cE b (fun E b=>?_) (fun E b=>?_)
 ·refine Y4 ?_;obtain⟨Y,F,b⟩:=bz b;refine Sc rfl rfl (f F) (Y2 ?_);exact rt b
 refine sk C (Y5 ?_);refine Gk 51 ?_;refine Y3 ?_;refine Gk 55 ?_;refine Y1 ?_;refine Gk 57 ?_;refine G2 56 58 rfl rfl BS ?_;refine Gk 59 ?_;refine Y2 ?_;refine Gk 62 ?_;refine Y1 ?_;refine Gk 64 ?_;obtain⟨Z,G,b⟩:=dV b;refine gC rfl rfl (fun hC=>fm (k:=61) rfl (fm (k:=63) rfl (fm (k:=65) rfl (fT rfl rfl (fun H=>U6 (G hC) H))))) rfl ?_
 refine bE 60 rfl (fun hC=>kB rfl rfl rfl) ?_;refine Y3 ?_;exact rt b
theorem Mg:∀(n:Nat),(F4 (ak:=ak) n)
 | 0=>fun b=>by first|cases b|(rw [kQ] at b; cases b)
 | n+1=>U7 n (Mg n)
def U8 (f:an) (b:ax) (g:ax):Option Bool:=kQ F0 f b g
theorem U9 {f b g r}(j:U8 f b g=some r) (H:ah) :At 115 [.agg (an.c f),.agg (ax.c b),.agg (ax.c g)] H (RT (.a (.d (.bool r))) H):=(Mg F0) j H 
def Bw (f:an) (b:ax) (g:ax):Option Bool:=kQ F0 f b g
def oL (f:(Sl Int)):List Int->Nat->Option (Unit ⊕ Bool)
 | [],b=>some (Sum.inl ())
 | g::j,b=>on (g) fun k=>(f.l[b]?).bind fun m=>bif (!decide (k=m)) then(some (Sum.inr false)) else(oL f (j) (b+1) )
def yD (f:(Sl Int)) (b:(Sl Int)):Option Bool:=bif (!decide (((f.l.length:Nat):Int)=((b.l.length:Nat):Int))) then(some false) else(Option.bind (oL b f.l 0 ) fun g=>match g with|Sum.inl _=>(on (()) fun _=>some true)|Sum.inr j=>(some j))
theorem U_ {f g w0 s r}(b:yD f g=some r) (H:ah) :At 162 [.d (Sl.d 1 (bM .i64) w0 f),.d (Sl.d 1 (bM .i64) s g)] H (RT (.a (.d (.bool r))) H):=by
 unfold yD at b;refine AC.oW 26 [.tmp 4] Tryz.call162 Tryz.func162 ?_;refine Y3 ?_;refine ar fun I t=>Y2 ?_;refine aV (bM .i64) f fun J=>Y1 ?_;refine aV (bM .i64) g fun K=>Y2 ?_;refine cE b (fun u b=>?_) (fun u b=>?_)
 ·refine Y3 ?_;exact rt b
 refine sk t (aN kN (fun(z:Unit)=>[]) (fun z=>H) (fun z=>(some true)=some r) ?_ ?_)
 ·intro L v;refine Y4 ?_;obtain⟨m,p,b⟩:=b5 b;refine bx (tl [0,1]) (fun(z:Nat)=>[(5,vi z)]) (fun z=>H) (fun z=>f.l.length-z) (fun z=>Option.bind (oL g (f.l.drop z) z ) m=some r) 0 b wA ?_;rintro j b M w;try dsimp only at b
  refine ar fun N y=>Y3 ?_;refine aV (bM .i64) f fun O=>Y2 ?_;refine ag.bW (fun l=>Option.bind (oL g l j ) m=some r) b rfl (fun P q k b=>?_) (fun k b=>?_)
  ·rw [oL] at b;try dsimp only at k
   have Q:=oD k;refine sk y (ar fun R B=>Y4 ?_);obtain⟨S,C,b⟩:=vO q b;refine Sd (ix (bM .i64) j C) (Y3 ?_);obtain⟨U,E,b⟩:=aQ b;refine Sd (ix (bM .i64) j E) (Y3 ?_);refine cO b (fun F b=>?_) (fun F b=>?_)
   ·refine Y3 ?_;exact rs (ku p b:)
   refine sk B (Y5 ?_);exact w _ (j+1) wA b (dl q)
  rw [oL] at b;have b:=ku p b;try dsimp only at b
  refine ag.exit ?_;obtain⟨W,G,b⟩:=b8 b;exact v _ () wA (ku G b:)
 rintro _ b;try dsimp only at b
 refine Y3 ?_;exact rt b
def yC (f:ax) (b:ax):Option Bool:=a_ (((f.aa==b.aa))) (yD f.av b.av) false fun g=>some (((f.aa==b.aa))&&g)
theorem U' {g f r}(b:yC g f=some r) (H:ah) :At 116 [.agg (ax.c g),.agg (ax.c f)] H (RT (.a (.d (.bool r))) H):=by
 unfold yC at b;refine AC.oW 17 [.tmp 4] Tryz.call116 Tryz.func116 ?_;refine xB ?_;refine Gk 11 ?_;refine Y1 ?_;refine Gk 13 ?_;obtain⟨k,j,b⟩:=dV b;refine fV 12 14 rfl rfl rfl rfl rfl rfl (fun hC=>U_ (j hC)) ?_;refine Y3 ?_;exact rt b
def kR (j:Bs) (k:(aT×Bool)):List az->(Sl Z9)->Option ((Sl Z9))
 | [],b=>some b
 | g::l,b=>on (g) fun m=>on (lE k.1.aG m.aa) fun f=>on (bif !(!f.2) then g else az.zero) fun p=>a_ (!(!f.2)) (yC f.1.aM p.aM) false fun q=>Option.bind (bif ((!f.2)||(!q)) then((cC j ([40]:Bs)).bind fun r=>on (g) fun s=>(cC r s.aa).bind fun t=>(cC t ([41]:Bs)).bind fun u=>(bq 24 b (⟨false,[(Z9.mk 22 u)]⟩:Sl Z9)).bind fun v=>some v) else(some b)) fun w=>kR j k (l) w
def kS (l:aT) (j:Bs):List az->(Sl Z9)->Option ((Sl Z9))
 | [],b=>some b
 | f::m,b=>on (f) fun p=>on (lE l.aG p.aa) fun g=>on (bif (!g.2) then f else az.zero) fun q=>on (bif (!g.2) then iD q.aM else false) fun k=>on (bif ((!g.2)&&k) then f else az.zero) fun r=>Option.bind (bif (((!g.2)&&k)&&(!r.eC)) then((cC j ([40]:Bs)).bind fun s=>on (f) fun t=>(cC s t.aa).bind fun u=>(cC u ([41]:Bs)).bind fun v=>(bq 24 b (⟨false,[(Z9.mk 22 v)]⟩:Sl Z9)).bind fun w=>some w) else(some b)) fun y=>kS l j (m) y
def qM (v:an) (j:ay) (b:aT):Option (Sl Z9):=(cC j.aa ([46]:Bs)).bind fun k=>(cC k b.aa).bind fun f=>on (p7 j b.aa) fun g=>bif (!g.2) then(some (⟨false,[(Z9.mk 20 f)]⟩:Sl Z9)) else((Bw v g.1.aM b.aM).bind fun m=>Option.bind (bif (!m) then((bq 24 (Sl.nil:Sl Z9) (⟨false,[(Z9.mk 10 f)]⟩:Sl Z9)).bind fun p=>some p) else(some (Sl.nil:Sl Z9))) fun q=>Option.bind (kR f g b.aG.l q) fun r=>on (r) fun s=>Option.bind (kS b f g.1.aG.l s) fun t=>on (t) fun u=>some u)
theorem Va {Q F g r}(b:qM Q F g=some r) (H:ah) :At 67 [.agg (an.c Q),.agg (ay.c F),.agg (aT.c g)] H (RT (.a (.d (Sl.d 2 Z9.c none r))) H):=by
 unfold qM at b;refine AC.oW 148 [.tmp 6] Tryz.call67 Tryz.func67 ?_;refine ag.tok 2 fun f a3=>?_;refine Y4 ?_;refine s0 (dM (k':=2) rfl) rfl ?_;refine Y4 ?_;obtain⟨a4,R,b⟩:=bz b;refine S (eN R) (Y2 ?_);obtain⟨k,U,b⟩:=bz b;refine S (eN U) (Y6 ?_);obtain⟨j,W,b⟩:=dD b;refine Sc rfl rfl (Jr W) (Y7 ?_);refine bl 8 _ rfl (kl [3,5,7,9]) ?_
 refine ar fun a5 X=>Y4 ?_;refine cE b (fun Y b=>?_) (fun Y b=>?_)
 ·refine Y6 ?_;refine ry ?_;obtain rfl:=oJ b;refine bR.cK H rfl ⟨rfl,rfl⟩ ?_;exact sy
 refine sk X (Y3 ?_);refine ag.gv 10 2 f rfl au ?_;refine aN (tl [5,7,8]) (fun(z:(Sl Z9))=>[(10,.a (.d (Sl.d 2 Z9.c (some f) z)))]) (fun z=>(tS H f 2 z)) (fun z=>(Option.bind (kR k j g.aG.l z) fun q=>on (q) fun w=>Option.bind (kS g k j.1.aG.l w) fun m=>on (m) fun u=>some u)=some r) ?_ ?_
 ·intro a6 G;refine Y6 ?_;obtain⟨a7,Z,b⟩:=bz b;refine Sc rfl rfl (U9 Z) (Y2 ?_);obtain⟨a8,I,b⟩:=b5 b;refine cO b (fun aa b=>?_) (fun aa b=>?_)
  ·refine Y5 ?_;obtain⟨J,ab,b⟩:=aQ b;refine SH (am Z9.c (TK rfl) rfl (TK rfl) (TK rfl) ab) ?_;refine hq (tS H f 2 J) (Y2 ?_);exact G _ J wA (ku I b:)
  refine ag.skip ?_;exact G _ (Sl.nil:Sl Z9) wA (ku I b:)
 rintro ad b;try dsimp only at b
 refine aN (tl [5,7,8]) (fun(z:(Sl Z9))=>[(10,.a (.d (Sl.d 2 Z9.c (some f) z)))]) (fun z=>(tS H f 2 z)) (fun z=>(Option.bind (kS g k j.1.aG.l z) fun m=>on (m) fun u=>some u)=some r) ?_ ?_
 ·intro a9 ae;refine Y4 ?_;obtain⟨y,af,b⟩:=b5 b;refine bx (tl [5,7,8]) (fun(z:(Sl Z9)×Nat)=>[(10,.a (.d (Sl.d 2 Z9.c (some f) z.1))),(11,vi z.2)]) (fun z=>(tS H f 2 z.1)) (fun z=>g.aG.l.length-z.2) (fun z=>Option.bind (kR k j (g.aG.l.drop z.2) z.1) y=some r) (ad,0) b wA ?_;rintro ⟨q,s⟩ b a_ ai;try dsimp only at b
  refine ar fun a' aj=>Y4 ?_;refine aV az.c g.aG fun ba=>Y2 ?_;refine ag.bW (fun l=>Option.bind (kR k j l q) y=some r) b rfl (fun bb v B b=>?_) (fun B b=>?_)
  ·rw [kR] at b;try dsimp only at B
   have bc:=oD B;refine sk aj (aN (tl [5,7,8,11]) (fun(z:(Sl Z9))=>[(10,.a (.d (Sl.d 2 Z9.c (some f) z)))]) (fun z=>(tS H f 2 z)) (fun z=>Option.bind (kR k j (g.aG.l.drop (s+1)) z) y=some r) ?_ ?_)
   ·intro bd K;refine Y7 ?_;obtain⟨be,ak,b⟩:=vO v b;refine Sd (ix az.c s ak) (Y2 ?_);obtain⟨bf,al,b⟩:=dm b;refine ck rfl rfl (AV al) (Y7 ?_);refine bl 12 _ rfl (kl [5,7,8,10,11,13]) ?_;refine Y5 ?_;refine cG 69 ?_;refine Y1 ?_;refine cG 71 ?_;refine Y1 ?_;obtain⟨bg,ao,b⟩:=fo (fun _=>v) b;refine nQ 72 73 rfl rfl (fun hC=>ix az.c s (ao hC)) ?_;refine cG 74 ?_
    refine cG 75 ?_;obtain⟨bh,ap,b⟩:=fG b;refine nP 70 76 rfl rfl rfl rfl rfl rfl (fun hC=>U' (ap hC)) ?_;refine cG 77 ?_;refine Y2 ?_;obtain⟨bi,L,b⟩:=eB b;refine cO b (fun av b=>?_) (fun av b=>?_)
    ·refine Y3 ?_;obtain⟨bj,aw,b⟩:=aQ b;refine S (eN aw) (Y3 ?_);obtain⟨bk,ax,b⟩:=vO v b;refine S (ix az.c s ax) (Y2 ?_);obtain⟨bm,aA,b⟩:=aQ b;refine S (eN aA) ?_;obtain⟨bn,aB,b⟩:=aQ b;refine S (eN aB) (Y2 ?_);obtain⟨M,aC,b⟩:=aQ b;refine SH (am Z9.c (TK rfl) rfl (TK rfl) (TK rfl) aC) ?_;refine hq (tS H f 2 M) (Y2 ?_);exact K _ M wA (ku L b:)
    refine ag.skip ?_;exact K _ q wA (ku L b:)
   rintro aD b;try dsimp only at b
   refine Y5 ?_;exact ai _ (aD,(s+1)) wA b (dl v)
  rw [kR] at b;have b:=ku af b;refine ag.exit ?_;obtain⟨bo,aE,b⟩:=b8 b;exact ae _ q wA (ku aE b:)
 rintro w b;try dsimp only at b
 refine aN kN (fun(z:(Sl Z9))=>[(10,.a (.d (Sl.d 2 Z9.c (some f) z)))]) (fun z=>(tS H f 2 z)) (fun z=>(some z)=some r) ?_ ?_
 ·intro bp aF;refine Y4 ?_;obtain⟨C,aJ,b⟩:=b5 b;refine bx (tl [5,7,8]) (fun(z:(Sl Z9)×Nat)=>[(10,.a (.d (Sl.d 2 Z9.c (some f) z.1))),(14,vi z.2)]) (fun z=>(tS H f 2 z.1)) (fun z=>j.1.aG.l.length-z.2) (fun z=>Option.bind (kS g k (j.1.aG.l.drop z.2) z.1) C=some r) (w,0) b wA ?_;rintro ⟨m,p⟩ b bq aK;try dsimp only at b
  refine ar fun br aL=>Y4 ?_;refine aV az.c j.1.aG fun bs=>Y2 ?_;refine ag.bW (fun l=>Option.bind (kS g k l m) C=some r) b rfl (fun bt t E b=>?_) (fun E b=>?_)
  ·rw [kS] at b;try dsimp only at E
   have bu:=oD E;refine sk aL (aN (tl [5,7,8,14]) (fun(z:(Sl Z9))=>[(10,.a (.d (Sl.d 2 Z9.c (some f) z)))]) (fun z=>(tS H f 2 z)) (fun z=>Option.bind (kS g k (j.1.aG.l.drop (p+1)) z) C=some r) ?_ ?_)
   ·intro bv N;refine Y7 ?_;obtain⟨bw,aM,b⟩:=vO t b;refine Sd (ix az.c p aM) (Y2 ?_);obtain⟨bA,aO,b⟩:=dm b;refine ck rfl rfl (AV aO) (Y7 ?_);refine bl 15 _ rfl (kl [5,7,8,10,14,16]) ?_;refine Y5 ?_;refine Gk 116 ?_;refine Y1 ?_;obtain⟨bB,aP,b⟩:=fo (fun _=>t) b;refine fc 117 118 rfl rfl (fun hC=>ix az.c p (aP hC)) ?_;refine Gk 119 ?_;refine Gk 120 ?_
    obtain⟨bC,aR,b⟩:=fo (fun _=>rfl) b;refine dx 121 rfl rfl rfl rfl rfl (fun hC=>rX (aR hC)) ?_;refine Y3 ?_;refine Gk 125 ?_;refine Y1 ?_;obtain⟨bD,aS,b⟩:=fo (fun _=>t) b;refine fc 126 127 rfl rfl (fun hC=>ix az.c p (aS hC)) ?_;refine Gk 128 ?_;refine Gk 129 ?_;refine Gk 130 ?_;refine Y2 ?_;obtain⟨bE,O,b⟩:=eB b;refine cO b (fun aU b=>?_) (fun aU b=>?_)
    ·refine Y3 ?_;obtain⟨bF,aW,b⟩:=aQ b;refine S (eN aW) (Y3 ?_);obtain⟨bG,aX,b⟩:=vO t b;refine S (ix az.c p aX) (Y2 ?_);obtain⟨bH,aY,b⟩:=aQ b;refine S (eN aY) ?_;obtain⟨bI,aZ,b⟩:=aQ b;refine S (eN aZ) (Y2 ?_);obtain⟨P,a0,b⟩:=aQ b;refine SH (am Z9.c (TK rfl) rfl (TK rfl) (TK rfl) a0) ?_;refine hq (tS H f 2 P) (Y2 ?_);exact N _ P wA (ku O b:)
    refine ag.skip ?_;exact N _ m wA (ku O b:)
   rintro a1 b;try dsimp only at b
   refine Y5 ?_;exact aK _ (a1,(p+1)) wA b (dl t)
  rw [kS] at b;have b:=ku aJ b;refine ag.exit ?_;obtain⟨bJ,a2,b⟩:=b8 b;exact aF _ m wA (ku a2 b:)
 rintro u b;try dsimp only at b
 refine Y4 ?_;refine ag.eG 6 rfl ?_;refine ry ?_;obtain rfl:=oJ b;refine bR.cK H rfl ⟨rfl,rfl⟩ ?_;exact sy
def kT (g:an) (f:ay):List aT->(Sl Z9)->Option ((Sl Z9))
 | [],b=>some b
 | j::k,b=>on (j) fun l=>(qM g f l).bind fun m=>(bq 24 b m).bind fun p=>kT g f (k) p
def lX (j:an) (b:ay):List Bs->Nat->(Sl Z9)->Option ((Sl Z9))
 | [],k,g=>some g
 | m::q,k,g=>on (m) fun r=>on (uJ j r (2:Int)) fun f=>on (bif (decide (f=(0:Int))) then(⟨b.cN.nl,b.cN.l.take k⟩:Sl Bs) else(Sl.nil:Sl Bs)) fun s=>on (bif (decide (f=(0:Int))) then m else([]:Bs)) fun t=>on (bif (decide (f=(0:Int))) then nY s t else false) fun u=>on (bif ((decide (f=(0:Int)))&&u) then((7:Int)) else(f)) fun p=>Option.bind (bif (!decide (p=(0:Int))) then((bq 24 g (⟨false,[(Z9.mk p b.aa)]⟩:Sl Z9)).bind fun v=>some v) else(on (m) fun w=>on (fH j w) fun y=>Option.bind (kT j b y.1.bA.l g) fun z=>some z)) fun B=>lX j b (q) (k+1) B
def Bz (j:an) (b:ay):Option (Sl Z9):=Option.bind (lX j b b.cN.l 0 (Sl.nil:Sl Z9)) fun f=>on (f) fun g=>some g
theorem Vb {m g r}(b:Bz m g=some r) (H:ah) :At 27 [.agg (an.c m),.agg (ay.c g)] H (RT (.a (.d (Sl.d 2 Z9.c none r))) H):=by
 unfold Bz at b;refine AC.oW 76 [.tmp 4] Tryz.call27 Tryz.func27 ?_;refine ag.tok 2 fun j aB=>?_;refine Y3 ?_;refine s0 (dM (k':=2) rfl) rfl ?_;refine Y4 ?_;refine ag.gv 5 2 j rfl au ?_;refine aN kN (fun(z:(Sl Z9))=>[(5,.a (.d (Sl.d 2 Z9.c (some j) z)))]) (fun z=>(tS H j 2 z)) (fun z=>(some z)=some r) ?_ ?_
 ·intro aC N;refine Y4 ?_;obtain⟨s,O,b⟩:=b5 b;refine bx (tl [2,3]) (fun(z:(Sl Z9)×Nat)=>[(5,.a (.d (Sl.d 2 Z9.c (some j) z.1))),(6,vi z.2)]) (fun z=>(tS H j 2 z.1)) (fun z=>g.cN.l.length-z.2) (fun z=>Option.bind (lX m g (g.cN.l.drop z.2) z.2 z.1) s=some r) ((Sl.nil:Sl Z9),0) b wA ?_;rintro ⟨p,k⟩ b aD P;try dsimp only at b
  refine ar fun aE R=>Y4 ?_;refine aV aW g.cN fun aF=>Y2 ?_;refine ag.bW (fun l=>Option.bind (lX m g l k p) s=some r) b rfl (fun S t w b=>?_) (fun w b=>?_)
  ·rw [lX] at b;try dsimp only at w
   have aG:=oD w;refine sk R (aN (tl [2,3,6]) (fun(z:(Sl Z9))=>[(5,.a (.d (Sl.d 2 Z9.c (some j) z)))]) (fun z=>(tS H j 2 z)) (fun z=>Option.bind (lX m g (g.cN.l.drop (k+1)) (k+1) z) s=some r) ?_ ?_)
   ·intro aJ C;refine Y6 ?_;obtain⟨aK,U,b⟩:=vO t b;refine Sd (ix aW k U) (Y1 ?_);obtain⟨W,X,b⟩:=dm b;refine ck rfl rfl (Js X) (Y2 ?_)
    refine aN (tl [2,3,5,6]) (fun(z:Int)=>[(7,.a (.d (.int .i64 z)))]) (fun z=>(tS H j 2 p)) (fun z=>Option.bind (Option.bind (bif (!decide (z=(0:Int))) then((bq 24 p (⟨false,[(Z9.mk z g.aa)]⟩:Sl Z9)).bind fun u=>some u) else(on (S) fun E=>on (fH m E) fun q=>Option.bind (kT m g q.1.bA.l p) fun v=>some v)) fun y=>lX m g (g.cN.l.drop (k+1)) (k+1) y) s=some r) ?_ ?_
    ·intro aL F;refine Y5 ?_;refine cG 28 ?_;refine Y1 ?_;obtain⟨aM,Y,b⟩:=fo (fun _=>(Q.mB (by omega))) b;refine nQ 29 30 rfl rfl (fun hC=>jg (f:=aW) (l:=none) (r:=(some ((k:Nat):Int))) (TK rfl) rfl (TK rfl) rfl rfl trivial rfl (Y hC)) ?_;refine Y1 ?_;refine cG 32 ?_;refine Y1 ?_;obtain⟨aO,Z,b⟩:=fo (fun _=>t) b;refine nQ 33 34 rfl rfl (fun hC=>ix aW k (Z hC)) ?_
     refine cG 35 ?_;obtain⟨aP,ab,b⟩:=fo (fun _=>rfl) b;refine nP 31 36 rfl rfl rfl rfl rfl rfl (fun hC=>Ek (ab hC)) ?_;refine Y2 ?_;obtain⟨aR,G,b⟩:=gB b;refine cP b (fun ad b=>?_) (fun ad b=>?_)
     ·refine Y3 ?_;exact F _ (7:Int) wA (ku G b:)
     refine ag.skip ?_;exact F _ W wA (ku G b:)
    rintro aS b;try dsimp only at b
    refine ar fun aU ae=>Y4 ?_;obtain⟨aX,I,b⟩:=eB b;refine cO b (fun af b=>?_) (fun af b=>?_)
    ·refine Y7 ?_;obtain⟨u,ai,b⟩:=aQ b;refine SH (am Z9.c (TK rfl) rfl (TK rfl) (TK rfl) ai) ?_;refine hq (tS H j 2 u) (Y2 ?_);refine ag.exit ?_;exact C _ u wA (ku I b:)
    refine sk ae (Y5 ?_);obtain⟨E,aj,b⟩:=vO t b;refine Sd (ix aW k aj) (Y1 ?_);obtain⟨q,ak,b⟩:=dm b;refine ck rfl rfl (kK ak) (Y7 ?_);refine bl 8 _ rfl (kl [2,3,5,6]) ?_;refine Y4 ?_;obtain⟨J,al,b⟩:=eB b
    refine bx (tl [2,3,6,8]) (fun(z:(Sl Z9)×Nat)=>[(5,.a (.d (Sl.d 2 Z9.c (some j) z.1))),(10,vi z.2)]) (fun z=>(tS H j 2 z.1)) (fun z=>q.1.bA.l.length-z.2) (fun z=>Option.bind (kT m g (q.1.bA.l.drop z.2) z.1) J=some r) (p,0) b wA ?_;rintro ⟨v,K⟩ b aY ao;try dsimp only at b
    refine ar fun aZ ap=>Y4 ?_;refine aV aT.c q.1.bA fun a0=>Y2 ?_;refine ag.bW (fun l=>Option.bind (kT m g l v) J=some r) b rfl (fun a1 L B b=>?_) (fun B b=>?_)
    ·rw [kT] at b;try dsimp only at B
     have a2:=oD B;refine sk ap (ar fun a3 av=>Y1 ?_);refine ag.draw rfl ?_;refine Y6 ?_;obtain⟨a4,aw,b⟩:=vO L b;refine Sd (ix aT.c K aw) (Y1 ?_);obtain⟨a5,ax,b⟩:=aQ b;refine ck rfl rfl (Va ax) ?_;obtain⟨M,az,b⟩:=aQ b;refine aH.sH (mw (f:=Z9.c) (TK rfl) rfl (TK rfl) (TK rfl) ⟨_,rfl⟩ rfl rfl (by decide) rfl rfl rfl rfl au rfl az) rfl ?_
     refine aH.Dh (tS H j 2 M) ?_;refine Y2 ?_;refine av _ ?_;refine Y5 ?_;exact ao _ (M,(K+1)) wA b (dl L)
    rw [kT] at b;have b:=ku al b;refine ag.exit ?_;exact C _ v wA (ku I b:)
   rintro y b;try dsimp only at b
   refine Y5 ?_;exact P _ (y,(k+1)) wA b (dl t)
  rw [lX] at b;have b:=ku O b;refine ag.exit ?_;obtain⟨a6,aA,b⟩:=b8 b;exact N _ p wA (ku aA b:)
 rintro a7 b;try dsimp only at b
 refine Y4 ?_;refine ag.eG 4 rfl ?_;refine ry ?_;obtain rfl:=oJ b;refine bR.cK H rfl ⟨rfl,rfl⟩ ?_;exact sy
def lY (p:an) (b:ay):List bC->Nat->(Sl Z9)->Option ((Sl Z9))
 | [],j,f=>some f
 | q::r,j,f=>on (q) fun k=>on (uJ p k.aa (1:Int)) fun g=>on (bif (decide (g=(0:Int))) then(⟨b.bV.nl,b.bV.l.take j⟩:Sl bC) else(Sl.nil:Sl bC)) fun s=>on (bif (decide (g=(0:Int))) then sZ (ay.mk 0 [] Sl.nil Sl.nil Sl.nil s Sl.nil) k.aa else false) fun t=>on (bif ((decide (g=(0:Int)))&&t) then((7:Int)) else(g)) fun m=>Option.bind (bif (!decide (m=(0:Int))) then((cC b.aa ([46]:Bs)).bind fun u=>(cC u k.aa).bind fun v=>(bq 24 f (⟨false,[(Z9.mk m v)]⟩:Sl Z9)).bind fun w=>some w) else(some f)) fun y=>lY p b (r) (j+1) y
def By (j:an) (b:ay):Option (Sl Z9):=Option.bind (lY j b b.bV.l 0 (Sl.nil:Sl Z9)) fun f=>on (f) fun g=>some g
theorem Vc {p g r}(b:By p g=some r) (H:ah) :At 28 [.agg (an.c p),.agg (ay.c g)] H (RT (.a (.d (Sl.d 2 Z9.c none r))) H):=by
 unfold By at b;refine AC.oW 49 [.tmp 4] Tryz.call28 Tryz.func28 ?_;refine ag.tok 2 fun j ad=>?_;refine Y3 ?_;refine s0 (dM (k':=2) rfl) rfl ?_;refine Y4 ?_;refine ag.gv 5 2 j rfl au ?_;refine aN kN (fun(z:(Sl Z9))=>[(5,.a (.d (Sl.d 2 Z9.c (some j) z)))]) (fun z=>(tS H j 2 z)) (fun z=>(some z)=some r) ?_ ?_
 ·intro ae G;refine Y4 ?_;obtain⟨q,I,b⟩:=b5 b;refine bx (tl [2,3]) (fun(z:(Sl Z9)×Nat)=>[(5,.a (.d (Sl.d 2 Z9.c (some j) z.1))),(6,vi z.2)]) (fun z=>(tS H j 2 z.1)) (fun z=>g.bV.l.length-z.2) (fun z=>Option.bind (lY p g (g.bV.l.drop z.2) z.2 z.1) q=some r) ((Sl.nil:Sl Z9),0) b wA ?_;rintro ⟨m,k⟩ b af J;try dsimp only at b
  refine ar fun ai K=>Y4 ?_;refine aV bC.c g.bV fun aj=>Y2 ?_;refine ag.bW (fun l=>Option.bind (lY p g l k m) q=some r) b rfl (fun ak v t b=>?_) (fun t b=>?_)
  ·rw [lY] at b;try dsimp only at t
   have al:=oD t;refine sk K (aN (tl [2,3,6]) (fun(z:(Sl Z9))=>[(5,.a (.d (Sl.d 2 Z9.c (some j) z)))]) (fun z=>(tS H j 2 z)) (fun z=>Option.bind (lY p g (g.bV.l.drop (k+1)) (k+1) z) q=some r) ?_ ?_)
   ·intro ao w;refine Y5 ?_;obtain⟨L,M,b⟩:=vO v b;refine S (ix bC.c k M) (Y7 ?_);obtain⟨N,O,b⟩:=dm b;refine Sc rfl rfl (Js O) (Y2 ?_)
    refine aN (tl [2,3,5,6,7]) (fun(z:Int)=>[(8,.a (.d (.int .i64 z)))]) (fun z=>(tS H j 2 m)) (fun z=>Option.bind (Option.bind (bif (!decide (z=(0:Int))) then((cC g.aa ([46]:Bs)).bind fun y=>(cC y L.aa).bind fun B=>(bq 24 m (⟨false,[(Z9.mk z B)]⟩:Sl Z9)).bind fun s=>some s) else(some m)) fun u=>lY p g (g.bV.l.drop (k+1)) (k+1) u) q=some r) ?_ ?_
    ·intro ap C;refine Y5 ?_;refine Gk 28 ?_;refine Y1 ?_;obtain⟨av,P,b⟩:=fo (fun _=>(Q.mB (by omega))) b;refine fc 29 30 rfl rfl (fun hC=>jg (f:=bC.c) (l:=none) (r:=(some ((k:Nat):Int))) (TK rfl) rfl (TK rfl) rfl rfl trivial rfl (P hC)) ?_;refine Gk 31 ?_;refine Y1 ?_;obtain⟨aw,R,b⟩:=fo (fun _=>rfl) b;refine fV 32 33 rfl rfl rfl rfl rfl rfl (fun hC=>Mf (R hC)) ?_
     refine Y2 ?_;obtain⟨ax,E,b⟩:=gB b;refine cP b (fun U b=>?_) (fun U b=>?_)
     ·refine Y3 ?_;exact C _ (7:Int) wA (ku E b:)
     refine ag.skip ?_;exact C _ N wA (ku E b:)
    rintro az b;try dsimp only at b
    refine Y4 ?_;obtain⟨aA,F,b⟩:=eB b;refine cO b (fun W b=>?_) (fun W b=>?_)
    ·refine Y5 ?_;obtain⟨y,X,b⟩:=aQ b;refine S (eN X) (Y1 ?_);obtain⟨B,Y,b⟩:=aQ b;refine S (eN Y) (Y2 ?_);obtain⟨s,Z,b⟩:=aQ b;refine SH (am Z9.c (TK rfl) rfl (TK rfl) (TK rfl) Z) ?_;refine hq (tS H j 2 s) (Y2 ?_);exact w _ s wA (ku F b:)
    refine ag.skip ?_;exact w _ m wA (ku F b:)
   rintro u b;try dsimp only at b
   refine Y5 ?_;exact J _ (u,(k+1)) wA b (dl v)
  rw [lY] at b;have b:=ku I b;refine ag.exit ?_;obtain⟨aB,ab,b⟩:=b8 b;exact G _ m wA (ku ab b:)
 rintro aC b;try dsimp only at b
 refine Y4 ?_;refine ag.eG 4 rfl ?_;refine ry ?_;obtain rfl:=oJ b;refine bR.cK H rfl ⟨rfl,rfl⟩ ?_;exact sy
def nh (g:an):List ay->(Sl Z9)->Option ((Sl Z9))
 | [],b=>some b
 | f::k,b=>on (f) fun j=>Option.bind (bif (decide (j.aj=(1:Int))) then(on (f) fun l=>(Bz g l).bind fun m=>(bq 24 b m).bind fun p=>some p) else(bif (decide (j.aj=(3:Int))) then(on (f) fun q=>(By g q).bind fun r=>(bq 24 b r).bind fun s=>some s) else(some b))) fun t=>nh g (k) t
def yG (b:an):Option (Sl Z9):=Option.bind (nh b b.aA.l (Sl.nil:Sl Z9)) fun f=>on (f) fun g=>some g
theorem Vd {j r}(b:yG j=some r) (H:ah) :At 12 [.agg (an.c j)] H (RT (.a (.d (Sl.d 2 Z9.c none r))) H):=by
 unfold yG at b;refine AC.oW 41 [.tmp 2] Tryz.call12 Tryz.func12 ?_;refine ag.tok 2 fun g R=>?_;refine Y2 ?_;refine s0 (dM (k':=2) rfl) rfl ?_;refine Y4 ?_;refine ag.gv 3 2 g rfl au ?_;refine aN kN (fun(z:(Sl Z9))=>[(3,.a (.d (Sl.d 2 Z9.c (some g) z)))]) (fun z=>(tS H g 2 z)) (fun z=>(some z)=some r) ?_ ?_
 ·intro U y;refine Y4 ?_;obtain⟨p,B,b⟩:=b5 b;refine bx (tl [1]) (fun(z:(Sl Z9)×Nat)=>[(3,.a (.d (Sl.d 2 Z9.c (some g) z.1))),(4,vi z.2)]) (fun z=>(tS H g 2 z.1)) (fun z=>j.aA.l.length-z.2) (fun z=>Option.bind (nh j (j.aA.l.drop z.2) z.1) p=some r) ((Sl.nil:Sl Z9),0) b wA ?_;rintro ⟨q,k⟩ b W C;try dsimp only at b
  refine ar fun X E=>Y4 ?_;refine aV ay.c j.aA fun Y=>Y2 ?_;refine ag.bW (fun l=>Option.bind (nh j l q) p=some r) b rfl (fun Z m s b=>?_) (fun s b=>?_)
  ·rw [nh] at b;try dsimp only at s
   have aa:=oD s;refine sk E (aN (tl [1,4]) (fun(z:(Sl Z9))=>[(3,.a (.d (Sl.d 2 Z9.c (some g) z)))]) (fun z=>(tS H g 2 z)) (fun z=>Option.bind (nh j (j.aA.l.drop (k+1)) z) p=some r) ?_ ?_)
   ·intro ab t;refine Y5 ?_;obtain⟨ad,F,b⟩:=vO m b;refine S (ix ay.c k F) (Y8 ?_);obtain⟨ae,u,b⟩:=eB b;refine cO b (fun G b=>?_) (fun G b=>?_)
    ·refine ag.draw rfl ?_;refine Y5 ?_;obtain⟨af,I,b⟩:=vO m b;refine Sd (ix ay.c k I) (Y1 ?_);obtain⟨ai,J,b⟩:=aQ b;refine ck rfl rfl (Vb J) ?_;obtain⟨v,K,b⟩:=aQ b;refine aH.sH (mw (f:=Z9.c) (TK rfl) rfl (TK rfl) (TK rfl) ⟨_,rfl⟩ rfl rfl (by decide) rfl rfl rfl rfl au rfl K) rfl ?_;refine aH.Dh (tS H g 2 v) ?_;refine Y2 ?_;exact t _ v wA (ku u b:)
    refine Y4 ?_;refine cO b (fun L b=>?_) (fun L b=>?_)
    ·refine ag.draw rfl ?_;refine Y5 ?_;obtain⟨aj,M,b⟩:=vO m b;refine Sd (ix ay.c k M) (Y1 ?_);obtain⟨ak,N,b⟩:=aQ b;refine ck rfl rfl (Vc N) ?_;obtain⟨w,O,b⟩:=aQ b;refine aH.sH (mw (f:=Z9.c) (TK rfl) rfl (TK rfl) (TK rfl) ⟨_,rfl⟩ rfl rfl (by decide) rfl rfl rfl rfl au rfl O) rfl ?_;refine aH.Dh (tS H g 2 w) ?_;refine Y2 ?_;exact t _ w wA (ku u b:)
    refine ag.skip ?_;exact t _ q wA (ku u b:)
   rintro P b;try dsimp only at b
   refine Y5 ?_;exact C _ (P,(k+1)) wA b (dl m)
  rw [nh] at b;have b:=ku B b;refine ag.exit ?_;obtain⟨al,Q,b⟩:=b8 b;exact y _ q wA (ku Q b:)
 rintro am b;try dsimp only at b
 refine Y4 ?_;refine ag.eG 2 rfl ?_;refine ry ?_;obtain rfl:=oJ b;refine bR.cK H rfl ⟨rfl,rfl⟩ ?_;exact sy
def qW (f:af->Option af):List af->(Sl af)->Option ((Sl af))
 | [],b=>some b
 | g::j,b=>on (g) fun k=>(f k).bind fun l=>(bq 80 b (⟨false,[l]⟩:Sl af)).bind fun m=>qW f (j) m
mutual
def l9:Nat->af->Option af
 | 0,_=>none
 | n+1,b=>((yT n) b.aB).bind fun f=>(bq 16 (⟨false,[]⟩:Sl Bs) b.aX).bind fun g=>some (af.mk b.aj b.bL b.bK f.nl f.l g)
def yT:Nat->(Sl af)->Option (Sl af)
 | 0,_=>none
 | n+1,g=>Option.bind (qW (l9 n) g.l (Sl.nil:Sl af)) fun b=>on (b) fun f=>some f
end
def Cn (n:Nat):Prop:=∀{a0:af}   {r:af},l9 n a0=some r->∀(H:ah),At 195 [.agg (af.c a0)] H (RT (.a (.agg (af.c r))) H)
def Co (n:Nat):Prop:=∀{a0:(Sl af)}{w0:Option Nat}  {r:(Sl af)},yT n a0=some r->∀(H:ah),At 224 [.d (Sl.d 5 af.c w0 a0)] H (RT (.a (.d (Sl.d 5 af.c none r))) H)
theorem Ve (n:Nat) (u:Cn (ak:=ak) n) (m:Co (ak:=ak) n):Cn (ak:=ak) (n+1):=by
 intro g   r b H;rw [l9] at b;refine AC.oW 17 [.cell 2 110] Tryz.call195 Tryz.func195 ?_;refine kH ?_;refine aH.s0 (cA (TK rfl) rfl rfl (af.dX _)) rfl ?_;obtain⟨k,p,b⟩:=bz b;refine ck rfl rfl (m p) (aH.s0 (pS (TK rfl) rfl (TK rfl) rfl rfl rfl rfl rfl rfl) rfl ?_);refine Y2 ?_;obtain⟨s,t,b⟩:=bz b
 refine aH.s0 (um (f:=aW) (TK rfl) rfl (TK rfl) (TK rfl) ⟨_,rfl⟩ rfl rfl (by decide) rfl rfl rfl (by intro q h; cases h<;>decide) rfl rfl t) rfl ?_;refine Y3 ?_;refine ag.dU 0 (af.c (af.mk g.aj g.bL g.bK k.nl k.l s)) rfl (fun j w cs hh hx=>by rw [af.kI]; exact hx) ?_;exact rt b
theorem Vf (n:Nat) (t:Cn (ak:=ak) n) (I:Co (ak:=ak) n):Co (ak:=ak) (n+1):=by
 intro j w0  r b H;rw [yT] at b;refine AC.oW 20 [.tmp 2] Tryz.call224 Tryz.func224 ?_;refine ag.tok 5 fun f J=>?_;refine Y1 ?_;refine s0 (dM (k':=5) rfl) rfl ?_;refine Y4 ?_;refine ag.gv 3 5 f rfl au ?_;refine aN kN (fun(z:(Sl af))=>[(3,.a (.d (Sl.d 5 af.c (some f) z)))]) (fun z=>(tS H f 5 z)) (fun z=>(some z)=some r) ?_ ?_
 ·intro K u;refine Y4 ?_;obtain⟨k,v,b⟩:=b5 b;refine bx (tl [0]) (fun(z:(Sl af)×Nat)=>[(3,.a (.d (Sl.d 5 af.c (some f) z.1))),(4,vi z.2)]) (fun z=>(tS H f 5 z.1)) (fun z=>j.l.length-z.2) (fun z=>Option.bind (qW (l9 n) (j.l.drop z.2) z.1) k=some r) ((Sl.nil:Sl af),0) b wA ?_;rintro ⟨m,p⟩ b L w;try dsimp only at b
  refine ar fun M y=>Y3 ?_;refine aV af.c j fun N=>Y2 ?_;refine ag.bW (fun l=>Option.bind (qW (l9 n) l m) k=some r) b rfl (fun O q g b=>?_) (fun g b=>?_)
  ·rw [qW] at b;try dsimp only at g
   have P:=oD g;refine sk y (ar fun Q B=>Y5 ?_);obtain⟨R,C,b⟩:=vO q b;refine S (ix af.c p C) (Y1 ?_);obtain⟨U,E,b⟩:=aQ b;refine Sc rfl rfl (t E) (Y1 ?_);obtain⟨s,F,b⟩:=aQ b;refine SH (am af.c (TK rfl) rfl (TK rfl) (TK rfl) F) ?_;refine hq (tS H f 5 s) (Y2 ?_);refine B _ ?_;refine Y5 ?_;exact w _ (s,(p+1)) wA b (dl q)
  rw [qW] at b;have b:=ku v b;refine ag.exit ?_;obtain⟨W,G,b⟩:=b8 b;exact u _ m wA (ku G b:)
 rintro X b;try dsimp only at b
 refine Y4 ?_;refine ag.eG 2 rfl ?_;refine ry ?_;obtain rfl:=oJ b;refine bR.cK H rfl ⟨rfl,rfl⟩ ?_;exact sy
theorem zh:∀(n:Nat),(Cn (ak:=ak) n)/\(Co (ak:=ak) n)
 | 0=>⟨fun b=>by first|cases b|(rw [l9] at b; cases b),fun b=>by first|cases b|(rw [yT] at b; cases b)⟩
 | n+1=>⟨Ve n (zh n).1 (zh n).2,Vf n (zh n).1 (zh n).2⟩
def Vh (a0:af):Option af:=l9 F0 a0
theorem Vj {b r}(f:Vh b=some r) (H:ah) :At 195 [.agg (af.c b)] H (RT (.a (.agg (af.c r))) H):=(zh F0).1 f H 
def Lz (b:af):Option af:=l9 F0 b
def qY (f:af) (g:Bs):List Bs->Nat->Option (Unit ⊕ ((af×Bool)))
 | [],b=>some (Sum.inl ())
 | j::k,b=>on (j) fun m=>bif ((m==g)) then(bif (decide (((f.aB.l.length:Nat):Int)<=((b:Nat):Int))) then(some (Sum.inr ((af.mk 0 0 [] true [] Sl.nil),false))) else((f.aB.l[b]?).bind fun p=>(Lz p).bind fun q=>some (Sum.inr (q,true)))) else(qY f g (k) (b+1) )
def qX (b:af) (f:Bs):Option (af×Bool):=bif (!decide (b.aj=(6:Int))) then(some ((af.mk 0 0 [] true [] Sl.nil),false)) else(Option.bind (qY b f b.aX.l 0 ) fun g=>match g with|Sum.inl _=>(on (()) fun _=>some ((af.mk 0 0 [] true [] Sl.nil),false))|Sum.inr j=>(some j))
theorem F5 {f g r}(b:qX f g=some r) (H:ah) :At 163 [.agg (af.c f),.d (.str g)] H (RT (.b_ [.agg (af.c r.1),.d (.bool r.2)]) H):=by
 unfold qX at b;refine AC.oW 38 [.cell 4 110,.tmp 5] Tryz.call163 Tryz.func163 ?_;refine Y5 ?_;refine ar fun L t=>Y5 ?_;refine cE b (fun u b=>?_) (fun u b=>?_)
 ·refine Y5 ?_;exact rt b
 refine sk t (fh (tl [4]) (fun(z:af)=>[]) (fun z=>[af.c z]) (fun z=>H) (fun z=>(some ((af.mk 0 0 [] true [] Sl.nil),false))=some r) ?_ ?_)
 ·intro M v;refine Y4 ?_;obtain⟨p,k,b⟩:=b5 b;refine iA (tl [1,2,4]) (fun(z:Nat×af)=>[(6,vi z.1)]) (fun z=>[af.c z.2]) (fun z=>H) (fun z=>f.aX.l.length-z.1) (fun z=>Option.bind (qY f g (f.aX.l.drop z.1) z.1 ) p=some r) (0,af.zero) b wA ?_;rintro ⟨j,q⟩ b N w;try dsimp only at b
  refine ar fun O y=>Y4 ?_;refine aV aW f.aX fun P=>Y2 ?_;refine ag.bW (fun l=>Option.bind (qY f g l j ) p=some r) b rfl (fun Q s m b=>?_) (fun m b=>?_)
  ·rw [qY] at b;try dsimp only at m
   have R:=oD m;refine sk y (ar fun U B=>Y5 ?_);obtain⟨W,C,b⟩:=vO s b;refine S (ix aW j C) (Y4 ?_);refine cO b (fun E b=>?_) (fun E b=>?_)
   ·refine ar fun X F=>Y3 ?_;refine s0 (cA (TK rfl) rfl rfl (af.dX _)) rfl ?_;refine aV af.c f.aB fun Y=>Y2 ?_;refine cO b (fun G b=>?_) (fun G b=>?_)
    ·refine Y5 ?_;exact rs (ku k b:)
    refine sk F (Y2 ?_);refine s0 (cA (TK rfl) rfl rfl (af.dX _)) rfl ?_;refine Y1 ?_;obtain⟨Z,I,b⟩:=aQ b;refine S (ix af.c j I) (Y1 ?_);obtain⟨aa,J,b⟩:=aQ b;refine Sc rfl rfl (Vj J) (Y3 ?_);exact rs (ku k b:)
   refine sk B (Y5 ?_);exact w _ ((j+1),q) wA b (dl s)
  rw [qY] at b;have b:=ku k b;try dsimp only at b
  refine ag.exit ?_;obtain⟨ab,K,b⟩:=b8 b;exact v _ q wA (ku K b:)
 rintro ad b;try dsimp only at b
 refine Y5 ?_;exact rt b
def q6 (f:Z7) (b:af):Option Bool:=bif ((!f.gU)||(!decide (b.aj=(7:Int)))) then(some false) else((qX f.dG b.bK).bind fun g=>some (!g.2))
theorem Mh {j f g r}(b:q6 j f=some r) (H:ah) (p:H g=some (.cells (Z7.c j))):At 118 [.d (.ptr g 0),.agg (af.c f)] H (RT (.a (.d (.bool r))) H):=by
 unfold q6 at b;refine AC.oW 29 [.tmp 4] Tryz.call118 Tryz.func118 ?_;refine Y4 ?_;refine ar fun q k=>Y8 ?_;refine Gk 13 ?_;refine Gk 14 ?_;refine Y2 ?_;refine cE b (fun l b=>?_) (fun l b=>?_)
 ·refine Y3 ?_;exact rt b
 refine sk k (Y7 ?_);obtain⟨s,m,b⟩:=bz b;refine ck rfl rfl (F5 m) (Y7 ?_);refine bl 5 _ rfl (kl [6]) ?_;refine Y5 ?_;exact rt b
def iw (b:Z7) (f:Int):Z7:=bif (decide (b.eE=(0:Int))) then((Z7.mk b.Fd b.dG b.gU b.fM f)) else(b)
theorem pF {b j f r}(g:some (iw b j)=some r) (H:ah) (l:H f=some (.cells (Z7.c b))):At 196 [.d (.ptr f 0),.d (.int .i64 j)] H (RT (.b_ []) ((cS H f (Z7.c r)))):=by
 unfold iw at g;refine AC.oW 13 [] Tryz.call196 Tryz.func196 ?_;refine hz (cS H f (Z7.c b)) (Y7 ?_);refine cP g (fun k g=>?_) (fun k g=>?_)
 ·refine Y5 ?_;refine eW (kz (TK rfl) rfl rfl au rfl (by repeat (first|exact cZ.zero|apply cZ.succ))) rfl rfl ?_;refine hq (H.set f (some (.cells (Z7.c (Z7.mk b.Fd b.dG b.gU b.fM j))))) (Y1 ?_);repeat (first|refine eS ?_|refine eR ?_|refine eP ?_)
  obtain rfl:=oJ g;refine bR.eX (H.set f (some (.cells (Z7.c (Z7.mk b.Fd b.dG b.gU b.fM j))))) (xs:=[]) rfl ⟨rfl,rfl⟩ ?_;exact(fun _ _ h=>h)
 refine ag.skip ?_;repeat (first|refine eS ?_|refine eR ?_|refine eP ?_)
 obtain rfl:=oJ g;refine bR.eX (cS H f (Z7.c b)) (xs:=[]) rfl ⟨rfl,rfl⟩ ?_;exact(fun _ _ h=>h)
def th (g:Z7) (j:Int):Option Z7:=on (bif (decide ((24:Int)<j)) then(on (iw g (5:Int)) fun k=>k) else(g)) fun b=>(cV b.fM (1:Int)).bind fun f=>bif (decide ((4096:Int)<f)) then(on (iw (Z7.mk b.Fd b.dG b.gU f b.eE) (4:Int)) fun l=>some l) else(some (Z7.mk b.Fd b.dG b.gU f b.eE))
theorem Mi {j k f r}(b:th j k=some r) (H:ah) (C:H f=some (.cells (Z7.c j))):At 198 [.d (.ptr f 0),.d (.int .i64 k)] H (RT (.b_ []) ((cS H f (Z7.c r)))):=by
 unfold th at b;refine AC.oW 22 [] Tryz.call198 Tryz.func198 ?_;refine hz (cS H f (Z7.c j)) ?_;obtain⟨s,t,b⟩:=b8 b;refine aN (tl [0]) (fun(z:Z7)=>[]) (fun z=>(cS H f (Z7.c z))) (fun z=>s z=some r) ?_ ?_
 ·intro E l;refine Y4 ?_;refine cP b (fun u b=>?_) (fun u b=>?_)
  ·refine Y2 ?_;obtain⟨m,v,b⟩:=eL b;refine sH (bF rfl rfl (pF v _ au)) rfl ?_;refine hq (cS H f (Z7.c m)) (Y1 ?_);exact l _ m wA b
  refine ag.skip ?_;exact l _ j wA b
 rintro g b;try dsimp only at b
 have b:=ku t b;refine Y5 ?_;obtain⟨p,w,b⟩:=bz b;refine S (gh w) (Y2 ?_);refine eW (kz (TK rfl) rfl rfl au rfl (by repeat (first|exact cZ.zero|apply cZ.succ))) rfl rfl ?_;refine hq (H.set f (some (.cells (Z7.c (Z7.mk g.Fd g.dG g.gU p g.eE))))) (Y8 ?_);refine cE b (fun y b=>?_) (fun y b=>?_)
 ·refine Y2 ?_;obtain⟨q,B,b⟩:=dD b;refine sH (bF rfl rfl (pF B _ au)) rfl ?_;refine hq (cS H f (Z7.c q)) (Y1 ?_);repeat (first|refine eS ?_|refine eR ?_|refine eP ?_)
  obtain rfl:=oJ b;refine bR.eX (cS H f (Z7.c q)) (xs:=[]) rfl ⟨rfl,rfl⟩ ?_;exact(fun _ _ h=>h)
 refine ag.skip ?_;repeat (first|refine eS ?_|refine eR ?_|refine eP ?_)
 obtain rfl:=oJ b;refine bR.eX (H.set f (some (.cells (Z7.c (Z7.mk g.Fd g.dG g.gU p g.eE))))) (xs:=[]) rfl ⟨rfl,rfl⟩ ?_;exact(fun _ _ h=>h)
def tN (m:Int) (g:Z7->af->Int->Option (af×Z7)):List af->Z7->af->Option ((Z7×af))
 | [],f,b=>some (f,b)
 | p::q,f,b=>bif (decide (f.eE=(0:Int))) then(on (p) fun r=>(cV m (1:Int)).bind fun s=>(g f r s).bind fun j=>(bq 80 b.aB (⟨false,[j.1]⟩:Sl af)).bind fun k=>tN m g (q) j.2 (af.mk b.aj b.bL b.bK k.nl k.l b.aX)) else(some (f,b))
def rF:Nat->Z7->af->Int->Option (af×Z7)
 | 0,_,_,_=>none
 | n+1,m,b,g=>(th m g).bind fun j=>(bq 16 ((af.mk b.aj b.bL b.bK true [] Sl.nil).aX) b.aX).bind fun k=>Option.bind (tN g (rF n) b.aB.l j (af.mk ((af.mk b.aj b.bL b.bK true [] Sl.nil).aj) ((af.mk b.aj b.bL b.bK true [] Sl.nil).bL) ((af.mk b.aj b.bL b.bK true [] Sl.nil).bK) ((af.mk b.aj b.bL b.bK true [] Sl.nil).aB).nl ((af.mk b.aj b.bL b.bK true [] Sl.nil).aB).l k)) fun f=>on ((f.1,f.2)) fun z9=>some (z9.2,z9.1)
def F6 (n:Nat):Prop:=∀{a0:Z7}{f:af}{a2:Int}  {b:Nat}{r:(af×Z7)},rF n a0 f a2=some r->∀(H:ah) (g:H b=some (.cells (Z7.c a0))),At 197 [.d (.ptr b 0),.agg (af.c f),.d (.int .i64 a2)] H (RT (.a (.agg (af.c r.1))) ((cS H b (Z7.c r.2))))
theorem Vk (n:Nat) (K:F6 (ak:=ak) n):F6 (ak:=ak) (n+1):=by
 intro ae f J  p r b H ai;rw [rF] at b;refine AC.oW 56 [.cell 6 110] Tryz.call197 Tryz.func197 ?_;refine hz (cS H p (Z7.c ae)) (Y7 ?_);obtain⟨s,L,b⟩:=bz b;refine sH (bF rfl rfl (Mi L _ au)) rfl ?_;refine hq (cS H p (Z7.c s)) (jM ?_);refine aI.tok 5 fun k E=>?_;obtain⟨al,E⟩:=ah.dP E
 refine aI.dU 1 _ rfl (fun j w cs hh hx=>tok_cell 3 5 5 hh (t:=k) au hx rfl) ?_;refine aI.tok 1 fun m q=>?_;obtain⟨an,q⟩:=ah.dP q;obtain⟨ao,q⟩:=ah.dP q;refine aI.dU 1 _ rfl (fun j w cs hh hx=>tok_cell 4 1 1 hh (t:=m) au hx rfl) ?_;refine Y1 ?_
 refine aI.dU 1 _ rfl (fun j w cs hh hx=>tok_cell 3 5 5 hh (t:=k) au hx rfl) ?_;refine aI.dU 1 _ rfl (fun j w cs hh hx=>tok_cell 4 1 1 hh (t:=m) au hx rfl) ?_;refine Y6 ?_;obtain⟨F,M,b⟩:=bz b;refine SH (am aW (TK rfl) rfl (TK rfl) (TK rfl) M) ?_;refine hq (((cS H p (Z7.c s)).set k (some (.tok 5 0))).set m (some (.tok 1 F.l.length))) (Y3 ?_)
 refine fh (tl [6,7]) (fun(z:Z7×af)=>[]) (fun z=>[af.c af.zero,((bM .i64) z.2.aj++(bM .i64) z.2.bL++aW z.2.bK++[Sl.d 5 af.c (some k) z.2.aB]++[Sl.d 1 aW (some m) z.2.aX])]) (fun z=>((tS (cS H p (Z7.c z.1)) k 5 z.2.aB).set m (some (.tok 1 z.2.aX.l.length)))) (fun z=>(some (z.2,z.1))=some r) ?_ ?_
 ·intro ap N;refine Y4 ?_;obtain⟨u,O,b⟩:=b5 b
  refine iA (tl [0,2,4,6,7]) (fun(z:Nat×Z7×af)=>[(8,vi z.1)]) (fun z=>[af.c af.zero,((bM .i64) z.2.2.aj++(bM .i64) z.2.2.bL++aW z.2.2.bK++[Sl.d 5 af.c (some k) z.2.2.aB]++[Sl.d 1 aW (some m) z.2.2.aX])]) (fun z=>((tS (cS H p (Z7.c z.2.1)) k 5 z.2.2.aB).set m (some (.tok 1 z.2.2.aX.l.length)))) (fun z=>f.aB.l.length-z.1) (fun z=>Option.bind (tN J (rF n) (f.aB.l.drop z.1) z.2.1 z.2.2) u=some r) (0,s,(af.mk ((af.mk f.aj f.bL f.bK true [] Sl.nil).aj) ((af.mk f.aj f.bL f.bK true [] Sl.nil).bL) ((af.mk f.aj f.bL f.bK true [] Sl.nil).bK) ((af.mk f.aj f.bL f.bK true [] Sl.nil).aB).nl ((af.mk f.aj f.bL f.bK true [] Sl.nil).aB).l F)) b wA ?_
  rintro ⟨G,v,g⟩ b av P;try dsimp only at b
  refine ar fun aw Q=>Y3 ?_;refine s0 (cA (TK rfl) rfl rfl (af.dX _)) rfl ?_;refine aV af.c f.aB fun ax=>Y3 ?_;refine Gk 32 ?_;refine bE 33 rfl (fun hC=>iJ (TK rfl) rfl rfl (TK rfl) rfl rfl) ?_;refine bE 34 rfl (fun hC=>iI (TK rfl) rfl rfl au rfl) ?_;refine Gk 35 ?_;refine Y2 ?_
  refine ag.uv (fun l=>Option.bind (tN J (rF n) l v g) u=some r) (Option.bind (some (v,g)) u=some r) b (fun b=>by rw [tN] at b; exact b) (fun _ hd b=>by rw [tN] at b; rw [hd] at b; exact b) rfl rfl (fun ay I y R b=>?_) (fun y b=>?_)
  ·rw [tN] at b;rw [R,cond_true] at b;try dsimp only at y
   have az:=oD (and_left y);refine sk Q (ar fun aA U=>Y4 ?_);refine s0 (cA (TK rfl) rfl rfl (af.dX _)) rfl ?_;refine Y1 ?_;obtain⟨aC,W,b⟩:=vO I b;refine S (ix af.c G W) (Y2 ?_);obtain⟨aD,X,b⟩:=aQ b;refine S (gh X) ?_;obtain⟨B,Y,b⟩:=aQ b;refine sH (bF rfl rfl (K Y _ au)) rfl ?_
   refine hq ((tS (cS H p (Z7.c B.2)) k 5 g.aB).set m (some (.tok 1 g.aX.l.length))) (Y3 ?_);refine bl 9 _ rfl (kl [0,2,4,6,7,8]) ?_;refine Y5 ?_;obtain⟨C,Z,b⟩:=aQ b;refine SH (am af.c (TK rfl) rfl (TK rfl) (TK rfl) Z) ?_;refine hq ((tS (cS H p (Z7.c B.2)) k 5 C).set m (some (.tok 1 g.aX.l.length))) (Y3 ?_);refine U _ ?_;refine Y5 ?_
   exact P _ ((G+1),B.2,(af.mk g.aj g.bL g.bK C.nl C.l g.aX)) wA b (dl I)
  have b:=ku O b;try dsimp only at b
  refine ag.exit ?_;obtain⟨aE,aa,b⟩:=b8 b;exact N _ (v,g) wA (ku aa b:)
 rintro ⟨aF,ab⟩ b;try dsimp only at b
 refine ar fun aG ad=>ag.dU 1 _ rfl (fun j w cs hh hx=>nG 3 hx rfl) ?_;refine ag.dU 1 _ rfl (fun j w cs hh hx=>nG 4 hx rfl) ?_;refine ag.dU 1 (af.c ab) rfl (fun j w cs hh hx=>by rw [af.kI]; exact hx) ?_;refine Y4 ?_;refine ad _ ?_;exact rs b
theorem Mj:∀(n:Nat),(F6 (ak:=ak) n)
 | 0=>fun b=>by first|cases b|(rw [rF] at b; cases b)
 | n+1=>Vk n (Mj n)
def Vl (f:Z7) (b:af) (g:Int):Option (af×Z7):=rF F0 f b g
theorem Vm {g f j b r}(k:Vl g f j=some r) (H:ah) (l:H b=some (.cells (Z7.c g))):At 197 [.d (.ptr b 0),.agg (af.c f),.d (.int .i64 j)] H (RT (.a (.agg (af.c r.1))) ((cS H b (Z7.c r.2)))):=(Mj F0) k H l
def Vn (f:Z7) (b:af) (g:Int):Option (af×Z7):=rF F0 f b g
def oO:Nat->Int->Option Bs
 | 0,_=>none
 | n+1,b=>(mu (48:Int) (Int.tmod b (10:Int))).bind fun f=>bif (decide ((-10:Int)<b)) then(some (nJ (⟨false,[(IntKind.wrap .u8 f)]⟩:Sl Int))) else(((oO n) (IntKind.wrap .i64 (Int.tdiv b (10:Int)))).bind fun g=>(cC g (nJ (⟨false,[(IntKind.wrap .u8 f)]⟩:Sl Int))).bind fun j=>some j)
def F7 (n:Nat):Prop:=∀{a0:Int}   {r:Bs},oO n a0=some r->∀(H:ah),At 235 [.d (.int .i64 a0)] H (RT (.a (.d (.str r))) H)
theorem Vo (n:Nat) (f:F7 (ak:=ak) n):F7 (ak:=ak) (n+1):=by
 intro u   r b H;rw [oO] at b;refine AC.oW 18 [.tmp 2] Tryz.call235 Tryz.func235 ?_;refine Y5 ?_;refine s0 (Pj rfl rfl (by decide)) rfl ?_;obtain⟨g,j,b⟩:=bz b;refine S (D4 j) (s0 (Pk (TK rfl) (TK rfl) rfl rfl) rfl ?_);refine Y1 ?_;refine s0 (Pm (y:=(⟨false,[(IntKind.wrap .u8 g)]⟩:Sl Int)) (TK rfl) rfl (TK rfl) rfl (TK rfl) rfl rfl) rfl ?_;refine Y2 ?_;refine ar fun q k=>Y4 ?_
 refine cE b (fun l b=>?_) (fun l b=>?_)
 ·refine Y4 ?_;exact rt b
 refine sk k (Y2 ?_);refine s0 (Ph rfl rfl (by decide)) rfl ?_;obtain⟨s,m,b⟩:=bz b;refine Sc rfl rfl (f m) (Y1 ?_);obtain⟨t,p,b⟩:=bz b;refine S (eN p) (Y2 ?_);exact rt b
theorem Mk:∀(n:Nat),(F7 (ak:=ak) n)
 | 0=>fun b=>by first|cases b|(rw [oO] at b; cases b)
 | n+1=>Vo n (Mk n)
def Vp (b:Int):Option Bs:=oO F0 b
theorem Ml {b r}(f:Vp b=some r) (H:ah) :At 235 [.d (.int .i64 b)] H (RT (.a (.d (.str r))) H):=(Mk F0) f H 
def Ft (b:Int):Option Bs:=oO F0 b
def yJ (b:Int):Option Bs:=bif (decide (b<(0:Int))) then((Ft b).bind fun f=>(cC ([45]:Bs) f).bind fun g=>some g) else((Ft (IntKind.wrap .i64 (0-b))).bind fun j=>some j)
theorem Vq {f r}(b:yJ f=some r) (H:ah) :At 225 [.d (.int .i64 f)] H (RT (.a (.d (.str r))) H):=by
 unfold yJ at b;refine AC.oW 11 [.tmp 2] Tryz.call225 Tryz.func225 ?_;refine Y3 ?_;refine ar fun p g=>Y4 ?_;refine cE b (fun j b=>?_) (fun j b=>?_)
 ·refine Y2 ?_;obtain⟨q,k,b⟩:=bz b;refine Sc rfl rfl (Ml k) ?_;obtain⟨s,l,b⟩:=bz b;refine S (eN l) (Y2 ?_);exact rt b
 refine sk g (Y2 ?_);refine s0 (NP rfl) rfl ?_;obtain⟨t,m,b⟩:=bz b;refine Sc rfl rfl (Ml m) (Y2 ?_);exact rt b
def vA (g:Z7) (f:Bs) (b:af):Option (af×Z7):=bif (((((f==([73,110,116]:Bs)))&&(decide (b.aj=(2:Int))))&&(decide ((-2147483648:Int)<=b.bL)))&&(decide (b.bL<(2147483648:Int)))) then(some (b,g)) else(on (bif (((f==([83,116,114,105,110,103]:Bs)))&&(decide (b.aj=(3:Int)))) then((((f==([83,116,114,105,110,103]:Bs)))&&(decide (b.aj=(3:Int))))) else(bif (((f==([66,111,111,108,101,97,110]:Bs)))&&(decide (b.aj=(1:Int)))) then((((f==([66,111,111,108,101,97,110]:Bs)))&&(decide (b.aj=(1:Int))))) else((((f==([73,68]:Bs)))&&(decide (b.aj=(3:Int))))))) fun j=>bif j then(some (b,g)) else(bif (((f==([73,68]:Bs)))&&(decide (b.aj=(2:Int)))) then((yJ b.bL).bind fun k=>some ((af.mk 3 0 k true [] Sl.nil),g)) else(on (()) fun _=>on (iw g (23:Int)) fun l=>some ((af.mk 0 0 [] true [] Sl.nil),l))))
theorem Vr {g j k f r}(b:vA g j k=some r) (H:ah) (F:H f=some (.cells (Z7.c g))):At 200 [.d (.ptr f 0),.d (.str j),.agg (af.c k)] H (RT (.a (.agg (af.c r.1))) ((cS H f (Z7.c r.2)))):=by
 unfold vA at b;refine AC.oW 64 [.cell 6 110] Tryz.call200 Tryz.func200 ?_;refine hz (cS H f (Z7.c g)) (Y4 ?_);refine fh (tl [0,6]) (fun(z:af)=>[]) (fun z=>[af.c z]) (fun z=>(cS H f (Z7.c g))) (fun z=>(on (iw g (23:Int)) fun l=>some ((af.mk 0 0 [] true [] Sl.nil),l))=some r) ?_ ?_
 ·intro G p;refine Y6 ?_;refine Gk 11 ?_;refine Gk 12 ?_;refine Y3 ?_;refine Gk 16 ?_;refine Gk 17 ?_;refine Y3 ?_;refine Gk 21 ?_;refine Gk 22 ?_;refine Y3 ?_;refine cE b (fun q b=>?_) (fun q b=>?_)
  ·refine Y4 ?_;exact rt b
  obtain⟨s,t,b⟩:=b8 b;refine aN (tl [0,1,5,6]) (fun(z:Bool)=>[(26,.a (.d (.bool z)))]) (fun z=>(cS H f (Z7.c g))) (fun z=>s z=some r) ?_ ?_
  ·intro I m;refine Y5 ?_;refine Gk 30 ?_;refine Gk 31 ?_;refine Y3 ?_;refine cP b (fun u b=>?_) (fun u b=>?_)
   ·refine ag.skip ?_;exact m _ (((j==([83,116,114,105,110,103]:Bs)))&&(decide (k.aj=(3:Int)))) wA b
   refine Y5 ?_;refine Gk 37 ?_;refine Gk 38 ?_;refine Y3 ?_;refine cP b (fun v b=>?_) (fun v b=>?_)
   ·refine ag.skip ?_;exact m _ (((j==([66,111,111,108,101,97,110]:Bs)))&&(decide (k.aj=(1:Int)))) wA b
   refine Y5 ?_;refine Gk 44 ?_;refine Gk 45 ?_;refine Y3 ?_;exact m _ (((j==([73,68]:Bs)))&&(decide (k.aj=(3:Int)))) wA b
  rintro J b;try dsimp only at b
  have b:=ku t b;refine cE b (fun w b=>?_) (fun w b=>?_)
  ·refine Y4 ?_;exact rt b
  refine Y5 ?_;refine Gk 53 ?_;refine Gk 54 ?_;refine Y3 ?_;refine cE b (fun y b=>?_) (fun y b=>?_)
  ·refine Y3 ?_;obtain⟨K,B,b⟩:=bz b;refine Sc rfl rfl (Vq B) (Y3 ?_);exact rt b
  refine ag.skip ?_;obtain⟨L,C,b⟩:=b8 b;exact p _ af.zero wA (ku C b:)
 rintro M b;try dsimp only at b
 refine Y2 ?_;obtain⟨l,E,b⟩:=dD b;refine sH (bF rfl rfl (pF E _ au)) rfl ?_;refine hq (cS H f (Z7.c l)) (Y5 ?_);exact rt b
def o8 (f:Z7) (b:af):List bC->Unit ⊕ ((af×Z7))
 | []=>Sum.inl ()
 | g::j=>on (g) fun k=>bif ((k.aa==b.bK)) then(Sum.inr ((af.mk 4 0 b.bK true [] Sl.nil),f)) else(o8 f b (j) )
def tu (b:Z7) (j:ay) (f:af):(af×Z7):=on (fun(_:Unit)=>on (iw b (23:Int)) fun k=>((af.mk 0 0 [] true [] Sl.nil),k)) fun g=>bif ((decide (f.aj=(4:Int)))||((decide (f.aj=(3:Int)))&&(!b.gU))) then(on (o8 b f j.bV.l ) fun m=>match m with|Sum.inl _=>(g ())|Sum.inr p=>(p)) else(g ())
theorem Vs {g j k f r}(b:some (tu g j k)=some r) (H:ah) (L:H f=some (.cells (Z7.c g))):At 201 [.d (.ptr f 0),.agg (ay.c j),.agg (af.c k)] H (RT (.a (.agg (af.c r.1))) ((cS H f (Z7.c r.2)))):=by
 unfold tu at b;refine AC.oW 45 [.cell 6 110] Tryz.call201 Tryz.func201 ?_;refine hz (cS H f (Z7.c g)) (Y5 ?_);obtain⟨w,y,b⟩:=mP b;refine fh (tl [0,6]) (fun(z:af)=>[]) (fun z=>[af.c z]) (fun z=>(cS H f (Z7.c g))) (fun z=>some (w ())=some r) ?_ ?_
 ·intro M p;refine Y6 ?_;refine Gk 12 ?_;refine Gk 13 ?_;refine Gk 14 ?_;refine Y1 ?_;refine Gk 16 ?_;refine bE 17 rfl (fun hC=>iJ (TK rfl) rfl rfl (TK rfl) rfl rfl) ?_;refine bE 18 rfl (fun hC=>iI (TK rfl) rfl rfl au rfl) ?_;refine Gk 19 ?_;refine bE 15 rfl (fun hC=>f_ rfl rfl rfl) ?_;refine Y2 ?_;refine cP b (fun B b=>?_) (fun B b=>?_)
  ·refine Y4 ?_;obtain⟨q,s,b⟩:=eH b;refine iA (tl [0,4,5,6]) (fun(z:Nat×af)=>[(7,vi z.1)]) (fun z=>[af.c z.2]) (fun z=>(cS H f (Z7.c g))) (fun z=>j.bV.l.length-z.1) (fun z=>q (o8 g k (j.bV.l.drop z.1) )=some r) (0,af.zero) b wA ?_;rintro ⟨t,u⟩ b N C;try dsimp only at b
   refine ar fun O E=>Y4 ?_;refine aV bC.c j.bV fun P=>Y2 ?_;refine ag.bW (fun l=>q (o8 g k l )=some r) b rfl (fun Q v m b=>?_) (fun m b=>?_)
   ·rw [o8] at b;try dsimp only at m
    have R:=oD m;refine sk E (ar fun S F=>Y5 ?_);obtain⟨U,G,b⟩:=vP v b;refine Sd (ix bC.c t G) (Y6 ?_);refine cP b (fun I b=>?_) (fun I b=>?_)
    ·refine Y6 ?_;exact rs (ku s b:)
    refine sk F (Y5 ?_);exact C _ ((t+1),u) wA b (dl v)
   rw [o8] at b;have b:=ku s b;try dsimp only at b
   refine ag.exit ?_;exact p _ u wA b
  refine ag.skip ?_;exact p _ af.zero wA b
 rintro W b;try dsimp only at b
 rw [y] at b;try dsimp only at b
 refine Y2 ?_;obtain⟨J,K,b⟩:=eL b;refine sH (bF rfl rfl (pF K _ au)) rfl ?_;refine hq (cS H f (Z7.c J)) (Y5 ?_);exact rt b
def BQ  :Option Bool:=some false
def vz (g:(Sl az)) (b:Int) :Nat->Int->Option Bool
 | 0,_=>none
 | j+1,f=>bif (decide (f<b)) then((dc g.l f).bind fun k=>(dc g.l b).bind fun m=>bif ((k.aa==m.aa)) then(some true) else((cV f (1:Int)).bind fun p=>(vz g b j) p)) else(BQ   )
def BR (f:(Sl az)) (b:Int):Option Bool:=vz f b F0 (0:Int)
theorem Vt {k g w0 r}(b:BR k g=some r) (H:ah) :At 226 [.d (Sl.d 10 az.c w0 k),.d (.int .i64 g)] H (RT (.a (.d (.bool r))) H):=by
 unfold BR at b;refine AC.oW 22 [.tmp 4] Tryz.call226 Tryz.func226 ?_;refine Y3 ?_;refine aN kN (fun(z:Unit)=>[]) (fun z=>H) (fun z=>BQ =some r) ?_ ?_
 ·intro B l;refine Y4 ?_;refine bx (tl [0,1]) (fun(z:Nat×Int)=>[(5,.a (.d (.int .i64 z.2)))]) (fun z=>H) (fun z=>z.1) (fun z=>vz k g z.1 z.2=some r) (F0,(0:Int)) b wA ?_;rintro ⟨j,C⟩ b E m;try dsimp only at b
  cases j with
  | zero=>cases b
  | succ j =>
    rw [vz] at b;refine ar fun F p=>Y5 ?_;refine cE b (fun q b=>?_) (fun q b=>?_)
    ·refine sk p (ar fun G s=>Y4 ?_);obtain⟨I,t,b⟩:=bO b;refine aH.s0 (iK (f:=az.c) (TK rfl) rfl (TK rfl) rfl rfl rfl t) rfl ?_;refine Y4 ?_;obtain⟨J,u,b⟩:=bO b;refine aH.s0 (iK (f:=az.c) (TK rfl) rfl (TK rfl) rfl rfl rfl u) rfl ?_;refine Y4 ?_;refine cE b (fun v b=>?_) (fun v b=>?_)
     ·refine Y3 ?_;exact rt b
     refine sk s (Y2 ?_);obtain⟨w,y,b⟩:=bO b;refine S (gh y) (Y2 ?_);exact m _ (j,w) wA b (nS _)
    refine ag.exit ?_;exact l _ () wA b
 rintro _ b;try dsimp only at b
 unfold BQ at b;refine Y3 ?_;exact rt b
def FI (f:(Sl az)) (b:Int):Option Bool:=BR f b
end Go.Proofs
