import Derived.Test.YtdlobimnfmjonaaGreatDoorV1
set_option maxRecDepth 100000
set_option maxHeartbeats 2000000
set_option linter.unusedVariables false
set_option linter.unusedSimpArgs false
namespace Go.Proofs
open Go Go.Ab
open aJ aq ah dN fT
attribute [local irreducible] aJ aN ah aq
variable {av:bR}
def iv (a0:aL):Bool:=on (bif (decide ((0:Int)<((a0.aK.l.length:Nat):Int))) then((a0.aK.l)[0]?.getD (0:Int)) else(0:Int)) fun b=>((decide ((0:Int)<((a0.aK.l.length:Nat):Int)))&&(decide (b=(1:Int))))
theorem tO {a0 r}(b:some (iv a0)=some r) (H:af) :AC Tryz.prog 135 [.agg (aL.c a0)] H (RT (.a (.d (.bool r))) H):=by
 unfold iv at b;refine AC.oW 14 [.tmp 2] Tryz.call135 Tryz.func135 ?_;refine Y7 ?_;refine aT (bI .i64) a0.aK fun g=>Y3 ?_;refine Gk 8 ?_;obtain⟨j,f,b⟩:=jU (fun hc=>Q.getD_some (by simp at hc; omega)) b;refine bG 9 rfl (fun hC=>ix (bI .i64) 0 (f hC)) ?_;refine Gk 10 ?_;refine Gk 11 ?_;refine Y3 ?_;exact rt b
def wz (a0:aL):Option aL:=(lY a0.aK (some (1:Int)) none).bind fun x3=>(bf 8 (⟨false,[]⟩:Sl Int) x3).bind fun b=>some (aL.mk a0.aa b)
theorem Mh {a0 r}(b:wz a0=some r) (H:af) :AC Tryz.prog 192 [.agg (aL.c a0)] H (RT (.a (.agg (aL.c r))) H):=by
 unfold wz at b;refine AC.oW 11 [.cell 2 46] Tryz.call192 Tryz.func192 ?_;refine Y7 ?_;refine aN.s0 (uf (TK rfl) rfl (TK rfl) rfl rfl rfl rfl rfl rfl) rfl ?_;refine Y2 ?_;obtain⟨x3,g,b⟩:=qT rfl b;refine aN.s0 (lg (f:=(bI .i64)) (l:=(some (1:Int))) (r:=none) (TK rfl) rfl (TK rfl) rfl rfl rfl trivial g) rfl ?_;obtain⟨k,j,b⟩:=qT rfl b
 refine aN.s0 (yg (f:=(bI .i64)) (TK rfl) rfl (TK rfl) (TK rfl) ⟨_,rfl⟩ rfl rfl (by decide) rfl rfl rfl (by intro q h; cases h<;>decide) rfl rfl j) rfl ?_;refine Y3 ?_;exact rt b
def qz (a0:aL):Option aL:=on (iv a0) fun b=>bif b then((wz a0).bind fun x7=>some x7) else((bf 8 (⟨false,[]⟩:Sl Int) a0.aK).bind fun f=>some (aL.mk a0.aa f))
theorem zI {a0 r}(b:qz a0=some r) (H:af) :AC Tryz.prog 174 [.agg (aL.c a0)] H (RT (.a (.agg (aL.c r))) H):=by
 unfold qz at b;refine AC.oW 14 [.cell 2 46] Tryz.call174 Tryz.func174 ?_;refine Y4 ?_;refine ar fun p g=>Y2 ?_;obtain⟨s,j,b⟩:=vT rfl b;refine Sc rfl rfl (tO j) (Y1 ?_);refine cE b (fun k b=>?_) (fun k b=>?_)
 ·refine Y2 ?_;obtain⟨x7,l,b⟩:=qT rfl b;refine Sc rfl rfl (Mh l) (Y2 ?_);exact rt b
 refine sk g (Y3 ?_);refine aN.s0 (uf (TK rfl) rfl (TK rfl) rfl rfl rfl rfl rfl rfl) rfl ?_;refine Y2 ?_;obtain⟨t,m,b⟩:=qT rfl b;refine aN.s0 (yg (f:=(bI .i64)) (TK rfl) rfl (TK rfl) (TK rfl) ⟨_,rfl⟩ rfl rfl (by decide) rfl rfl rfl (by intro q h; cases h<;>decide) rfl rfl m) rfl ?_;refine Y3 ?_;exact rt b
def y5 (a0:aL):Option Bool:=(qz a0).bind fun x3=>on (bif (decide ((0:Int)<((x3.aK.l.length:Nat):Int))) then((x3.aK.l)[0]?.getD (0:Int)) else(0:Int)) fun b=>some ((decide ((0:Int)<((x3.aK.l.length:Nat):Int)))&&(decide (b=(2:Int))))
theorem U9 {a0 r}(b:y5 a0=some r) (H:af) :AC Tryz.prog 193 [.agg (aL.c a0)] H (RT (.a (.d (.bool r))) H):=by
 unfold y5 at b;refine AC.oW 17 [.tmp 2] Tryz.call193 Tryz.func193 ?_;refine Y6 ?_;obtain⟨x3,f,b⟩:=qT rfl b;refine Sc rfl rfl (zI f) (Y3 ?_);refine bx 3 _ rfl dN.nil ?_;refine Y3 ?_;refine aT (bI .i64) x3.aK fun j=>Y3 ?_;refine Gk 11 ?_;obtain⟨k,g,b⟩:=l7 (fun hc=>Q.getD_some (by simp at hc; omega)) b;refine bG 12 rfl (fun hC=>ix (bI .i64) 0 (g hC)) ?_;refine Gk 13 ?_
 refine Gk 14 ?_;refine Y3 ?_;exact rt b
def mu (a0:aL):Option (aL×Bool):=(y5 a0).bind fun b=>bif (!b) then(some ((aL.mk [] Sl.nil),false)) else((qz a0).bind fun f=>(wz f).bind fun g=>some (g,true))
theorem Fs {a0 r}(b:mu a0=some r) (H:af) :AC Tryz.prog 175 [.agg (aL.c a0)] H (RT (.cI [.agg (aL.c r.1),.d (.bool r.2)]) H):=by
 unfold mu at b;refine AC.oW 11 [.cell 2 46,.tmp 3] Tryz.call175 Tryz.func175 ?_;refine Y5 ?_;refine ar fun m f=>Y2 ?_;obtain⟨p,g,b⟩:=qT rfl b;refine Sc rfl rfl (U9 g) (Y2 ?_);refine cE b (fun j b=>?_) (fun j b=>?_)
 ·refine Y5 ?_;exact rt b
 refine sk f (Y2 ?_);obtain⟨q,k,b⟩:=qT rfl b;refine Sc rfl rfl (zI k) ?_;obtain⟨s,l,b⟩:=qT rfl b;refine Sc rfl rfl (Mh l) (Y3 ?_);exact rt b
def qA (b:Bs):List Z8->Unit ⊕ Bool
 | []=>Sum.inl ()
 | f::g=>on (f) fun j=>bif ((j.aa==b)) then(Sum.inr true) else(qA b (g) )
def uS (a0:ag) (g:Bs):Bool:=on (qA g a0.au.l ) fun b=>match b with|Sum.inl _=>(on (()) fun _=>false)|Sum.inr f=>(f)
theorem Mi {a0 f r}(b:some (uS a0 f)=some r) (H:af) :AC Tryz.prog 104 [.agg (ag.c a0),.d (.str f)] H (RT (.a (.d (.bool r))) H):=by
 unfold uS at b;refine AC.oW 21 [.tmp 4] Tryz.call104 Tryz.func104 ?_;refine Y4 ?_;refine aR kN (fun(z:Unit)=>[]) (fun z=>H) (fun z=>some (false)=some r) ?_ ?_
 ·intro B p;refine Y4 ?_;obtain⟨g,j,b⟩:=dX b;refine bD (tl [1,2]) (fun(z:Nat)=>[(5,vi z)]) (fun z=>H) (fun z=>a0.au.l.length-z) (fun z=>g (qA f (a0.au.l.drop z) )=some r) 0 b wA ?_;rintro k b C q;refine ar fun E s=>Y4 ?_;refine aT Z8.c a0.au fun F=>Y2 ?_;refine ah.bL (fun l=>g (qA f l )=some r) b rfl (fun G m t b=>?_) (fun t b=>?_)
  ·rw [qA] at b;refine sk s (ar fun I u=>Y5 ?_);obtain⟨J,v,b⟩:=vP m b;refine S (ix Z8.c k v) (Y5 ?_);refine cP b (fun w b=>?_) (fun w b=>?_)
   ·refine Y3 ?_;exact rs (ku j b:)
   refine sk u (Y5 ?_);exact q _ (k+1) wA b (dl m)
  rw [qA] at b;have b:=ku j b;refine ah.exit ?_;obtain⟨K,y,b⟩:=dX b;exact p _ () wA (ku y b:)
 rintro _ b;refine Y3 ?_;exact rt b
def Ft  :Option Bool:=some true
def wE (a0:ai) (f:Int) :Nat->Int->Option Bool
 | 0,_=>none
 | g+1,b=>bif (decide (b<f)) then((dh a0.aj.l b).bind fun j=>(dh a0.aj.l f).bind fun k=>bif ((j.aa==k.aa)) then(some false) else((cF b (1:Int)).bind fun m=>(wE a0 f g) m)) else(Ft   )
def Br (a0:ai) (b:Int):Option Bool:=wE a0 b F0 (0:Int)
theorem U_ {a0 j r}(b:Br a0 j=some r) (H:af) :AC Tryz.prog 209 [.agg (ai.c a0),.d (.int .i64 j)] H (RT (.a (.d (.bool r))) H):=by
 unfold Br at b;refine AC.oW 24 [.tmp 4] Tryz.call209 Tryz.func209 ?_;refine Y4 ?_;refine aR kN (fun(z:Unit)=>[]) (fun z=>H) (fun z=>Ft =some r) ?_ ?_
 ·intro y k;refine Y4 ?_;refine bD (tl [1,2]) (fun(z:Nat×Int)=>[(5,.a (.d (.int .i64 z.2)))]) (fun z=>H) (fun z=>z.1) (fun z=>wE a0 j z.1 z.2=some r) (F0,(0:Int)) b wA ?_;rintro ⟨g,B⟩ b C l;cases g with
  | zero=>cases b
  | succ g =>
    rw [wE] at b;refine ar fun E m=>Y5 ?_;refine cE b (fun p b=>?_) (fun p b=>?_)
    ·refine sk m (ar fun F q=>Y5 ?_);obtain⟨G,s,b⟩:=bO b;refine aN.s0 (iZ (f:=ag.c) (TK rfl) rfl (TK rfl) rfl rfl rfl s) rfl ?_;refine Y5 ?_;obtain⟨I,t,b⟩:=bO b;refine aN.s0 (iZ (f:=ag.c) (TK rfl) rfl (TK rfl) rfl rfl rfl t) rfl ?_;refine Y4 ?_;refine cE b (fun u b=>?_) (fun u b=>?_)
     ·refine Y3 ?_;exact rt b
     refine sk q (Y2 ?_);obtain⟨v,w,b⟩:=bO b;refine S (eC w) (Y2 ?_);exact l _ (g,v) wA b (nS _)
    refine ah.exit ?_;exact k _ () wA b
 rintro _ b;unfold Ft at b;refine Y3 ?_;exact rt b
def Es (a0:ai) (b:Int):Option Bool:=Br a0 b
def jJ (a0:ai) (j:Bs) (b:(ag×Bool)):List ag->Nat->(Sl Bs)->Option ((Sl Bs))
 | [],k,g=>some g
 | m::p,k,g=>bif b.2 then(on (m) fun f=>aY (!(!decide (f.ak=(1:Int)))) (Es a0 ((k:Nat):Int)) false fun q=>Option.bind (bif ((!decide (f.ak=(1:Int)))||(!q)) then(some g) else(on (bif (!((decide (b.1.ak=(1:Int)))&&((f.aa==j)))&&(decide (b.1.ak=(2:Int)))) then qn f.aH j else false) fun l=>on (bif (!(((decide (b.1.ak=(1:Int)))&&((f.aa==j)))||((decide (b.1.ak=(2:Int)))&&l))&&(decide (b.1.ak=(3:Int)))) then uS b.1 f.aa else false) fun r=>bif ((((decide (b.1.ak=(1:Int)))&&((f.aa==j)))||((decide (b.1.ak=(2:Int)))&&l))||((decide (b.1.ak=(3:Int)))&&r)) then((bf 16 g (⟨false,[f.aa]⟩:Sl Bs)).bind fun s=>some s) else(some g))) fun t=>jJ a0 j b (p) (k+1) t) else(some g)
def y_ (a0:ai) (b:Bs):Option (Sl Bs):=on (fe a0 b) fun f=>Option.bind (jJ a0 b f a0.aj.l 0 (Sl.nil:Sl Bs)) fun g=>on (g) fun j=>some j
theorem U' {a0 k r}(b:y_ a0 k=some r) (H:af) :AC Tryz.prog 194 [.agg (ai.c a0),.d (.str k)] H (RT (.a (.d (Sl.d 1 aB none r))) H):=by
 unfold y_ at b;refine AC.oW 81 [.tmp 4] Tryz.call194 Tryz.func194 ?_;refine ah.tok 1 fun f U=>?_;refine Y2 ?_;refine s0 (di (k':=1) rfl) rfl ?_;refine Y4 ?_;refine ah.fK 5 1 f rfl aA ?_;refine Y3 ?_;obtain⟨p,v,b⟩:=vT rfl b;refine Sc rfl rfl (l_ v) (Y7 ?_);refine bx 6 _ rfl (kl [1,2,5,7]) ?_
 refine aR kN (fun(z:(Sl Bs))=>[(5,.a (.d (Sl.d 1 aB (some f) z)))]) (fun z=>(tS H f 1 z)) (fun z=>(some z)=some r) ?_ ?_
 ·intro W w;refine Y4 ?_;obtain⟨m,y,b⟩:=bZ b;refine bD (tl [1,2,6,7]) (fun(z:(Sl Bs)×Nat)=>[(5,.a (.d (Sl.d 1 aB (some f) z.1))),(8,vi z.2)]) (fun z=>(tS H f 1 z.1)) (fun z=>a0.aj.l.length-z.2) (fun z=>Option.bind (jJ a0 k p (a0.aj.l.drop z.2) z.2 z.1) m=some r) ((Sl.nil:Sl Bs),0) b wA ?_;rintro ⟨g,j⟩ b X B;refine ar fun Y C=>Y4 ?_
  refine aT ag.c a0.aj fun Z=>Y5 ?_;refine ah.AR (fun l=>Option.bind (jJ a0 k p l j g) m=some r) (Option.bind (some g) m=some r) b (fun b=>by rw [jJ] at b; exact b) (fun _ E b=>by rw [jJ] at b; rw [E] at b; exact b) rfl rfl (fun aa t u F b=>?_) (fun u b=>?_)
  ·rw [jJ] at b;rw [F,cond_true] at b;have ab:=oD (and_left u);refine sk C (aR (tl [1,2,6,7,8]) (fun(z:(Sl Bs))=>[(5,.a (.d (Sl.d 1 aB (some f) z)))]) (fun z=>(tS H f 1 z)) (fun z=>Option.bind (jJ a0 k p (a0.aj.l.drop (j+1)) (j+1) z) m=some r) ?_ ?_)
   ·intro ad q;refine Y5 ?_;obtain⟨ae,G,b⟩:=vO t b;refine S (ix ag.c j G) (Y4 ?_);refine bx 9 _ rfl (kl [1,2,5,6,7,8]) ?_;refine ar fun ak I=>Y7 ?_;obtain⟨al,J,b⟩:=e8 rfl b;refine fE 36 37 rfl rfl rfl rfl rfl rfl (fun hC=>U_ (J hC)) ?_;refine Gk 38 ?_;refine Y2 ?_;obtain⟨an,s,b⟩:=cM b;refine cO b (fun K b=>?_) (fun K b=>?_)
    ·refine ah.exit ?_;exact q _ g wA (ku s b:)
    refine sk I (Y6 ?_);refine Gk 45 ?_;refine Y1 ?_;refine G2 46 47 rfl rfl BS ?_;refine Y7 ?_;refine Gk 52 ?_;refine Gk 53 ?_;refine Gk 54 ?_;refine Y1 ?_;refine Gk 56 ?_;refine Y1 ?_;obtain⟨ao,L,b⟩:=ej (fun _=>rfl) b;refine fE 57 58 rfl rfl rfl rfl rfl rfl (fun hC=>DX (L hC)) ?_;refine bG 55 rfl (fun hC=>kr rfl rfl rfl) ?_;refine Y7 ?_;refine Gk 64 ?_;refine Gk 65 ?_;refine Gk 66 ?_
    refine Y2 ?_;refine Gk 69 ?_;obtain⟨ap,M,b⟩:=ej (fun _=>rfl) b;refine fE 68 70 rfl rfl rfl rfl rfl rfl (fun hC=>Mi (M hC)) ?_;refine bG 67 rfl (fun hC=>kr rfl rfl rfl) ?_;refine Y6 ?_;refine cO b (fun N b=>?_) (fun N b=>?_)
    ·refine Y5 ?_;obtain⟨O,P,b⟩:=qO rfl b;refine SH (am aB (TK rfl) rfl (TK rfl) (TK rfl) P) ?_;refine Y2 ?_;exact q _ O wA (ku s b:)
    refine ah.skip ?_;exact q _ g wA (ku s b:)
   rintro Q b;refine Y5 ?_;exact B _ (Q,(j+1)) wA b (dl t)
  have b:=ku y b;refine ah.exit ?_;obtain⟨au,R,b⟩:=bW b;exact w _ g wA (ku R b:)
 rintro av b;refine Y4 ?_;refine ah.dV 4 rfl ?_;refine ry ?_;obtain rfl:=oJ b;refine bH.b9 H rfl ⟨rfl,rfl⟩ ?_;exact sy
def s5 (a0:ai) (f:Bs) (g:Bs):Option Bool:=(y_ a0 g).bind fun x3=>on (qn x3 f) fun b=>some b
theorem Va {a0 f g r}(b:s5 a0 f g=some r) (H:af) :AC Tryz.prog 176 [.agg (ai.c a0),.d (.str f),.d (.str g)] H (RT (.a (.d (.bool r))) H):=by
 unfold s5 at b;refine AC.oW 12 [.tmp 6] Tryz.call176 Tryz.func176 ?_;refine Y7 ?_;obtain⟨x3,j,b⟩:=qT rfl b;refine Sc rfl rfl (U' j) (Y1 ?_);obtain⟨l,k,b⟩:=vT rfl b;refine Sc rfl rfl (DX k) (Y2 ?_);exact rt b
def kG:Nat->ai->aL->aL->Option Bool
 | 0,_,_,_=>none
 | n+1,a0,b,f=>on (iv f) fun k=>bif k then(on (iv b) fun x7=>aY (x7) (qz b) aL.zero fun l=>aY (x7) (qz f) aL.zero fun m=>aY (x7) ((kG n) a0 l m) false fun p=>some (x7&&p)) else(on (iv b) fun q=>bif q then((qz b).bind fun r=>((kG n) a0 r f).bind fun s=>some s) else((mu b).bind fun g=>(mu f).bind fun j=>bif (g.2&&j.2) then(((kG n) a0 g.1 j.1).bind fun t=>some t) else(aY ((((!g.2)&&(!j.2))&&!((b.aa==f.aa)))) (s5 a0 b.aa f.aa) false fun u=>some (((!g.2)&&(!j.2))&&(((b.aa==f.aa))||u)))))
def Fu (n:Nat):Prop:=∀{a0:ai}{a1:aL}{a2:aL}   {r:Bool},kG n a0 a1 a2=some r->∀(H:af),AC Tryz.prog 141 [.agg (ai.c a0),.agg (aL.c a1),.agg (aL.c a2)] H fun v h'=>v=.a (.d (.bool r))/\h'=H
theorem Vb (n:Nat) (f:Fu (av:=av) n):Fu (av:=av) (n+1):=by
 intro a0 Y Z   r b H;rw [kG] at b;refine AC.oW 69 [.tmp 6] Tryz.call141 Tryz.func141 ?_;refine Y6 ?_;refine ar fun I g=>Y2 ?_;obtain⟨J,j,b⟩:=vT rfl b;refine Sc rfl rfl (tO j) (Y1 ?_);refine cE b (fun l b=>?_) (fun l b=>?_)
 ·refine Y2 ?_;obtain⟨x7,m,b⟩:=vT rfl b;refine cH rfl rfl (tO m) (Y3 ?_);obtain⟨K,p,b⟩:=eE rfl b;refine oH 17 rfl rfl rfl rfl rfl (fun hC=>zI (p hC)) ?_;refine Y1 ?_;obtain⟨L,q,b⟩:=eE rfl b;refine oH 19 rfl rfl rfl rfl rfl (fun hC=>zI (q hC)) ?_;obtain⟨M,s,b⟩:=eE rfl b
  refine aN.gC rfl rfl (fun hC=>jS (k:=16) rfl (jS (k:=18) rfl (jS (k:=20) rfl (jQ rfl rfl (fun H=>f (s hC) H))))) rfl ?_;refine Y3 ?_;exact rt b
 refine sk g (ar fun N t=>Y2 ?_);obtain⟨O,u,b⟩:=vT rfl b;refine Sc rfl rfl (tO u) (Y1 ?_);refine cE b (fun v b=>?_) (fun v b=>?_)
 ·refine Y3 ?_;obtain⟨P,w,b⟩:=qT rfl b;refine cH rfl rfl (zI w) (Y1 ?_);obtain⟨Q,y,b⟩:=qT rfl b;refine cH rfl rfl (f y) (Y2 ?_);exact rt b
 refine sk t (Y2 ?_);obtain⟨R,z,b⟩:=qT rfl b;refine Sc rfl rfl (Fs z) (Y7 ?_);refine bx 7 _ rfl (kl [3,4,5,8]) ?_;refine Y2 ?_;obtain⟨S,B,b⟩:=qT rfl b;refine Sc rfl rfl (Fs B) (Y7 ?_);refine bx 9 _ rfl (kl [3,4,5,7,8,10]) ?_;refine ar fun U C=>Y6 ?_;refine cE b (fun E b=>?_) (fun E b=>?_)
 ·refine Y4 ?_;obtain⟨W,F,b⟩:=qT rfl b;refine Sc rfl rfl (f F) (Y2 ?_);exact rt b
 refine sk C (Y5 ?_);refine Gk 51 ?_;refine Y3 ?_;refine Gk 55 ?_;refine Y1 ?_;refine Gk 57 ?_;refine G2 56 58 rfl rfl BS ?_;refine Gk 59 ?_;refine Y2 ?_;refine Gk 62 ?_;refine Y1 ?_;refine Gk 64 ?_;obtain⟨X,G,b⟩:=eE rfl b;refine gC rfl rfl (fun hC=>jS (k:=61) rfl (jS (k:=63) rfl (jS (k:=65) rfl (jQ rfl rfl (fun H=>Va (G hC) H))))) rfl ?_
 refine bG 60 rfl (fun hC=>um rfl rfl rfl) ?_;refine Y3 ?_;exact rt b
theorem Mj:∀(n:Nat),(Fu (av:=av) n)
 | 0=>fun b=>by first|cases b|(rw [kG] at b; cases b)
 | n+1=>Vb n (Mj n)
def Vc (a0:ai) (b:aL) (f:aL):Option Bool:=kG F0 a0 b f
theorem Vd {a0 b f r}(g:Vc a0 b f=some r) (H:af) :AC Tryz.prog 141 [.agg (ai.c a0),.agg (aL.c b),.agg (aL.c f)] H fun v h'=>v=.a (.d (.bool r))/\h'=H:=(Mj F0) g H 
def Ev (a0:ai) (b:aL) (f:aL):Option Bool:=kG F0 a0 b f
def mF (j:Bs) (k:(Z6×Bool)):List Z7->(Sl Z5)->Option ((Sl Z5))
 | [],b=>some b
 | g::l,b=>on (g) fun m=>on (jG k.1.az m.aa) fun f=>on (bif !(!f.2) then g else Z7.zero) fun p=>aY (!(!f.2)) (qo f.1.ax p.ax) false fun q=>Option.bind (bif ((!f.2)||(!q)) then((bV j ([40]:Bs)).bind fun r=>on (g) fun s=>(bV r s.aa).bind fun t=>(bV t ([41]:Bs)).bind fun u=>(bf 24 b (⟨false,[(Z5.mk 22 u)]⟩:Sl Z5)).bind fun v=>some v) else(some b)) fun w=>mF j k (l) w
def mG (l:Z6) (j:Bs):List Z7->(Sl Z5)->Option ((Sl Z5))
 | [],b=>some b
 | f::m,b=>on (f) fun p=>on (jG l.az p.aa) fun g=>on (bif (!g.2) then f else Z7.zero) fun q=>on (bif (!g.2) then iv q.ax else false) fun k=>on (bif ((!g.2)&&k) then f else Z7.zero) fun r=>Option.bind (bif (((!g.2)&&k)&&(!r.b_)) then((bV j ([40]:Bs)).bind fun s=>on (f) fun t=>(bV s t.aa).bind fun u=>(bV u ([41]:Bs)).bind fun v=>(bf 24 b (⟨false,[(Z5.mk 22 v)]⟩:Sl Z5)).bind fun w=>some w) else(some b)) fun y=>mG l j (m) y
def s7 (a0:ai) (j:ag) (b:Z6):Option (Sl Z5):=(bV j.aa ([46]:Bs)).bind fun x3=>(bV x3 b.aa).bind fun f=>on (rY j b.aa) fun g=>bif (!g.2) then(some (⟨false,[(Z5.mk 20 f)]⟩:Sl Z5)) else((Ev a0 g.1.ax b.ax).bind fun k=>Option.bind (bif (!k) then((bf 24 (Sl.nil:Sl Z5) (⟨false,[(Z5.mk 10 f)]⟩:Sl Z5)).bind fun m=>some m) else(some (Sl.nil:Sl Z5))) fun p=>Option.bind (mF f g b.az.l p) fun q=>on (q) fun r=>Option.bind (mG b f g.1.az.l r) fun s=>on (s) fun t=>some t)
theorem Ve {a0 K g r}(b:s7 a0 K g=some r) (H:af) :AC Tryz.prog 103 [.agg (ai.c a0),.agg (ag.c K),.agg (Z6.c g)] H (RT (.a (.d (Sl.d 2 Z5.c none r))) H):=by
 unfold s7 at b;refine AC.oW 148 [.tmp 6] Tryz.call103 Tryz.func103 ?_;refine ah.tok 2 fun f a2=>?_;refine Y4 ?_;refine s0 (di (k':=2) rfl) rfl ?_;refine Y4 ?_;obtain⟨x3,L,b⟩:=qT rfl b;refine S (dy L) (Y2 ?_);obtain⟨k,M,b⟩:=qT rfl b;refine S (dy M) (Y6 ?_);obtain⟨j,N,b⟩:=vT rfl b;refine Sc rfl rfl (Ik N) (Y7 ?_);refine bx 8 _ rfl (kl [3,5,7,9]) ?_
 refine ar fun a3 O=>Y4 ?_;refine cE b (fun P b=>?_) (fun P b=>?_)
 ·refine Y6 ?_;refine ry ?_;obtain rfl:=oJ b;refine bH.b9 H rfl ⟨rfl,rfl⟩ ?_;exact sy
 refine sk O (Y3 ?_);refine ah.fK 10 2 f rfl aA ?_;refine aR (tl [5,7,8]) (fun(z:(Sl Z5))=>[(10,.a (.d (Sl.d 2 Z5.c (some f) z)))]) (fun z=>(tS H f 2 z)) (fun z=>(Option.bind (mF k j g.az.l z) fun q=>on (q) fun w=>Option.bind (mG g k j.1.az.l w) fun m=>on (m) fun u=>some u)=some r) ?_ ?_
 ·intro a4 C;refine Y6 ?_;obtain⟨a5,Q,b⟩:=qT rfl b;refine Sc rfl rfl (Vd Q) (Y2 ?_);obtain⟨a6,E,b⟩:=bZ b;refine cO b (fun R b=>?_) (fun R b=>?_)
  ·refine Y5 ?_;obtain⟨U,W,b⟩:=qO rfl b;refine SH (am Z5.c (TK rfl) rfl (TK rfl) (TK rfl) W) ?_;refine Y2 ?_;exact C _ U wA (ku E b:)
  refine ah.skip ?_;exact C _ (Sl.nil:Sl Z5) wA (ku E b:)
 rintro X b;refine aR (tl [5,7,8]) (fun(z:(Sl Z5))=>[(10,.a (.d (Sl.d 2 Z5.c (some f) z)))]) (fun z=>(tS H f 2 z)) (fun z=>(Option.bind (mG g k j.1.az.l z) fun m=>on (m) fun u=>some u)=some r) ?_ ?_
 ·intro a7 Y;refine Y4 ?_;obtain⟨y,Z,b⟩:=bZ b;refine bD (tl [5,7,8]) (fun(z:(Sl Z5)×Nat)=>[(10,.a (.d (Sl.d 2 Z5.c (some f) z.1))),(11,vi z.2)]) (fun z=>(tS H f 2 z.1)) (fun z=>g.az.l.length-z.2) (fun z=>Option.bind (mF k j (g.az.l.drop z.2) z.1) y=some r) (X,0) b wA ?_;rintro ⟨q,s⟩ b a8 aa;refine ar fun a9 ab=>Y4 ?_
  refine aT Z7.c g.az fun a_=>Y2 ?_;refine ah.bL (fun l=>Option.bind (mF k j l q) y=some r) b rfl (fun a' v ad b=>?_) (fun ad b=>?_)
  ·rw [mF] at b;refine sk ab (aR (tl [5,7,8,11]) (fun(z:(Sl Z5))=>[(10,.a (.d (Sl.d 2 Z5.c (some f) z)))]) (fun z=>(tS H f 2 z)) (fun z=>Option.bind (mF k j (g.az.l.drop (s+1)) z) y=some r) ?_ ?_)
   ·intro ba F;refine Y7 ?_;obtain⟨bb,ae,b⟩:=vO v b;refine Sd (ix Z7.c s ae) (Y2 ?_);obtain⟨bc,aj,b⟩:=vO rfl b;refine cH rfl rfl (A8 aj) (Y7 ?_);refine bx 12 _ rfl (kl [5,7,8,10,11,13]) ?_;refine Y5 ?_;refine dZ 69 ?_;refine Y1 ?_;refine dZ 71 ?_;refine Y1 ?_;obtain⟨bd,ak,b⟩:=ej (fun _=>v) b;refine jF 72 73 rfl rfl (fun hC=>ix Z7.c s (ak hC)) ?_;refine dZ 74 ?_
    refine dZ 75 ?_;obtain⟨be,al,b⟩:=e8 rfl b;refine vN 70 76 rfl rfl rfl rfl rfl rfl (fun hC=>DZ (al hC)) ?_;refine dZ 77 ?_;refine Y2 ?_;obtain⟨bf,G,b⟩:=cM b;refine cO b (fun an b=>?_) (fun an b=>?_)
    ·refine Y3 ?_;obtain⟨bg,ao,b⟩:=qO rfl b;refine S (dy ao) (Y3 ?_);obtain⟨bh,ap,b⟩:=vO v b;refine S (ix Z7.c s ap) (Y2 ?_);obtain⟨bi,au,b⟩:=qO rfl b;refine S (dy au) ?_;obtain⟨bj,av,b⟩:=qO rfl b;refine S (dy av) (Y2 ?_);obtain⟨aw,ax,b⟩:=qO rfl b;refine SH (am Z5.c (TK rfl) rfl (TK rfl) (TK rfl) ax) ?_;refine Y2 ?_;exact F _ aw wA (ku G b:)
    refine ah.skip ?_;exact F _ q wA (ku G b:)
   rintro ay b;refine Y5 ?_;exact aa _ (ay,(s+1)) wA b (dl v)
  rw [mF] at b;have b:=ku Z b;refine ah.exit ?_;obtain⟨bk,aB,b⟩:=bW b;exact Y _ q wA (ku aB b:)
 rintro w b;refine aR kN (fun(z:(Sl Z5))=>[(10,.a (.d (Sl.d 2 Z5.c (some f) z)))]) (fun z=>(tS H f 2 z)) (fun z=>(some z)=some r) ?_ ?_
 ·intro bl aC;refine Y4 ?_;obtain⟨B,aD,b⟩:=bZ b;refine bD (tl [5,7,8]) (fun(z:(Sl Z5)×Nat)=>[(10,.a (.d (Sl.d 2 Z5.c (some f) z.1))),(14,vi z.2)]) (fun z=>(tS H f 2 z.1)) (fun z=>j.1.az.l.length-z.2) (fun z=>Option.bind (mG g k (j.1.az.l.drop z.2) z.1) B=some r) (w,0) b wA ?_;rintro ⟨m,p⟩ b bm aE;refine ar fun bo aF=>Y4 ?_
  refine aT Z7.c j.1.az fun bp=>Y2 ?_;refine ah.bL (fun l=>Option.bind (mG g k l m) B=some r) b rfl (fun bq t aG b=>?_) (fun aG b=>?_)
  ·rw [mG] at b;refine sk aF (aR (tl [5,7,8,14]) (fun(z:(Sl Z5))=>[(10,.a (.d (Sl.d 2 Z5.c (some f) z)))]) (fun z=>(tS H f 2 z)) (fun z=>Option.bind (mG g k (j.1.az.l.drop (p+1)) z) B=some r) ?_ ?_)
   ·intro br I;refine Y7 ?_;obtain⟨bs,aH,b⟩:=vO t b;refine Sd (ix Z7.c p aH) (Y2 ?_);obtain⟨bt,aI,b⟩:=vO rfl b;refine cH rfl rfl (A8 aI) (Y7 ?_);refine bx 15 _ rfl (kl [5,7,8,10,14,16]) ?_;refine Y5 ?_;refine Gk 116 ?_;refine Y1 ?_;obtain⟨bu,aK,b⟩:=ej (fun _=>t) b;refine e9 117 118 rfl rfl (fun hC=>ix Z7.c p (aK hC)) ?_;refine Gk 119 ?_;refine Gk 120 ?_
    obtain⟨bv,aL,b⟩:=ej (fun _=>rfl) b;refine dQ 121 rfl rfl rfl rfl rfl (fun hC=>tO (aL hC)) ?_;refine Y3 ?_;refine Gk 125 ?_;refine Y1 ?_;obtain⟨bw,aM,b⟩:=ej (fun _=>t) b;refine e9 126 127 rfl rfl (fun hC=>ix Z7.c p (aM hC)) ?_;refine Gk 128 ?_;refine Gk 129 ?_;refine Gk 130 ?_;refine Y2 ?_;obtain⟨bz,J,b⟩:=cM b;refine cO b (fun aP b=>?_) (fun aP b=>?_)
    ·refine Y3 ?_;obtain⟨bA,aQ,b⟩:=qO rfl b;refine S (dy aQ) (Y3 ?_);obtain⟨bB,aU,b⟩:=vO t b;refine S (ix Z7.c p aU) (Y2 ?_);obtain⟨bC,aV,b⟩:=qO rfl b;refine S (dy aV) ?_;obtain⟨bE,aW,b⟩:=qO rfl b;refine S (dy aW) (Y2 ?_);obtain⟨aX,aY,b⟩:=qO rfl b;refine SH (am Z5.c (TK rfl) rfl (TK rfl) (TK rfl) aY) ?_;refine Y2 ?_;exact I _ aX wA (ku J b:)
    refine ah.skip ?_;exact I _ m wA (ku J b:)
   rintro aZ b;refine Y5 ?_;exact aE _ (aZ,(p+1)) wA b (dl t)
  rw [mG] at b;have b:=ku aD b;refine ah.exit ?_;obtain⟨bF,a1,b⟩:=bW b;exact aC _ m wA (ku a1 b:)
 rintro u b;refine Y4 ?_;refine ah.dV 6 rfl ?_;refine ry ?_;obtain rfl:=oJ b;refine bH.b9 H rfl ⟨rfl,rfl⟩ ?_;exact sy
def mH (a0:ai) (f:ag):List Z6->(Sl Z5)->Option ((Sl Z5))
 | [],b=>some b
 | g::j,b=>on (g) fun k=>(s7 a0 f k).bind fun l=>(bf 24 b l).bind fun m=>mH a0 f (j) m
def nP (a0:ai) (f:ag):List Bs->Nat->(Sl Z5)->Option ((Sl Z5))
 | [],j,g=>some g
 | k::p,j,g=>on (k) fun q=>on (v8 a0 q (2:Int)) fun b=>on (bif (decide (b=(0:Int))) then(⟨f.aH.nl,f.aH.l.take j⟩:Sl Bs) else(Sl.nil:Sl Bs)) fun r=>on (bif (decide (b=(0:Int))) then k else([]:Bs)) fun s=>on (bif (decide (b=(0:Int))) then qn r s else false) fun t=>on (bif ((decide (b=(0:Int)))&&t) then((7:Int)) else(b)) fun m=>Option.bind (bif (!decide (m=(0:Int))) then((bf 24 g (⟨false,[(Z5.mk m f.aa)]⟩:Sl Z5)).bind fun u=>some u) else(on (k) fun v=>on (fe a0 v) fun w=>Option.bind (mH a0 f w.1.an.l g) fun y=>some y)) fun z=>nP a0 f (p) (j+1) z
def BA (a0:ai) (b:ag):Option (Sl Z5):=Option.bind (nP a0 b b.aH.l 0 (Sl.nil:Sl Z5)) fun f=>on (f) fun g=>some g
theorem Vf {a0 g r}(b:BA a0 g=some r) (H:af) :AC Tryz.prog 58 [.agg (ai.c a0),.agg (ag.c g)] H (RT (.a (.d (Sl.d 2 Z5.c none r))) H):=by
 unfold BA at b;refine AC.oW 76 [.tmp 4] Tryz.call58 Tryz.func58 ?_;refine ah.tok 2 fun j aC=>?_;refine Y3 ?_;refine s0 (di (k':=2) rfl) rfl ?_;refine Y4 ?_;refine ah.fK 5 2 j rfl aA ?_;refine aR kN (fun(z:(Sl Z5))=>[(5,.a (.d (Sl.d 2 Z5.c (some j) z)))]) (fun z=>(tS H j 2 z)) (fun z=>(some z)=some r) ?_ ?_
 ·intro aD M;refine Y4 ?_;obtain⟨q,N,b⟩:=bZ b;refine bD (tl [2,3]) (fun(z:(Sl Z5)×Nat)=>[(5,.a (.d (Sl.d 2 Z5.c (some j) z.1))),(6,vi z.2)]) (fun z=>(tS H j 2 z.1)) (fun z=>g.aH.l.length-z.2) (fun z=>Option.bind (nP a0 g (g.aH.l.drop z.2) z.2 z.1) q=some r) ((Sl.nil:Sl Z5),0) b wA ?_;rintro ⟨m,k⟩ b aE O;try dsimp only at b
  refine ar fun aF P=>Y4 ?_;refine aT aB g.aH fun aG=>Y2 ?_;refine ah.bL (fun l=>Option.bind (nP a0 g l k m) q=some r) b rfl (fun R s v b=>?_) (fun v b=>?_)
  ·rw [nP] at b;try dsimp only at v
   have aI:=oD v;refine sk P (aR (tl [2,3,6]) (fun(z:(Sl Z5))=>[(5,.a (.d (Sl.d 2 Z5.c (some j) z)))]) (fun z=>(tS H j 2 z)) (fun z=>Option.bind (nP a0 g (g.aH.l.drop (k+1)) (k+1) z) q=some r) ?_ ?_)
   ·intro aK B;refine Y6 ?_;obtain⟨aL,S,b⟩:=vO s b;refine Sd (ix aB k S) (Y1 ?_);obtain⟨U,W,b⟩:=vO rfl b;refine cH rfl rfl (Io W) (Y2 ?_)
    refine aR (tl [2,3,5,6]) (fun(z:Int)=>[(7,.a (.d (.int .i64 z)))]) (fun z=>(tS H j 2 m)) (fun z=>Option.bind (Option.bind (bif (!decide (z=(0:Int))) then((bf 24 m (⟨false,[(Z5.mk z g.aa)]⟩:Sl Z5)).bind fun t=>some t) else(on (R) fun C=>on (fe a0 C) fun p=>Option.bind (mH a0 g p.1.an.l m) fun u=>some u)) fun w=>nP a0 g (g.aH.l.drop (k+1)) (k+1) w) q=some r) ?_ ?_
    ·intro aM E;refine Y5 ?_;refine dZ 28 ?_;refine Y1 ?_;obtain⟨aP,X,b⟩:=ej (fun _=>(Q.uv (by omega))) b;refine jF 29 30 rfl rfl (fun hC=>lg (f:=aB) (l:=none) (r:=(some ((k:Nat):Int))) (TK rfl) rfl (TK rfl) rfl rfl trivial rfl (X hC)) ?_;refine Y1 ?_;refine dZ 32 ?_;refine Y1 ?_;obtain⟨aQ,Y,b⟩:=ej (fun _=>s) b;refine jF 33 34 rfl rfl (fun hC=>ix aB k (Y hC)) ?_
     refine dZ 35 ?_;obtain⟨aU,Z,b⟩:=ej (fun _=>rfl) b;refine vN 31 36 rfl rfl rfl rfl rfl rfl (fun hC=>DX (Z hC)) ?_;refine Y2 ?_;obtain⟨aV,F,b⟩:=gM b;refine cP b (fun ab b=>?_) (fun ab b=>?_)
     ·refine Y3 ?_;exact E _ (7:Int) wA (ku F b:)
     refine ah.skip ?_;exact E _ U wA (ku F b:)
    rintro aW b;try dsimp only at b
    refine ar fun aX ad=>Y4 ?_;obtain⟨aY,G,b⟩:=cM b;refine cO b (fun ae b=>?_) (fun ae b=>?_)
    ·refine Y7 ?_;obtain⟨t,aj,b⟩:=qO rfl b;refine SH (am Z5.c (TK rfl) rfl (TK rfl) (TK rfl) aj) ?_;refine hq (tS H j 2 t) (Y2 ?_);refine ah.exit ?_;exact B _ t wA (ku G b:)
    refine sk ad (Y5 ?_);obtain⟨C,ak,b⟩:=vO s b;refine Sd (ix aB k ak) (Y1 ?_);obtain⟨p,al,b⟩:=vO rfl b;refine cH rfl rfl (l_ al) (Y7 ?_);refine bx 8 _ rfl (kl [2,3,5,6]) ?_;refine Y4 ?_;obtain⟨I,ao,b⟩:=cM b
    refine bD (tl [2,3,6,8]) (fun(z:(Sl Z5)×Nat)=>[(5,.a (.d (Sl.d 2 Z5.c (some j) z.1))),(10,vi z.2)]) (fun z=>(tS H j 2 z.1)) (fun z=>p.1.an.l.length-z.2) (fun z=>Option.bind (mH a0 g (p.1.an.l.drop z.2) z.1) I=some r) (m,0) b wA ?_;rintro ⟨u,J⟩ b aZ ap;try dsimp only at b
    refine ar fun a1 au=>Y4 ?_;refine aT Z6.c p.1.an fun a2=>Y2 ?_;refine ah.bL (fun l=>Option.bind (mH a0 g l u) I=some r) b rfl (fun a3 K y b=>?_) (fun y b=>?_)
    ·rw [mH] at b;try dsimp only at y
     have a4:=oD y;refine sk au (ar fun a5 av=>Y1 ?_);refine ah.draw rfl ?_;refine Y6 ?_;obtain⟨a6,aw,b⟩:=vO K b;refine Sd (ix Z6.c J aw) (Y1 ?_);obtain⟨a7,ax,b⟩:=qO rfl b;refine cH rfl rfl (Ve ax) ?_;obtain⟨L,ay,b⟩:=qO rfl b;refine aN.sH (iM (f:=Z5.c) (TK rfl) rfl (TK rfl) (TK rfl) ⟨_,rfl⟩ rfl rfl (by decide) rfl rfl rfl rfl aA rfl ay) rfl ?_
     refine aN.Dh (tS H j 2 L) ?_;refine Y2 ?_;refine av _ ?_;refine Y5 ?_;exact ap _ (L,(J+1)) wA b (dl K)
    rw [mH] at b;have b:=ku ao b;refine ah.exit ?_;exact B _ u wA (ku G b:)
   rintro w b;try dsimp only at b
   refine Y5 ?_;exact O _ (w,(k+1)) wA b (dl s)
  rw [nP] at b;have b:=ku N b;refine ah.exit ?_;obtain⟨a8,az,b⟩:=bW b;exact M _ m wA (ku az b:)
 rintro a9 b;try dsimp only at b
 refine Y4 ?_;refine ah.dV 4 rfl ?_;refine ry ?_;obtain rfl:=oJ b;refine bH.b9 H rfl ⟨rfl,rfl⟩ ?_;exact sy
def nQ (a0:ai) (g:ag):List Z8->Nat->(Sl Z5)->Option ((Sl Z5))
 | [],j,b=>some b
 | p::q,j,b=>on (p) fun k=>on (v8 a0 k.aa (1:Int)) fun f=>on (bif (decide (f=(0:Int))) then(⟨g.au.nl,g.au.l.take j⟩:Sl Z8) else(Sl.nil:Sl Z8)) fun r=>on (bif (decide (f=(0:Int))) then uS (ag.mk 0 [] Sl.nil Sl.nil Sl.nil r Sl.nil) k.aa else false) fun s=>on (bif ((decide (f=(0:Int)))&&s) then((7:Int)) else(f)) fun m=>Option.bind (bif (!decide (m=(0:Int))) then((bV g.aa ([46]:Bs)).bind fun t=>(bV t k.aa).bind fun u=>(bf 24 b (⟨false,[(Z5.mk m u)]⟩:Sl Z5)).bind fun v=>some v) else(some b)) fun w=>nQ a0 g (q) (j+1) w
def Bz (a0:ai) (b:ag):Option (Sl Z5):=Option.bind (nQ a0 b b.au.l 0 (Sl.nil:Sl Z5)) fun f=>on (f) fun g=>some g
theorem Vg {a0 g r}(b:Bz a0 g=some r) (H:af) :AC Tryz.prog 59 [.agg (ai.c a0),.agg (ag.c g)] H (RT (.a (.d (Sl.d 2 Z5.c none r))) H):=by
 unfold Bz at b;refine AC.oW 49 [.tmp 4] Tryz.call59 Tryz.func59 ?_;refine ah.tok 2 fun j ab=>?_;refine Y3 ?_;refine s0 (di (k':=2) rfl) rfl ?_;refine Y4 ?_;refine ah.fK 5 2 j rfl aA ?_;refine aR kN (fun(z:(Sl Z5))=>[(5,.a (.d (Sl.d 2 Z5.c (some j) z)))]) (fun z=>(tS H j 2 z)) (fun z=>(some z)=some r) ?_ ?_
 ·intro ad F;refine Y4 ?_;obtain⟨p,G,b⟩:=bZ b;refine bD (tl [2,3]) (fun(z:(Sl Z5)×Nat)=>[(5,.a (.d (Sl.d 2 Z5.c (some j) z.1))),(6,vi z.2)]) (fun z=>(tS H j 2 z.1)) (fun z=>g.au.l.length-z.2) (fun z=>Option.bind (nQ a0 g (g.au.l.drop z.2) z.2 z.1) p=some r) ((Sl.nil:Sl Z5),0) b wA ?_;rintro ⟨m,k⟩ b ae I;try dsimp only at b
  refine ar fun aj J=>Y4 ?_;refine aT Z8.c g.au fun ak=>Y2 ?_;refine ah.bL (fun l=>Option.bind (nQ a0 g l k m) p=some r) b rfl (fun al u s b=>?_) (fun s b=>?_)
  ·rw [nQ] at b;try dsimp only at s
   have an:=oD s;refine sk J (aR (tl [2,3,6]) (fun(z:(Sl Z5))=>[(5,.a (.d (Sl.d 2 Z5.c (some j) z)))]) (fun z=>(tS H j 2 z)) (fun z=>Option.bind (nQ a0 g (g.au.l.drop (k+1)) (k+1) z) p=some r) ?_ ?_)
   ·intro ao v;refine Y5 ?_;obtain⟨K,L,b⟩:=vO u b;refine S (ix Z8.c k L) (Y7 ?_);obtain⟨M,N,b⟩:=vO rfl b;refine Sc rfl rfl (Io N) (Y2 ?_)
    refine aR (tl [2,3,5,6,7]) (fun(z:Int)=>[(8,.a (.d (.int .i64 z)))]) (fun z=>(tS H j 2 m)) (fun z=>Option.bind (Option.bind (bif (!decide (z=(0:Int))) then((bV g.aa ([46]:Bs)).bind fun w=>(bV w K.aa).bind fun y=>(bf 24 m (⟨false,[(Z5.mk z y)]⟩:Sl Z5)).bind fun q=>some q) else(some m)) fun t=>nQ a0 g (g.au.l.drop (k+1)) (k+1) t) p=some r) ?_ ?_
    ·intro ap B;refine Y5 ?_;refine Gk 28 ?_;refine Y1 ?_;obtain⟨av,O,b⟩:=ej (fun _=>(Q.uv (by omega))) b;refine e9 29 30 rfl rfl (fun hC=>lg (f:=Z8.c) (l:=none) (r:=(some ((k:Nat):Int))) (TK rfl) rfl (TK rfl) rfl rfl trivial rfl (O hC)) ?_;refine Gk 31 ?_;refine Y1 ?_;obtain⟨aw,P,b⟩:=ej (fun _=>rfl) b;refine fE 32 33 rfl rfl rfl rfl rfl rfl (fun hC=>Mi (P hC)) ?_;refine Y2 ?_
     obtain⟨ax,C,b⟩:=gM b;refine cP b (fun R b=>?_) (fun R b=>?_)
     ·refine Y3 ?_;exact B _ (7:Int) wA (ku C b:)
     refine ah.skip ?_;exact B _ M wA (ku C b:)
    rintro ay b;try dsimp only at b
    refine Y4 ?_;obtain⟨az,E,b⟩:=cM b;refine cO b (fun U b=>?_) (fun U b=>?_)
    ·refine Y5 ?_;obtain⟨w,W,b⟩:=qO rfl b;refine S (dy W) (Y1 ?_);obtain⟨y,X,b⟩:=qO rfl b;refine S (dy X) (Y2 ?_);obtain⟨q,Y,b⟩:=qO rfl b;refine SH (am Z5.c (TK rfl) rfl (TK rfl) (TK rfl) Y) ?_;refine hq (tS H j 2 q) (Y2 ?_);exact v _ q wA (ku E b:)
    refine ah.skip ?_;exact v _ m wA (ku E b:)
   rintro t b;try dsimp only at b
   refine Y5 ?_;exact I _ (t,(k+1)) wA b (dl u)
  rw [nQ] at b;have b:=ku G b;refine ah.exit ?_;obtain⟨aB,Z,b⟩:=bW b;exact F _ m wA (ku Z b:)
 rintro aC b;try dsimp only at b
 refine Y4 ?_;refine ah.dV 4 rfl ?_;refine ry ?_;obtain rfl:=oJ b;refine bH.b9 H rfl ⟨rfl,rfl⟩ ?_;exact sy
def py (a0:ai):List ag->(Sl Z5)->Option ((Sl Z5))
 | [],b=>some b
 | f::j,b=>on (f) fun g=>Option.bind (bif (decide (g.ak=(1:Int))) then(on (f) fun k=>(BA a0 k).bind fun l=>(bf 24 b l).bind fun m=>some m) else(bif (decide (g.ak=(3:Int))) then(on (f) fun p=>(Bz a0 p).bind fun q=>(bf 24 b q).bind fun r=>some r) else(some b))) fun s=>py a0 (j) s
def zf (a0:ai):Option (Sl Z5):=Option.bind (py a0 a0.aj.l (Sl.nil:Sl Z5)) fun b=>on (b) fun f=>some f
theorem Vh {a0 r}(b:zf a0=some r) (H:af) :AC Tryz.prog 26 [.agg (ai.c a0)] H (RT (.a (.d (Sl.d 2 Z5.c none r))) H):=by
 unfold zf at b;refine AC.oW 41 [.tmp 2] Tryz.call26 Tryz.func26 ?_;refine ah.tok 2 fun g Q=>?_;refine Y2 ?_;refine s0 (di (k':=2) rfl) rfl ?_;refine Y4 ?_;refine ah.fK 3 2 g rfl aA ?_;refine aR kN (fun(z:(Sl Z5))=>[(3,.a (.d (Sl.d 2 Z5.c (some g) z)))]) (fun z=>(tS H g 2 z)) (fun z=>(some z)=some r) ?_ ?_
 ·intro R t;refine Y4 ?_;obtain⟨m,u,b⟩:=bZ b;refine bD (tl [1]) (fun(z:(Sl Z5)×Nat)=>[(3,.a (.d (Sl.d 2 Z5.c (some g) z.1))),(4,vi z.2)]) (fun z=>(tS H g 2 z.1)) (fun z=>a0.aj.l.length-z.2) (fun z=>Option.bind (py a0 (a0.aj.l.drop z.2) z.1) m=some r) ((Sl.nil:Sl Z5),0) b wA ?_;rintro ⟨p,j⟩ b U v;refine ar fun W w=>Y4 ?_;refine aT ag.c a0.aj fun X=>Y2 ?_
  refine ah.bL (fun l=>Option.bind (py a0 l p) m=some r) b rfl (fun Y k y b=>?_) (fun y b=>?_)
  ·rw [py] at b;refine sk w (aR (tl [1,4]) (fun(z:(Sl Z5))=>[(3,.a (.d (Sl.d 2 Z5.c (some g) z)))]) (fun z=>(tS H g 2 z)) (fun z=>Option.bind (py a0 (a0.aj.l.drop (j+1)) z) m=some r) ?_ ?_)
   ·intro Z q;refine Y5 ?_;obtain⟨aa,B,b⟩:=vO k b;refine S (ix ag.c j B) (Y8 ?_);obtain⟨ab,s,b⟩:=cM b;refine cO b (fun C b=>?_) (fun C b=>?_)
    ·refine ah.draw rfl ?_;refine Y5 ?_;obtain⟨ad,E,b⟩:=vO k b;refine Sd (ix ag.c j E) (Y1 ?_);obtain⟨ae,F,b⟩:=qO rfl b;refine cH rfl rfl (Vf F) ?_;obtain⟨G,I,b⟩:=qO rfl b;refine aN.sH (iM (f:=Z5.c) (TK rfl) rfl (TK rfl) (TK rfl) ⟨_,rfl⟩ rfl rfl (by decide) rfl rfl rfl rfl aA rfl I) rfl ?_;refine Y2 ?_;exact q _ G wA (ku s b:)
    refine Y4 ?_;refine cO b (fun J b=>?_) (fun J b=>?_)
    ·refine ah.draw rfl ?_;refine Y5 ?_;obtain⟨ak,K,b⟩:=vO k b;refine Sd (ix ag.c j K) (Y1 ?_);obtain⟨al,L,b⟩:=qO rfl b;refine cH rfl rfl (Vg L) ?_;obtain⟨M,N,b⟩:=qO rfl b;refine aN.sH (iM (f:=Z5.c) (TK rfl) rfl (TK rfl) (TK rfl) ⟨_,rfl⟩ rfl rfl (by decide) rfl rfl rfl rfl aA rfl N) rfl ?_;refine Y2 ?_;exact q _ M wA (ku s b:)
    refine ah.skip ?_;exact q _ p wA (ku s b:)
   rintro O b;refine Y5 ?_;exact v _ (O,(j+1)) wA b (dl k)
  rw [py] at b;have b:=ku u b;refine ah.exit ?_;obtain⟨am,P,b⟩:=bW b;exact t _ p wA (ku P b:)
 rintro an b;refine Y4 ?_;refine ah.dV 2 rfl ?_;refine ry ?_;obtain rfl:=oJ b;refine bH.b9 H rfl ⟨rfl,rfl⟩ ?_;exact sy
def nV (f:Z9->Option Z9):List Z9->(Sl Z9)->Option ((Sl Z9))
 | [],b=>some b
 | g::j,b=>on (g) fun k=>(f k).bind fun l=>(bf 80 b (⟨false,[l]⟩:Sl Z9)).bind fun m=>nV f (j) m
mutual
def j3:Nat->Z9->Option Z9
 | 0,_=>none
 | n+1,a0=>((uV n) a0.aG).bind fun x3=>(bf 16 (⟨false,[]⟩:Sl Bs) a0.aW).bind fun b=>some (Z9.mk a0.ak a0.bz a0.br x3.nl x3.l b)
def uV:Nat->(Sl Z9)->Option (Sl Z9)
 | 0,_=>none
 | n+1,a0=>Option.bind (nV (j3 n) a0.l (Sl.nil:Sl Z9)) fun b=>on (b) fun f=>some f
end
def Co (n:Nat):Prop:=∀{a0:Z9}   {r:Z9},j3 n a0=some r->∀(H:af),AC Tryz.prog 195 [.agg (Z9.c a0)] H fun v h'=>v=.a (.agg (Z9.c r))/\h'=H
def Cp (n:Nat):Prop:=∀{a0:(Sl Z9)}{w0:Option Nat}  {r:(Sl Z9)},uV n a0=some r->∀(H:af),AC Tryz.prog 210 [.d (Sl.d 5 Z9.c w0 a0)] H fun v h'=>v=.a (.d (Sl.d 5 Z9.c none r))/\h'=H
theorem Vi (n:Nat) (s:Co (av:=av) n) (g:Cp (av:=av) n):Co (av:=av) (n+1):=by
 intro a0   r b H;rw [j3] at b;refine AC.oW 17 [.cell 2 72] Tryz.call195 Tryz.func195 ?_;refine yt ?_;refine aN.s0 (dU (TK rfl) rfl rfl (congrArg (fun x=>some (A.d x)) (Z9.eN _))) rfl ?_;obtain⟨x3,k,b⟩:=qT rfl b;refine cH rfl rfl (g k) (aN.s0 (uf (TK rfl) rfl (TK rfl) rfl rfl rfl rfl rfl rfl) rfl ?_);refine Y2 ?_;obtain⟨m,p,b⟩:=qT rfl b
 refine aN.s0 (yg (f:=aB) (TK rfl) rfl (TK rfl) (TK rfl) ⟨_,rfl⟩ rfl rfl (by decide) rfl rfl rfl (by intro q h; cases h<;>decide) rfl rfl p) rfl ?_;refine Y3 ?_;refine ah.cq 0 (Z9.c (Z9.mk a0.ak a0.bz a0.br x3.nl x3.l m)) rfl (fun j w cs hh hx=>by rw [Z9.l8]; exact hx) ?_;exact rt b
theorem Vj (n:Nat) (p:Co (av:=av) n) (G:Cp (av:=av) n):Cp (av:=av) (n+1):=by
 intro a0 w0  r b H;rw [uV] at b;refine AC.oW 20 [.tmp 2] Tryz.call210 Tryz.func210 ?_;refine ah.tok 5 fun f I=>?_;refine Y1 ?_;refine s0 (di (k':=5) rfl) rfl ?_;refine Y4 ?_;refine ah.fK 3 5 f rfl aA ?_;refine aR kN (fun(z:(Sl Z9))=>[(3,.a (.d (Sl.d 5 Z9.c (some f) z)))]) (fun z=>(tS H f 5 z)) (fun z=>(some z)=some r) ?_ ?_
 ·intro J q;refine Y4 ?_;obtain⟨g,s,b⟩:=bZ b;refine bD (tl [0]) (fun(z:(Sl Z9)×Nat)=>[(3,.a (.d (Sl.d 5 Z9.c (some f) z.1))),(4,vi z.2)]) (fun z=>(tS H f 5 z.1)) (fun z=>a0.l.length-z.2) (fun z=>Option.bind (nV (j3 n) (a0.l.drop z.2) z.1) g=some r) ((Sl.nil:Sl Z9),0) b wA ?_;rintro ⟨j,k⟩ b K t;refine ar fun L u=>Y3 ?_;refine aT Z9.c a0 fun M=>Y2 ?_
  refine ah.bL (fun l=>Option.bind (nV (j3 n) l j) g=some r) b rfl (fun N m v b=>?_) (fun v b=>?_)
  ·rw [nV] at b;refine sk u (ar fun O w=>Y5 ?_);obtain⟨P,y,b⟩:=vO m b;refine S (ix Z9.c k y) (Y1 ?_);obtain⟨Q,B,b⟩:=qO rfl b;refine Sc rfl rfl (p B) (Y1 ?_);obtain⟨C,E,b⟩:=qO rfl b;refine SH (am Z9.c (TK rfl) rfl (TK rfl) (TK rfl) E) ?_;refine Y2 ?_;refine w _ ?_;refine Y5 ?_;exact t _ (C,(k+1)) wA b (dl m)
  rw [nV] at b;have b:=ku s b;refine ah.exit ?_;obtain⟨R,F,b⟩:=bW b;exact q _ j wA (ku F b:)
 rintro U b;refine Y4 ?_;refine ah.dV 2 rfl ?_;refine ry ?_;obtain rfl:=oJ b;refine bH.b9 H rfl ⟨rfl,rfl⟩ ?_;exact sy
theorem zJ:∀(n:Nat),(Co (av:=av) n)/\(Cp (av:=av) n)
 | 0=>⟨fun b=>by first|cases b|(rw [j3] at b; cases b),fun b=>by first|cases b|(rw [uV] at b; cases b)⟩
 | n+1=>⟨Vi n (zJ n).1 (zJ n).2,Vj n (zJ n).1 (zJ n).2⟩
def Vk (a0:Z9):Option Z9:=j3 F0 a0
theorem Vl {a0 r}(b:Vk a0=some r) (H:af) :AC Tryz.prog 195 [.agg (Z9.c a0)] H fun v h'=>v=.a (.agg (Z9.c r))/\h'=H:=(zJ F0).1 b H 
def EH (a0:Z9):Option Z9:=j3 F0 a0
def j6 (a0:Z9) (f:Bs):List Bs->Nat->Option (Unit ⊕ ((Z9×Bool)))
 | [],b=>some (Sum.inl ())
 | g::j,b=>on (g) fun k=>bif ((k==f)) then(bif (decide (((a0.aG.l.length:Nat):Int)<=((b:Nat):Int))) then(some (Sum.inr ((Z9.mk 0 0 [] true [] Sl.nil),false))) else((a0.aG.l[b]?).bind fun m=>(EH m).bind fun p=>some (Sum.inr (p,true)))) else(j6 a0 f (j) (b+1) )
def mL (a0:Z9) (g:Bs):Option (Z9×Bool):=bif (!decide (a0.ak=(6:Int))) then(some ((Z9.mk 0 0 [] true [] Sl.nil),false)) else(Option.bind (j6 a0 g a0.aW.l 0 ) fun b=>match b with|Sum.inl _=>(on (()) fun _=>some ((Z9.mk 0 0 [] true [] Sl.nil),false))|Sum.inr f=>(some f))
theorem Fv {a0 g r}(b:mL a0 g=some r) (H:af) :AC Tryz.prog 177 [.agg (Z9.c a0),.d (.str g)] H (RT (.cI [.agg (Z9.c r.1),.d (.bool r.2)]) H):=by
 unfold mL at b;refine AC.oW 38 [.cell 4 72,.tmp 5] Tryz.call177 Tryz.func177 ?_;refine Y5 ?_;refine ar fun K q=>Y5 ?_;refine cE b (fun s b=>?_) (fun s b=>?_)
 ·refine Y5 ?_;exact rt b
 refine sk q (cT (tl [4]) (fun(z:Z9)=>[]) (fun z=>[Z9.c z]) (fun z=>H) (fun z=>(some ((Z9.mk 0 0 [] true [] Sl.nil),false))=some r) ?_ ?_)
 ·intro L t;refine Y4 ?_;obtain⟨k,j,b⟩:=bZ b;refine eZ (tl [1,2,4]) (fun(z:Nat×Z9)=>[(6,vi z.1)]) (fun z=>[Z9.c z.2]) (fun z=>H) (fun z=>a0.aW.l.length-z.1) (fun z=>Option.bind (j6 a0 g (a0.aW.l.drop z.1) z.1 ) k=some r) (0,Z9.zero) b wA ?_;rintro ⟨f,m⟩ b M u;refine ar fun N v=>Y4 ?_;refine aT aB a0.aW fun O=>Y2 ?_
  refine ah.bL (fun l=>Option.bind (j6 a0 g l f ) k=some r) b rfl (fun P p w b=>?_) (fun w b=>?_)
  ·rw [j6] at b;refine sk v (ar fun Q y=>Y5 ?_);obtain⟨R,B,b⟩:=vO p b;refine S (ix aB f B) (Y4 ?_);refine cO b (fun C b=>?_) (fun C b=>?_)
   ·refine ar fun U E=>Y3 ?_;refine s0 (dU (TK rfl) rfl rfl (congrArg (fun x=>some (A.d x)) (Z9.eN _))) rfl ?_;refine aT Z9.c a0.aG fun W=>Y2 ?_;refine cO b (fun F b=>?_) (fun F b=>?_)
    ·refine Y5 ?_;exact rs (ku j b:)
    refine sk E (Y2 ?_);refine s0 (dU (TK rfl) rfl rfl (congrArg (fun x=>some (A.d x)) (Z9.eN _))) rfl ?_;refine Y1 ?_;obtain⟨X,G,b⟩:=qO rfl b;refine S (ix Z9.c f G) (Y1 ?_);obtain⟨Y,I,b⟩:=qO rfl b;refine Sc rfl rfl (Vl I) (Y3 ?_);exact rs (ku j b:)
   refine sk y (Y5 ?_);exact u _ ((f+1),m) wA b (dl p)
  rw [j6] at b;have b:=ku j b;refine ah.exit ?_;obtain⟨Z,J,b⟩:=bW b;exact t _ m wA (ku J b:)
 rintro aa b;refine Y5 ?_;exact rt b
def qF (a0:Z3) (b:Z9):Option Bool:=bif ((!a0.fG)||(!decide (b.ak=(7:Int)))) then(some false) else((mL a0.fc b.br).bind fun x7=>some (!x7.2))
theorem Mk {a0 f c0 r}(b:qF a0 f=some r) (H:af) (bX:H c0=some (.cells (Z3.c a0))):AC Tryz.prog 142 [.d (.ptr c0 0),.agg (Z9.c f)] H (RT (.a (.d (.bool r))) H):=by
 unfold qF at b;refine AC.oW 29 [.tmp 4] Tryz.call142 Tryz.func142 ?_;refine Y4 ?_;refine ar fun l g=>Y8 ?_;refine Gk 13 ?_;refine Gk 14 ?_;refine Y2 ?_;refine cE b (fun j b=>?_) (fun j b=>?_)
 ·refine Y3 ?_;exact rt b
 refine sk g (Y7 ?_);obtain⟨x7,k,b⟩:=qT rfl b;refine cH rfl rfl (Fv k) (Y7 ?_);refine bx 5 _ rfl (kl [6]) ?_;refine Y5 ?_;exact rt b
def fH (a0:Z3) (b:Int):Z3:=bif (decide (a0.cV=(0:Int))) then((Z3.mk a0.Fd a0.fc a0.fG a0.jk b)) else(a0)
theorem ri {a0 f c0 r}(b:some (fH a0 f)=some r) (H:af) (bX:H c0=some (.cells (Z3.c a0))):AC Tryz.prog 196 [.d (.ptr c0 0),.d (.int .i64 f)] H fun v h'=>v=.cI []/\h'=(cS H c0 (Z3.c r)):=by
 unfold fH at b;refine AC.oW 13 [] Tryz.call196 Tryz.func196 ?_;refine hz (cS H c0 (Z3.c a0)) (Y7 ?_);refine cP b (fun g b=>?_) (fun g b=>?_)
 ·refine Y5 ?_;refine dG (gv (TK rfl) rfl rfl aA rfl (by repeat (first|exact bn.zero|apply bn.succ))) rfl rfl ?_;refine hq (H.set c0 (some (.cells (Z3.c (Z3.mk a0.Fd a0.fc a0.fG a0.jk f))))) (Y1 ?_);repeat (first|refine fW ?_|refine fV ?_|refine fU ?_)
  obtain rfl:=oJ b;refine bH.gm (H.set c0 (some (.cells (Z3.c (Z3.mk a0.Fd a0.fc a0.fG a0.jk f))))) (xs:=[]) rfl ⟨rfl,rfl⟩ ?_;exact(fun _ _ h=>h)
 refine ah.skip ?_;repeat (first|refine fW ?_|refine fV ?_|refine fU ?_)
 obtain rfl:=oJ b;refine bH.gm (cS H c0 (Z3.c a0)) (xs:=[]) rfl ⟨rfl,rfl⟩ ?_;exact(fun _ _ h=>h)
def lJ (a0:Z3) (j:Int):Option Z3:=on (bif (decide ((24:Int)<j)) then(on (fH a0 (5:Int)) fun g=>g) else(a0)) fun b=>(cF b.jk (1:Int)).bind fun f=>bif (decide ((4096:Int)<f)) then(on (fH (Z3.mk b.Fd b.fc b.fG f b.cV) (4:Int)) fun x7=>some x7) else(some (Z3.mk b.Fd b.fc b.fG f b.cV))
theorem Ml {a0 l c0 r}(b:lJ a0 l=some r) (H:af) (bX:H c0=some (.cells (Z3.c a0))):AC Tryz.prog 198 [.d (.ptr c0 0),.d (.int .i64 l)] H fun v h'=>v=.cI []/\h'=(cS H c0 (Z3.c r)):=by
 unfold lJ at b;refine AC.oW 22 [] Tryz.call198 Tryz.func198 ?_;refine hz (cS H c0 (Z3.c a0)) ?_;obtain⟨m,p,b⟩:=bW b;refine aR (tl [0]) (fun(z:Z3)=>[]) (fun z=>(cS H c0 (Z3.c z))) (fun z=>m z=some r) ?_ ?_
 ·intro y g;refine Y4 ?_;refine cP b (fun q b=>?_) (fun q b=>?_)
  ·refine Y2 ?_;obtain⟨j,s,b⟩:=vP rfl b;refine sH (bS rfl rfl (ri s _ aA)) rfl ?_;refine hq (cS H c0 (Z3.c j)) (Y1 ?_);exact g _ j wA b
  refine ah.skip ?_;exact g _ a0 wA b
 rintro f b;have b:=ku p b;refine Y5 ?_;obtain⟨k,t,b⟩:=qT rfl b;refine S (eC t) (Y2 ?_);refine dG (gv (TK rfl) rfl rfl aA rfl (by repeat (first|exact bn.zero|apply bn.succ))) rfl rfl ?_;refine hq (H.set c0 (some (.cells (Z3.c (Z3.mk f.Fd f.fc f.fG k f.cV))))) (Y8 ?_);refine cE b (fun u b=>?_) (fun u b=>?_)
 ·refine Y2 ?_;obtain⟨x7,w,b⟩:=vT rfl b;refine sH (bS rfl rfl (ri w _ aA)) rfl ?_;refine hq (cS H c0 (Z3.c x7)) (Y1 ?_);repeat (first|refine fW ?_|refine fV ?_|refine fU ?_)
  obtain rfl:=oJ b;refine bH.gm (cS H c0 (Z3.c x7)) (xs:=[]) rfl ⟨rfl,rfl⟩ ?_;exact(fun _ _ h=>h)
 refine ah.skip ?_;repeat (first|refine fW ?_|refine fV ?_|refine fU ?_)
 obtain rfl:=oJ b;refine bH.gm (H.set c0 (some (.cells (Z3.c (Z3.mk f.Fd f.fc f.fG k f.cV))))) (xs:=[]) rfl ⟨rfl,rfl⟩ ?_;exact(fun _ _ h=>h)
def mI (m:Int) (g:Z3->Z9->Int->Option (Z9×Z3)):List Z9->Z3->Z9->Option ((Z3×Z9))
 | [],f,b=>some (f,b)
 | p::q,f,b=>bif (decide (f.cV=(0:Int))) then(on (p) fun r=>(cF m (1:Int)).bind fun s=>(g f r s).bind fun j=>(bf 80 b.aG (⟨false,[j.1]⟩:Sl Z9)).bind fun k=>mI m g (q) j.2 (Z9.mk b.ak b.bz b.br k.nl k.l b.aW)) else(some (f,b))
def mK:Nat->Z3->Z9->Int->Option (Z9×Z3)
 | 0,_,_,_=>none
 | n+1,a0,b,g=>(lJ a0 g).bind fun x3=>(bf 16 ((Z9.mk b.ak b.bz b.br true [] Sl.nil).aW) b.aW).bind fun j=>Option.bind (mI g (mK n) b.aG.l x3 (Z9.mk ((Z9.mk b.ak b.bz b.br true [] Sl.nil).ak) ((Z9.mk b.ak b.bz b.br true [] Sl.nil).bz) ((Z9.mk b.ak b.bz b.br true [] Sl.nil).br) ((Z9.mk b.ak b.bz b.br true [] Sl.nil).aG).nl ((Z9.mk b.ak b.bz b.br true [] Sl.nil).aG).l j)) fun f=>on ((f.1,f.2)) fun z9=>some (z9.2,z9.1)
def Fw (n:Nat):Prop:=∀{a0:Z3}{a1:Z9}{a2:Int}  {c0:Nat}{r:(Z9×Z3)},mK n a0 a1 a2=some r->∀(H:af) (bX:H c0=some (.cells (Z3.c a0))),AC Tryz.prog 197 [.d (.ptr c0 0),.agg (Z9.c a1),.d (.int .i64 a2)] H fun v h'=>v=.a (.agg (Z9.c r.1))/\h'=(cS H c0 (Z3.c r.2))
theorem Vm (n:Nat) (J:Fw (av:=av) n):Fw (av:=av) (n+1):=by
 intro a0 f I  c0 r b H bX;rw [mK] at b;refine AC.oW 56 [.cell 6 72] Tryz.call197 Tryz.func197 ?_;refine hz (cS H c0 (Z3.c a0)) (Y7 ?_);obtain⟨x3,K,b⟩:=qT rfl b;refine sH (bS rfl rfl (Ml K _ aA)) rfl ?_;refine oI ?_;refine aJ.tok 5 fun g v=>?_;obtain⟨aj,v⟩:=af.dW v
 refine aJ.cq 1 _ rfl (fun j w cs hh hx=>tok_cell 3 5 5 hh (t:=g) aA hx rfl) ?_;refine aJ.tok 1 fun k p=>?_;obtain⟨al,p⟩:=af.dW p;obtain⟨an,p⟩:=af.dW p;refine aJ.cq 1 _ rfl (fun j w cs hh hx=>tok_cell 4 1 1 hh (t:=k) aA hx rfl) ?_;refine Y1 ?_
 refine aJ.cq 1 _ rfl (fun j w cs hh hx=>tok_cell 3 5 5 hh (t:=g) aA hx rfl) ?_;refine aJ.cq 1 _ rfl (fun j w cs hh hx=>tok_cell 4 1 1 hh (t:=k) aA hx rfl) ?_;refine Y6 ?_;obtain⟨L,M,b⟩:=qT rfl b;refine SH (am aB (TK rfl) rfl (TK rfl) (TK rfl) M) ?_;refine Y3 ?_
 refine cT (tl [6,7]) (fun(z:Z3×Z9)=>[]) (fun z=>[Z9.c Z9.zero,((bI .i64) z.2.ak++(bI .i64) z.2.bz++aB z.2.br++[Sl.d 5 Z9.c (some g) z.2.aG]++[Sl.d 1 aB (some k) z.2.aW])]) (fun z=>((tS (cS H c0 (Z3.c z.1)) g 5 z.2.aG).set k (some (.tok 1 z.2.aW.l.length)))) (fun z=>(some (z.2,z.1))=some r) ?_ ?_
 ·intro ao N;refine Y4 ?_;obtain⟨q,O,b⟩:=bZ b
  refine eZ (tl [0,2,4,6,7]) (fun(z:Nat×Z3×Z9)=>[(8,vi z.1)]) (fun z=>[Z9.c Z9.zero,((bI .i64) z.2.2.ak++(bI .i64) z.2.2.bz++aB z.2.2.br++[Sl.d 5 Z9.c (some g) z.2.2.aG]++[Sl.d 1 aB (some k) z.2.2.aW])]) (fun z=>((tS (cS H c0 (Z3.c z.2.1)) g 5 z.2.2.aG).set k (some (.tok 1 z.2.2.aW.l.length)))) (fun z=>f.aG.l.length-z.1) (fun z=>Option.bind (mI I (mK n) (f.aG.l.drop z.1) z.2.1 z.2.2) q=some r) (0,x3,(Z9.mk ((Z9.mk f.ak f.bz f.br true [] Sl.nil).ak) ((Z9.mk f.ak f.bz f.br true [] Sl.nil).bz) ((Z9.mk f.ak f.bz f.br true [] Sl.nil).br) ((Z9.mk f.ak f.bz f.br true [] Sl.nil).aG).nl ((Z9.mk f.ak f.bz f.br true [] Sl.nil).aG).l L)) b wA ?_
  rintro ⟨y,s,m⟩ b ap P;refine ar fun au Q=>Y3 ?_;refine s0 (dU (TK rfl) rfl rfl (congrArg (fun x=>some (A.d x)) (Z9.eN _))) rfl ?_;refine aT Z9.c f.aG fun aw=>Y3 ?_;refine Gk 32 ?_;refine bG 33 rfl (fun hC=>iD (TK rfl) rfl rfl (TK rfl) rfl rfl) ?_;refine bG 34 rfl (fun hC=>eM (TK rfl) rfl rfl aA rfl) ?_;refine Gk 35 ?_;refine Y2 ?_
  refine ah.AR (fun l=>Option.bind (mI I (mK n) l s m) q=some r) (Option.bind (some (s,m)) q=some r) b (fun b=>by rw [mI] at b; exact b) (fun _ R b=>by rw [mI] at b; rw [R] at b; exact b) rfl rfl (fun ax B C U b=>?_) (fun C b=>?_)
  ·rw [mI] at b;rw [U,cond_true] at b;have ay:=oD (and_left C);refine sk Q (ar fun az W=>Y4 ?_);refine s0 (dU (TK rfl) rfl rfl (congrArg (fun x=>some (A.d x)) (Z9.eN _))) rfl ?_;refine Y1 ?_;obtain⟨aC,X,b⟩:=vO B b;refine S (ix Z9.c y X) (Y2 ?_);obtain⟨aD,Y,b⟩:=qO rfl b;refine S (eC Y) ?_;obtain⟨Z,aa,b⟩:=qO rfl b
   refine sH (bS rfl rfl (J aa _ aA)) rfl ?_;refine Y3 ?_;refine bx 9 _ rfl (kl [0,2,4,6,7,8]) ?_;refine Y5 ?_;obtain⟨E,ab,b⟩:=qO rfl b;refine SH (am Z9.c (TK rfl) rfl (TK rfl) (TK rfl) ab) ?_;refine Y3 ?_;refine W _ ?_;refine Y5 ?_;exact P _ ((y+1),Z.2,(Z9.mk m.ak m.bz m.br E.nl E.l m.aW)) wA b (dl B)
  have b:=ku O b;refine ah.exit ?_;obtain⟨aE,ad,b⟩:=bW b;exact N _ (s,m) wA (ku ad b:)
 rintro ⟨ae,ag⟩ b;refine ar fun aF ai=>ah.cq 1 _ rfl (fun j w cs hh hx=>iE 3 hx rfl) ?_;refine ah.cq 1 _ rfl (fun j w cs hh hx=>iE 4 hx rfl) ?_;refine ah.cq 1 (Z9.c ag) rfl (fun j w cs hh hx=>by rw [Z9.l8]; exact hx) ?_;refine Y4 ?_;refine ai _ ?_;refine ry ?_;obtain rfl:=oJ b;refine bH.b9 (cS H c0 (Z3.c ae)) rfl ⟨rfl,rfl⟩ ?_;intro F aH G
 have aI:F≠g:=fun u=>by subst u; simp_all [af.set]
 have aK:F≠k:=fun u=>by subst u; simp_all [af.set]
 rw [<- G];simp only [af.set] at G ⊢;(repeat' split)<;>simp_all
theorem Mm:∀(n:Nat),(Fw (av:=av) n)
 | 0=>fun b=>by first|cases b|(rw [mK] at b; cases b)
 | n+1=>Vm n (Mm n)
def Vn (a0:Z3) (b:Z9) (f:Int):Option (Z9×Z3):=mK F0 a0 b f
theorem Vo {a0 b f c0 r}(g:Vn a0 b f=some r) (H:af) (bX:H c0=some (.cells (Z3.c a0))):AC Tryz.prog 197 [.d (.ptr c0 0),.agg (Z9.c b),.d (.int .i64 f)] H fun v h'=>v=.a (.agg (Z9.c r.1))/\h'=(cS H c0 (Z3.c r.2)):=(Mm F0) g H bX
def EK (a0:Z3) (b:Z9) (f:Int):Option (Z9×Z3):=mK F0 a0 b f
def qG:Nat->Int->Option Bs
 | 0,_=>none
 | n+1,a0=>(rL (48:Int) (Int.tmod a0 (10:Int))).bind fun x3=>bif (decide ((-10:Int)<a0)) then(some (qb (⟨false,[(IntKind.wrap .u8 x3)]⟩:Sl Int))) else(((qG n) (IntKind.wrap .i64 (Int.tdiv a0 (10:Int)))).bind fun b=>(bV b (qb (⟨false,[(IntKind.wrap .u8 x3)]⟩:Sl Int))).bind fun f=>some f)
def Fy (n:Nat):Prop:=∀{a0:Int}   {r:Bs},qG n a0=some r->∀(H:af),AC Tryz.prog 217 [.d (.int .i64 a0)] H fun v h'=>v=.a (.d (.str r))/\h'=H
theorem Vp (n:Nat) (f:Fy (av:=av) n):Fy (av:=av) (n+1):=by
 intro a0   r b H;rw [qG] at b;refine AC.oW 18 [.tmp 2] Tryz.call217 Tryz.func217 ?_;refine Y5 ?_;refine s0 (Pp rfl rfl (by decide)) rfl ?_;obtain⟨x3,g,b⟩:=qT rfl b;refine S (HV g) (s0 (Pq (TK rfl) (TK rfl) rfl rfl) rfl ?_);refine Y1 ?_;refine s0 (Pr (y:=(⟨false,[(IntKind.wrap .u8 x3)]⟩:Sl Int)) (TK rfl) rfl (TK rfl) rfl (TK rfl) rfl rfl) rfl ?_;refine Y2 ?_;refine ar fun p j=>Y4 ?_
 refine cE b (fun k b=>?_) (fun k b=>?_)
 ·refine Y4 ?_;exact rt b
 refine sk j (Y2 ?_);refine s0 (Po rfl rfl (by decide)) rfl ?_;obtain⟨q,l,b⟩:=qT rfl b;refine Sc rfl rfl (f l) (Y1 ?_);obtain⟨s,m,b⟩:=qT rfl b;refine S (dy m) (Y2 ?_);exact rt b
theorem Mn:∀(n:Nat),(Fy (av:=av) n)
 | 0=>fun b=>by first|cases b|(rw [qG] at b; cases b)
 | n+1=>Vp n (Mn n)
def Vq (a0:Int):Option Bs:=qG F0 a0
theorem Mo {a0 r}(b:Vq a0=some r) (H:af) :AC Tryz.prog 217 [.d (.int .i64 a0)] H fun v h'=>v=.a (.d (.str r))/\h'=H:=(Mn F0) b H 
def EI (a0:Int):Option Bs:=qG F0 a0
def wJ (a0:Int):Option Bs:=bif (decide (a0<(0:Int))) then((EI a0).bind fun b=>(bV ([45]:Bs) b).bind fun x7=>some x7) else((EI (IntKind.wrap .i64 (0-a0))).bind fun f=>some f)
theorem Vr {a0 r}(b:wJ a0=some r) (H:af) :AC Tryz.prog 211 [.d (.int .i64 a0)] H (RT (.a (.d (.str r))) H):=by
 unfold wJ at b;refine AC.oW 11 [.tmp 2] Tryz.call211 Tryz.func211 ?_;refine Y3 ?_;refine ar fun m f=>Y4 ?_;refine cE b (fun g b=>?_) (fun g b=>?_)
 ·refine Y2 ?_;obtain⟨p,j,b⟩:=qT rfl b;refine Sc rfl rfl (Mo j) ?_;obtain⟨x7,k,b⟩:=qT rfl b;refine S (dy k) (Y2 ?_);exact rt b
 refine sk f (Y2 ?_);refine s0 (N1 rfl) rfl ?_;obtain⟨q,l,b⟩:=qT rfl b;refine Sc rfl rfl (Mo l) (Y2 ?_);exact rt b
def kO (a0:Z3) (f:Bs) (b:Z9):Option (Z9×Z3):=bif (((((f==([73,110,116]:Bs)))&&(decide (b.ak=(2:Int))))&&(decide ((-2147483648:Int)<=b.bz)))&&(decide (b.bz<(2147483648:Int)))) then(some (b,a0)) else(on (bif (((f==([83,116,114,105,110,103]:Bs)))&&(decide (b.ak=(3:Int)))) then((((f==([83,116,114,105,110,103]:Bs)))&&(decide (b.ak=(3:Int))))) else(bif (((f==([66,111,111,108,101,97,110]:Bs)))&&(decide (b.ak=(1:Int)))) then((((f==([66,111,111,108,101,97,110]:Bs)))&&(decide (b.ak=(1:Int))))) else((((f==([73,68]:Bs)))&&(decide (b.ak=(3:Int))))))) fun g=>bif g then(some (b,a0)) else(bif (((f==([73,68]:Bs)))&&(decide (b.ak=(2:Int)))) then((wJ b.bz).bind fun j=>some ((Z9.mk 3 0 j true [] Sl.nil),a0)) else(on (()) fun _=>on (fH a0 (23:Int)) fun x5=>some ((Z9.mk 0 0 [] true [] Sl.nil),x5))))
theorem Vs {a0 f g c0 r}(b:kO a0 f g=some r) (H:af) (bX:H c0=some (.cells (Z3.c a0))):AC Tryz.prog 200 [.d (.ptr c0 0),.d (.str f),.agg (Z9.c g)] H fun v h'=>v=.a (.agg (Z9.c r.1))/\h'=(cS H c0 (Z3.c r.2)):=by
 unfold kO at b;refine AC.oW 64 [.cell 6 72] Tryz.call200 Tryz.func200 ?_;refine hz (cS H c0 (Z3.c a0)) (Y4 ?_);refine cT (tl [0,6]) (fun(z:Z9)=>[]) (fun z=>[Z9.c z]) (fun z=>(cS H c0 (Z3.c a0))) (fun z=>(on (fH a0 (23:Int)) fun x5=>some ((Z9.mk 0 0 [] true [] Sl.nil),x5))=some r) ?_ ?_
 ·intro C k;refine Y6 ?_;refine Gk 11 ?_;refine Gk 12 ?_;refine Y3 ?_;refine Gk 16 ?_;refine Gk 17 ?_;refine Y3 ?_;refine Gk 21 ?_;refine Gk 22 ?_;refine Y3 ?_;refine cE b (fun l b=>?_) (fun l b=>?_)
  ·refine Y4 ?_;exact rt b
  obtain⟨m,p,b⟩:=bW b;refine aR (tl [0,1,5,6]) (fun(z:Bool)=>[(26,.a (.d (.bool z)))]) (fun z=>(cS H c0 (Z3.c a0))) (fun z=>m z=some r) ?_ ?_
  ·intro E j;refine Y5 ?_;refine Gk 30 ?_;refine Gk 31 ?_;refine Y3 ?_;refine cP b (fun q b=>?_) (fun q b=>?_)
   ·refine ah.skip ?_;exact j _ (((f==([83,116,114,105,110,103]:Bs)))&&(decide (g.ak=(3:Int)))) wA b
   refine Y5 ?_;refine Gk 37 ?_;refine Gk 38 ?_;refine Y3 ?_;refine cP b (fun s b=>?_) (fun s b=>?_)
   ·refine ah.skip ?_;exact j _ (((f==([66,111,111,108,101,97,110]:Bs)))&&(decide (g.ak=(1:Int)))) wA b
   refine Y5 ?_;refine Gk 44 ?_;refine Gk 45 ?_;refine Y3 ?_;exact j _ (((f==([73,68]:Bs)))&&(decide (g.ak=(3:Int)))) wA b
  rintro F b;have b:=ku p b;refine cE b (fun t b=>?_) (fun t b=>?_)
  ·refine Y4 ?_;exact rt b
  refine Y5 ?_;refine Gk 53 ?_;refine Gk 54 ?_;refine Y3 ?_;refine cE b (fun u b=>?_) (fun u b=>?_)
  ·refine Y3 ?_;obtain⟨G,w,b⟩:=qT rfl b;refine Sc rfl rfl (Vr w) (Y3 ?_);exact rt b
  refine ah.skip ?_;obtain⟨I,y,b⟩:=bW b;exact k _ Z9.zero wA (ku y b:)
 rintro J b;refine Y2 ?_;obtain⟨x5,B,b⟩:=vT rfl b;refine sH (bS rfl rfl (ri B _ aA)) rfl ?_;refine hq (cS H c0 (Z3.c x5)) (Y5 ?_);exact rt b
def kP (a0:Z3) (b:Z9):List Z8->Unit ⊕ ((Z9×Z3))
 | []=>Sum.inl ()
 | f::g=>on (f) fun j=>bif ((j.aa==b.br)) then(Sum.inr ((Z9.mk 4 0 b.br true [] Sl.nil),a0)) else(kP a0 b (g) )
def kQ (a0:Z3) (k:ag) (b:Z9):(Z9×Z3):=on (fun(_:Unit)=>on (fH a0 (23:Int)) fun x5=>((Z9.mk 0 0 [] true [] Sl.nil),x5)) fun f=>bif ((decide (b.ak=(4:Int)))||((decide (b.ak=(3:Int)))&&(!a0.fG))) then(on (kP a0 b k.au.l ) fun g=>match g with|Sum.inl _=>(f ())|Sum.inr j=>(j)) else(f ())
theorem Vt {a0 f g c0 r}(b:some (kQ a0 f g)=some r) (H:af) (bX:H c0=some (.cells (Z3.c a0))):AC Tryz.prog 201 [.d (.ptr c0 0),.agg (ag.c f),.agg (Z9.c g)] H fun v h'=>v=.a (.agg (Z9.c r.1))/\h'=(cS H c0 (Z3.c r.2)):=by
 unfold kQ at b;refine AC.oW 45 [.cell 6 72] Tryz.call201 Tryz.func201 ?_;refine hz (cS H c0 (Z3.c a0)) (Y5 ?_);obtain⟨t,u,b⟩:=mP b;refine cT (tl [0,6]) (fun(z:Z9)=>[]) (fun z=>[Z9.c z]) (fun z=>(cS H c0 (Z3.c a0))) (fun z=>some (t ())=some r) ?_ ?_
 ·intro J j;refine Y6 ?_;refine Gk 12 ?_;refine Gk 13 ?_;refine Gk 14 ?_;refine Y1 ?_;refine Gk 16 ?_;refine bG 17 rfl (fun hC=>iD (TK rfl) rfl rfl (TK rfl) rfl rfl) ?_;refine bG 18 rfl (fun hC=>eM (TK rfl) rfl rfl aA rfl) ?_;refine Gk 19 ?_;refine bG 15 rfl (fun hC=>kr rfl rfl rfl) ?_;refine Y2 ?_;refine cP b (fun w b=>?_) (fun w b=>?_)
  ·refine Y4 ?_;obtain⟨k,m,b⟩:=dX b;refine eZ (tl [0,4,5,6]) (fun(z:Nat×Z9)=>[(7,vi z.1)]) (fun z=>[Z9.c z.2]) (fun z=>(cS H c0 (Z3.c a0))) (fun z=>f.au.l.length-z.1) (fun z=>k (kP a0 g (f.au.l.drop z.1) )=some r) (0,Z9.zero) b wA ?_;rintro ⟨p,q⟩ b K y;refine ar fun L B=>Y4 ?_;refine aT Z8.c f.au fun M=>Y2 ?_
   refine ah.bL (fun l=>k (kP a0 g l )=some r) b rfl (fun N s C b=>?_) (fun C b=>?_)
   ·rw [kP] at b;refine sk B (ar fun O E=>Y5 ?_);obtain⟨P,F,b⟩:=vP s b;refine Sd (ix Z8.c p F) (Y6 ?_);refine cP b (fun G b=>?_) (fun G b=>?_)
    ·refine Y6 ?_;exact rs (ku m b:)
    refine sk E (Y5 ?_);exact y _ ((p+1),q) wA b (dl s)
   rw [kP] at b;have b:=ku m b;refine ah.exit ?_;exact j _ q wA b
  refine ah.skip ?_;exact j _ Z9.zero wA b
 rintro Q b;rw [u] at b;refine Y2 ?_;obtain⟨x5,I,b⟩:=vP rfl b;refine sH (bS rfl rfl (ri I _ aA)) rfl ?_;refine hq (cS H c0 (Z3.c x5)) (Y5 ?_);exact rt b
def Fz  :Option Bool:=some false
def nX (a0:(Sl Z7)) (f:Int) :Nat->Int->Option Bool
 | 0,_=>none
 | g+1,b=>bif (decide (b<f)) then((dh a0.l b).bind fun j=>(dh a0.l f).bind fun k=>bif ((j.aa==k.aa)) then(some true) else((cF b (1:Int)).bind fun m=>(nX a0 f g) m)) else(Fz   )
def BJ (a0:(Sl Z7)) (b:Int):Option Bool:=nX a0 b F0 (0:Int)
theorem Vu {a0 j w0 r}(b:BJ a0 j=some r) (H:af) :AC Tryz.prog 212 [.d (Sl.d 10 Z7.c w0 a0),.d (.int .i64 j)] H (RT (.a (.d (.bool r))) H):=by
 unfold BJ at b;refine AC.oW 22 [.tmp 4] Tryz.call212 Tryz.func212 ?_;refine Y3 ?_;refine aR kN (fun(z:Unit)=>[]) (fun z=>H) (fun z=>Fz =some r) ?_ ?_
 ·intro y k;refine Y4 ?_;refine bD (tl [0,1]) (fun(z:Nat×Int)=>[(5,.a (.d (.int .i64 z.2)))]) (fun z=>H) (fun z=>z.1) (fun z=>nX a0 j z.1 z.2=some r) (F0,(0:Int)) b wA ?_;rintro ⟨g,B⟩ b C l;cases g with
  | zero=>cases b
  | succ g =>
    rw [nX] at b;refine ar fun E m=>Y5 ?_;refine cE b (fun p b=>?_) (fun p b=>?_)
    ·refine sk m (ar fun F q=>Y4 ?_);obtain⟨G,s,b⟩:=bO b;refine aN.s0 (iZ (f:=Z7.c) (TK rfl) rfl (TK rfl) rfl rfl rfl s) rfl ?_;refine Y4 ?_;obtain⟨I,t,b⟩:=bO b;refine aN.s0 (iZ (f:=Z7.c) (TK rfl) rfl (TK rfl) rfl rfl rfl t) rfl ?_;refine Y4 ?_;refine cE b (fun u b=>?_) (fun u b=>?_)
     ·refine Y3 ?_;exact rt b
     refine sk q (Y2 ?_);obtain⟨v,w,b⟩:=bO b;refine S (eC w) (Y2 ?_);exact l _ (g,v) wA b (nS _)
    refine ah.exit ?_;exact k _ () wA b
 rintro _ b;unfold Fz at b;refine Y3 ?_;exact rt b
def wM (a0:(Sl Z7)) (b:Int):Option Bool:=BJ a0 b
end Go.Proofs
