import Derived.Test.YtdlobimnfmjonaaGreatDoorV9
set_option maxRecDepth 100000
set_option maxHeartbeats 2000000
set_option linter.unusedVariables false
set_option linter.unusedSimpArgs false
namespace Go.Proofs
open Go Go.Ab
open aJ aq ah dN fT
attribute [local irreducible] aJ aN ah aq
variable {av:bR}
def A9 (a0:Int) (b:Int):Int:=bif (decide (a0<b)) then((-1:Int)) else(bif (decide (b<a0)) then((1:Int)) else((0:Int)))
def uB (a0:Int) (b:Int):Option Int:=some (A9 a0 b)
theorem QC (a0:Int) (a1:Int):uB a0 a1=some (A9 a0 a1):=rfl
theorem D0 {a0 f r}(b:uB a0 f=some r) (H:af) :AC Tryz.prog 169 [.d (.int .i64 a0),.d (.int .i64 f)] H (RT (.a (.d (.int .i64 r))) H):=by
 unfold uB A9 at b;refine AC.oW 11 [.tmp 4] Tryz.call169 Tryz.func169 ?_;refine Y3 ?_;refine ar fun m g=>Y5 ?_;refine cP b (fun j b=>?_) (fun j b=>?_)
 ·refine Y3 ?_;exact rt b
 refine sk g (ar fun p k=>Y5 ?_);refine cP b (fun l b=>?_) (fun l b=>?_)
 ·refine Y3 ?_;exact rt b
 refine sk k (Y3 ?_);exact rt b
def A_ (a0:Bs) (b:Bs):Int:=bif (Op.bytesLess a0 b) then((-1:Int)) else(bif (!(Op.bytesLess a0 b||a0==b)) then((1:Int)) else((0:Int)))
def v_ (a0:Bs) (b:Bs):Option Int:=some (A_ a0 b)
theorem QD (a0:Bs) (a1:Bs):v_ a0 a1=some (A_ a0 a1):=rfl
theorem Ip {a0 f r}(b:v_ a0 f=some r) (H:af) :AC Tryz.prog 170 [.d (.str a0),.d (.str f)] H (RT (.a (.d (.int .i64 r))) H):=by
 unfold v_ A_ at b;refine AC.oW 11 [.tmp 4] Tryz.call170 Tryz.func170 ?_;refine Y3 ?_;refine ar fun m g=>Y5 ?_;refine cP b (fun j b=>?_) (fun j b=>?_)
 ·refine Y3 ?_;exact rt b
 refine sk g (ar fun p k=>Y5 ?_);refine cP b (fun l b=>?_) (fun l b=>?_)
 ·refine Y3 ?_;exact rt b
 refine sk k (Y3 ?_);exact rt b
def yG (a0:Z9) (b:Int):Option Bs:=bif (decide (b<((a0.aW.l.length:Nat):Int))) then((dh a0.aW.l b).bind fun x7=>some x7) else(some ([]:Bs))
def qp (a0:Z9) (b:Int):Option Bs:=yG a0 b
theorem D1 (a0:Z9) (a1:Int):qp a0 a1=yG a0 a1:=rfl
theorem Iq {a0 g r}(b:qp a0 g=some r) (H:af) :AC Tryz.prog 171 [.agg (Z9.c a0),.d (.int .i64 g)] H (RT (.a (.d (.str r))) H):=by
 unfold qp yG at b;refine AC.oW 15 [.tmp 4] Tryz.call171 Tryz.func171 ?_;refine Y4 ?_;refine ar fun m j=>Y4 ?_;refine aT aB a0.aW fun p=>Y2 ?_;refine cE b (fun k b=>?_) (fun k b=>?_)
 ·refine Y4 ?_;obtain⟨x7,l,b⟩:=qT rfl b;refine s0 (iZ (f:=aB) (TK rfl) rfl (TK rfl) rfl rfl rfl l) rfl ?_;refine Y3 ?_;exact rt b
 refine sk j (Y3 ?_);exact rt b
def D2  (b:Int):Option Int:=some b
def yH (b:Int) (f:Int->Int->Option Int) (g:Int):Option Int:=(cF b (1:Int)).bind fun j=>f g j
def sg (a0:Z9) (f:Z9) (g:Z9->Z9->Option Int):Nat->Int->Int->Option Int
 | 0,_,_=>none
 | j+1,k,b=>bif (decide (k=(0:Int))) then(bif ((decide (((a0.aG.l.length:Nat):Int)<=b))||(decide (((f.aG.l.length:Nat):Int)<=b))) then((uB ((a0.aG.l.length:Nat):Int) ((f.aG.l.length:Nat):Int)).bind fun p=>some p) else((qp a0 b).bind fun q=>(qp f b).bind fun r=>(v_ q r).bind fun m=>bif (decide (m=(0:Int))) then((dh a0.aG.l b).bind fun s=>(dh f.aG.l b).bind fun t=>(g s t).bind fun u=>yH b ((sg a0 f g j)) u) else(yH b ((sg a0 f g j)) m))) else(D2   k)
def yI (a0:Z9) (g:Z9) (b:Z9->Z9->Option Int) (f:Int):Option Int:=sg a0 g b F0 f (0:Int)
def yJ (a0:Z9) (b:Z9) (f:Z9->Z9->Option Int) (g:Int):Option Int:=bif (decide (g=(0:Int))) then((v_ a0.br b.br).bind fun j=>yI a0 b f j) else(yI a0 b f g)
def me:Nat->Z9->Z9->Option Int
 | 0,_,_=>none
 | n+1,a0,b=>(uB a0.ak b.ak).bind fun x3=>bif (decide (x3=(0:Int))) then((uB a0.bz b.bz).bind fun f=>yJ a0 b (me n) f) else(yJ a0 b (me n) x3)
def D3 (n:Nat):Prop:=∀{a0:Z9}{a1:Z9}   {r:Int},me n a0 a1=some r->∀(H:af),AC Tryz.prog 136 [.agg (Z9.c a0),.agg (Z9.c a1)] H fun v h'=>v=.a (.d (.int .i64 r))/\h'=H
theorem QE (n:Nat) (p:D3 (av:=av) n):D3 (av:=av) (n+1):=by
 intro a0 g   r b H;rw [me] at b;refine AC.oW 70 [.tmp 4] Tryz.call136 Tryz.func136 ?_;refine oI ?_;obtain⟨x3,q,b⟩:=bO b;refine Sc rfl rfl (D0 q) (Y2 ?_);refine aR (tl [2,3]) (fun(z:Int)=>[(5,.a (.d (.int .i64 z)))]) (fun z=>H) (fun z=>yJ a0 g (me n) z=some r) ?_ ?_
 ·intro ae k;refine Y4 ?_;refine cE b (fun s b=>?_) (fun s b=>?_)
  ·refine Y5 ?_;obtain⟨t,u,b⟩:=bO b;refine Sc rfl rfl (D0 u) (Y2 ?_);exact k _ t wA b
  refine ah.skip ?_;exact k _ x3 wA b
 rintro v b;unfold yJ at b;refine aR (tl [2,3]) (fun(z:Int)=>[(5,.a (.d (.int .i64 z)))]) (fun z=>H) (fun z=>yI a0 g (me n) z=some r) ?_ ?_
 ·intro ag l;refine Y4 ?_;refine cE b (fun w b=>?_) (fun w b=>?_)
  ·refine Y5 ?_;obtain⟨y,B,b⟩:=bO b;refine Sc rfl rfl (Ip B) (Y2 ?_);exact l _ y wA b
  refine ah.skip ?_;exact l _ v wA b
 rintro C b;unfold yI at b;refine aR kN (fun(z:Int)=>[(5,.a (.d (.int .i64 z)))]) (fun z=>H) (fun z=>D2 z=some r) ?_ ?_
 ·intro ai E;refine Y4 ?_;refine bD (tl [2,3]) (fun(z:Nat×Int×Int)=>[(5,.a (.d (.int .i64 z.2.1))),(6,.a (.d (.int .i64 z.2.2)))]) (fun z=>H) (fun z=>z.1) (fun z=>sg a0 g (me n) z.1 z.2.1 z.2.2=some r) (F0,C,(0:Int)) b wA ?_;rintro ⟨j,F,G⟩ b aj I;cases j with
  | zero=>cases b
  | succ j =>
    rw [sg] at b;refine ar fun ak J=>Y4 ?_;refine cE b (fun K b=>?_) (fun K b=>?_)
    ·refine sk J (aR (tl [2,3,6]) (fun(z:Int)=>[(5,.a (.d (.int .i64 z)))]) (fun z=>H) (fun z=>yH G ((sg a0 g (me n) j)) z=some r) ?_ ?_)
     ·intro al m;refine Y1 ?_;refine ar fun am L=>Y3 ?_;refine s0 (dU (TK rfl) rfl rfl (congrArg (fun x=>some (A.d x)) (Z9.eN _))) rfl ?_;refine aT Z9.c a0.aG fun an=>Y4 ?_;refine bG 37 rfl (fun hC=>dU (TK rfl) rfl rfl (congrArg (fun x=>some (A.d x)) (Z9.eN _))) ?_;refine bG 38 rfl (fun hC=>dK Z9.c g.aG) ?_;refine G2 36 39 rfl rfl BI ?_;refine Y2 ?_
      refine cE b (fun M b=>?_) (fun M b=>?_)
      ·refine Y2 ?_;refine s0 (dU (TK rfl) rfl rfl (congrArg (fun x=>some (A.d x)) (Z9.eN _))) rfl ?_;refine aT Z9.c a0.aG fun ao=>Y1 ?_;refine s0 (dU (TK rfl) rfl rfl (congrArg (fun x=>some (A.d x)) (Z9.eN _))) rfl ?_;refine aT Z9.c g.aG fun ap=>?_;obtain⟨au,N,b⟩:=bO b;refine Sc rfl rfl (D0 N) (Y2 ?_);exact rt b
      refine sk L (Y3 ?_);obtain⟨aw,O,b⟩:=bO b;refine cH rfl rfl (Iq O) (Y2 ?_);obtain⟨ax,P,b⟩:=bO b;refine cH rfl rfl (Iq P) ?_;obtain⟨Q,R,b⟩:=bO b;refine cH rfl rfl (Ip R) (Y6 ?_);refine cE b (fun U b=>?_) (fun U b=>?_)
      ·refine ah.draw rfl ?_;refine Y1 ?_;refine aN.s0 (dU (TK rfl) rfl rfl (congrArg (fun x=>some (A.d x)) (Z9.eN _))) rfl ?_;refine Y1 ?_;obtain⟨ay,W,b⟩:=bO b;refine aN.s0 (iZ (f:=Z9.c) (TK rfl) rfl (TK rfl) rfl rfl rfl W) rfl ?_;refine Y2 ?_;refine aN.s0 (dU (TK rfl) rfl rfl (congrArg (fun x=>some (A.d x)) (Z9.eN _))) rfl ?_;refine Y1 ?_;obtain⟨az,X,b⟩:=bO b
       refine aN.s0 (iZ (f:=Z9.c) (TK rfl) rfl (TK rfl) rfl rfl rfl X) rfl ?_;refine Y1 ?_;obtain⟨Y,Z,b⟩:=bO b;refine cH rfl rfl (p Z) (Y2 ?_);exact m _ Y wA b
      refine ah.skip ?_;exact m _ Q wA b
     rintro aa b;unfold yH at b;refine Y2 ?_;obtain⟨ab,ad,b⟩:=bO b;refine S (eC ad) (Y2 ?_);exact I _ (j,aa,ab) wA b (nS _)
    refine ah.exit ?_;exact E _ F wA b
 rintro aB b;unfold D2 at b;refine Y4 ?_;exact rt b
theorem Ir:∀(n:Nat),(D3 (av:=av) n)
 | 0=>fun b=>by first|cases b|(rw [me] at b; cases b)
 | n+1=>QE n (Ir n)
def D4 (a0:Z9) (b:Z9):Option Int:=me F0 a0 b
theorem QG {a0 b r}(f:D4 a0 b=some r) (H:af) :AC Tryz.prog 136 [.agg (Z9.c a0),.agg (Z9.c b)] H fun v h'=>v=.a (.d (.int .i64 r))/\h'=H:=(Ir F0) f H 
def we (a0:Z9) (b:Z9):Option Bool:=(D4 a0 b).bind fun x3=>some (decide (x3=(0:Int)))
def D5 (a0:Z9) (b:Z9):Option Bool:=we a0 b
theorem Is {a0 f r}(b:D5 a0 f=some r) (H:af) :AC Tryz.prog 93 [.agg (Z9.c a0),.agg (Z9.c f)] H (RT (.a (.d (.bool r))) H):=by
 unfold D5 we at b;refine AC.oW 9 [.tmp 4] Tryz.call93 Tryz.func93 ?_;refine Y8 ?_;obtain⟨x3,g,b⟩:=qT rfl b;refine Sc rfl rfl (QG g) (Y3 ?_);exact rt b
def wg  :Option Bool:=some true
def wi (b:Nat) (f:Nat->Option Bool) :Option Bool:=f (b+1)
def wj (a0:(Sl aD)) (k:(Sl aD)) (b:Nat) (m:Nat->Option Bool):Nat->Nat->Option Bool
 | 0,_=>none
 | p+1,f=>(a0.l[b]?).bind fun q=>bif (decide (((f:Nat):Int)<((q.az.l.length:Nat):Int))) then((a0.l[b]?).bind fun r=>(r.az.l[f]?).bind fun g=>(k.l[b]?).bind fun s=>(s.az.l[f]?).bind fun j=>aY (!(!(g.aa==j.aa))) (a0.l[b]?) aD.zero fun t=>aY (!(!(g.aa==j.aa))) (t.az.l[f]?) bU.zero fun u=>aY (!(!(g.aa==j.aa))) (k.l[b]?) aD.zero fun v=>aY (!(!(g.aa==j.aa))) (v.az.l[f]?) bU.zero fun w=>aY (!(!(g.aa==j.aa))) (D5 u.ir w.ir) false fun y=>bif ((!(g.aa==j.aa))||(!y)) then(some false) else((wj a0 k b m p) (f+1))) else(wi b m )
def qq (a0:(Sl aD)) (f:(Sl aD)) :Nat->Nat->Option Bool
 | 0,_=>none
 | k+1,b=>bif (decide (((b:Nat):Int)<((a0.l.length:Nat):Int))) then((a0.l[b]?).bind fun g=>(f.l[b]?).bind fun j=>aY (!(!(g.aa==j.aa))) (a0.l[b]?) aD.zero fun m=>aY (!(!(g.aa==j.aa))) (f.l[b]?) aD.zero fun p=>bif ((!(g.aa==j.aa))||(!decide (((m.az.l.length:Nat):Int)=((p.az.l.length:Nat):Int)))) then(some false) else(wj a0 f b ((qq a0 f k)) (Option.elim (a0.l[b]?) 1 (fun q=>q.az.l.length+1)) 0)) else(wg   )
def Ba (a0:(Sl aD)) (b:(Sl aD)):Option Bool:=bif (!decide (((a0.l.length:Nat):Int)=((b.l.length:Nat):Int))) then(some false) else(qq a0 b (a0.l.length+1) 0)
theorem Bb {a0 g w0 q r}(b:Ba a0 g=some r) (H:af) :AC Tryz.prog 51 [.d (Sl.d 2 aD.c w0 a0),.d (Sl.d 2 aD.c q g)] H (RT (.a (.d (.bool r))) H):=by
 unfold Ba at b;refine AC.oW 95 [.tmp 4] Tryz.call51 Tryz.func51 ?_;refine Y3 ?_;refine ar fun ag s=>Y2 ?_;refine aT aD.c a0 fun ai=>Y1 ?_;refine aT aD.c g fun aj=>Y2 ?_;refine cE b (fun t b=>?_) (fun t b=>?_)
 ·refine Y3 ?_;exact rt b
 refine sk s (aR kN (fun(z:Unit)=>[]) (fun z=>H) (fun z=>wg =some r) ?_ ?_)
 ·intro ak u;refine Y4 ?_;refine bD (tl [0,1]) (fun(z:Nat×Nat)=>[(5,vi z.2)]) (fun z=>H) (fun z=>z.1) (fun z=>qq a0 g z.1 z.2=some r) ((a0.l.length+1),0) b wA ?_;rintro ⟨j,f⟩ b al v;cases j with
  | zero=>cases b
  | succ j =>
    rw [qq] at b;refine ar fun am w=>Y3 ?_;refine aT aD.c a0 fun an=>Y2 ?_;refine cE b (fun y b=>?_) (fun y b=>?_)
    ·refine sk w (aR (tl [0,1,5]) (fun(z:Unit)=>[]) (fun z=>H) (fun z=>wi f ((qq a0 g j)) =some r) ?_ ?_)
     ·intro ao B;refine Y1 ?_;refine ar fun ap C=>Y3 ?_;obtain⟨au,E,b⟩:=bO b;refine Sd (ix aD.c f E) (Y4 ?_);obtain⟨av,F,b⟩:=bO b;refine Sd (ix aD.c f F) (Y6 ?_);obtain⟨G,I,b⟩:=gO b;refine jF 30 31 rfl rfl (fun hC=>ix aD.c f (I hC)) ?_;refine dZ 32 ?_;refine dZ 33 ?_;refine qe 34 rfl (fun hC=>dK bU.c G.az) ?_;refine Y2 ?_;obtain⟨J,K,b⟩:=gO b
      refine jF 36 37 rfl rfl (fun hC=>ix aD.c f (K hC)) ?_;refine dZ 38 ?_;refine dZ 39 ?_;refine qe 40 rfl (fun hC=>dK bU.c J.az) ?_;refine AU 35 41 rfl rfl BI ?_;refine Y2 ?_;refine cE b (fun L b=>?_) (fun L b=>?_)
      ·refine Y3 ?_;exact rt b
      refine sk C (Y4 ?_);refine bD (tl [0,1,5]) (fun(z:Nat×Nat)=>[(6,vi z.2)]) (fun z=>H) (fun z=>z.1) (fun z=>wj a0 g f ((qq a0 g j)) z.1 z.2=some r) ((Option.elim (a0.l[f]?) 1 (fun m=>m.az.l.length+1)),0) b wA ?_;rintro ⟨p,k⟩ b aw M;cases p with
      | zero=>cases b
      | succ p =>
        rw [wj] at b;refine ar fun ax N=>Y4 ?_;obtain⟨m,O,b⟩:=bO b;refine S (ix aD.c f O) (Y2 ?_);refine aT bU.c m.az fun ay=>Y2 ?_;refine cE b (fun P b=>?_) (fun P b=>?_)
        ·refine sk N (ar fun aB Q=>Y4 ?_);obtain⟨aC,R,b⟩:=bO b;refine Sd (ix aD.c f R) (Y3 ?_);obtain⟨aE,U,b⟩:=bO b;refine Sd (ix bU.c k U) (Y4 ?_);obtain⟨aF,W,b⟩:=bO b;refine Sd (ix aD.c f W) (Y3 ?_);obtain⟨aG,X,b⟩:=bO b;refine Sd (ix bU.c k X) (Y6 ?_);obtain⟨aH,Y,b⟩:=gO b;refine jF 74 75 rfl rfl (fun hC=>ix aD.c f (Y hC)) ?_
         refine dZ 76 ?_;refine dZ 77 ?_;refine Y1 ?_;obtain⟨aI,Z,b⟩:=gO b;refine jF 78 79 rfl rfl (fun hC=>ix bU.c k (Z hC)) ?_;refine dZ 80 ?_;refine dZ 81 ?_;refine Y2 ?_;obtain⟨aK,aa,b⟩:=gO b;refine jF 83 84 rfl rfl (fun hC=>ix aD.c f (aa hC)) ?_;refine dZ 85 ?_;refine dZ 86 ?_;refine Y1 ?_;obtain⟨aL,ab,b⟩:=gO b;refine jF 87 88 rfl rfl (fun hC=>ix bU.c k (ab hC)) ?_
         refine dZ 89 ?_;refine dZ 90 ?_;obtain⟨aM,ad,b⟩:=gO b;refine vN 82 91 rfl rfl rfl rfl rfl rfl (fun hC=>Is (ad hC)) ?_;refine dZ 92 ?_;refine Y2 ?_;refine cE b (fun ae b=>?_) (fun ae b=>?_)
         ·refine Y3 ?_;exact rt b
         refine sk Q (Y5 ?_);exact M _ (p,(k+1)) wA b (nS _)
        refine ah.exit ?_;exact B _ () wA b
     rintro _ b;unfold wi at b;refine Y5 ?_;exact v _ (j,(f+1)) wA b (nS _)
    refine ah.exit ?_;exact u _ () wA b
 rintro _ b;unfold wg at b;refine Y3 ?_;exact rt b
def uC (m:(Sl aD)) (j:Nat) (k:aD):List bU->Nat->Option (Unit ⊕ Bool)
 | [],g=>some (Sum.inl ())
 | p::q,g=>on (k) fun y=>on (p) fun b=>(m.l[j]?).bind fun r=>(r.az.l[g]?).bind fun f=>on (bif !(!(b.aa==f.aa)) then k else aD.zero) fun s=>aY (!(!(b.aa==f.aa))) (s.az.l[g]?) bU.zero fun t=>aY (!(!(b.aa==f.aa))) (m.l[j]?) aD.zero fun u=>aY (!(!(b.aa==f.aa))) (u.az.l[g]?) bU.zero fun v=>aY (!(!(b.aa==f.aa))) (we t.ir v.ir) false fun w=>bif ((!(b.aa==f.aa))||(!w)) then(some (Sum.inr false)) else(uC m j k (q) (g+1) )
theorem QH {a0 s:Sl aD}{j:Nat}{q:Nat->Option Bool}{k:aD}(m:a0.l[j]?=some k) (p:(Unit ⊕ Bool)->Option Bool) (t:∀(f:Nat) (b:Nat),wi j q =p (Sum.inl ())) (u:∀e:Bool,some e=p (Sum.inr e)):∀(f:Nat) (b:Nat),(0<f/\k.az.l.length<b+f)->wj a0 s j q f b=Option.bind (uC s j k (k.az.l.drop b) b ) p:=by
 intro f;induction f with
 | zero=>intro b hn; exact absurd hn.1 (by omega)
 | succ f v =>
  intro b hn;rw [wj];refine Q.preB m fun w y=>?_;subst y;by_cases bl:b<w.az.l.length
  ·obtain⟨z,g⟩:=Qa bl;rw [Q.nr g,uC];refine QT bl ?_;refine Q.qd m fun B r=>?_;refine Q.qd (by first|exact g|(simp only [r]; exact g)|(simp only [r] at g ⊢; exact g)) fun C E=>?_;refine Q.AN rfl fun F=>?_;refine Q.AN rfl fun G=>?_;refine Q.DM m fun H I=>?_;refine Q.uu rfl fun J=>?_;refine Q.uu rfl fun K=>?_
   refine Q.uu rfl fun L=>?_;refine Q.uu rfl fun M=>?_;refine Q.oG ?_ ?_
   ·all_goals exact u _
   all_goals exact v _ ⟨by omega,by omega⟩
  rw [dL (by omega),uC];refine QF bl ?_;exact t f b
def uD (g:(Sl aD)):List aD->Nat->Option (Unit ⊕ Bool)
 | [],b=>some (Sum.inl ())
 | f::m,b=>on (f) fun j=>(g.l[b]?).bind fun k=>on (bif !(!(j.aa==k.aa)) then f else aD.zero) fun p=>aY (!(!(j.aa==k.aa))) (g.l[b]?) aD.zero fun q=>bif ((!(j.aa==k.aa))||(!decide (((p.az.l.length:Nat):Int)=((q.az.l.length:Nat):Int)))) then(some (Sum.inr false)) else(Option.bind (uC g b f f.az.l 0 ) fun r=>match r with|Sum.inl _=>(on (()) fun _=>uD g (m) (b+1) )|Sum.inr s=>(some (Sum.inr s)))
theorem QI {a0 k:Sl aD}(j:(Unit ⊕ Bool)->Option Bool) (q:∀(f:Nat) (b:Nat),wg   =j (Sum.inl ())) (m:∀e:Bool,some e=j (Sum.inr e)):∀(f:Nat) (b:Nat),(0<f/\a0.l.length<b+f)->qq a0 k f b=Option.bind (uD k (a0.l.drop b) b ) j:=by
 intro f;induction f with
 | zero=>intro b hn; exact absurd hn.1 (by omega)
 | succ f r =>
  intro b hn;rw [qq];by_cases bl:b<a0.l.length
  ·obtain⟨w,g⟩:=Qa bl;rw [Q.nr g,uD];refine QT bl ?_;refine Q.qd g fun y z=>?_;refine Q.AN rfl fun B=>?_;refine Q.DM g fun C E=>?_;refine Q.uu rfl fun F=>?_;refine Q.oG ?_ ?_
   ·all_goals exact m _
   refine Q.yo fun s p=>?_;refine QH g s ?_ ?_ _ _ ⟨by rw [g]; exact Nat.succ_pos _,by rw [g]; simp only [Option.elim]; omega⟩
   ·intro G H;refine Qe (p _) ?_;try dsimp only
    refine Q.ym fun t u=>?_;have v:wi b (qq a0 k f) =t ():=by
     refine Qe (u _) ?_;unfold wi;all_goals exact r _ ⟨by omega,by omega⟩
    all_goals exact v
   intro I;refine Qe (p _) ?_;try dsimp only
   all_goals exact m _
  rw [dL (by omega),uD];refine QF bl ?_;exact q f b
def sj (a0:(Sl aD)) (b:(Sl aD)):Option Bool:=bif (!decide (((a0.l.length:Nat):Int)=((b.l.length:Nat):Int))) then(some false) else(Option.bind (uD b a0.l 0 ) fun f=>match f with|Sum.inl _=>(on (()) fun _=>some true)|Sum.inr g=>(some g))
theorem Bc (a0:(Sl aD)) (a1:(Sl aD)):Ba a0 a1=sj a0 a1:=by
 unfold Ba sj;refine Qs ?_;refine Q.oG ?_ ?_
 ·all_goals rfl
 refine Q.yo fun f b=>?_;refine QI  f ?_ ?_ _ _ ⟨Nat.succ_pos _,by omega⟩
 ·intro l m;refine Qe (b _) ?_;try dsimp only
  refine Q.ym fun g j=>?_;have k:wg  =g ():=by
   refine Qe (j _) ?_;unfold wg;all_goals rfl
  all_goals exact k
 intro p;refine Qe (b _) ?_;try dsimp only
 all_goals rfl
def sn (m:(Sl Z7)):List Z7->Nat->Option (Unit ⊕ Bool)
 | [],g=>some (Sum.inl ())
 | p::q,g=>on (p) fun b=>(m.l[g]?).bind fun f=>aY (!(!(b.aa==f.aa))) (qo b.ax f.ax) false fun j=>aY (!(((!(b.aa==f.aa))||(!j))||(!(b.b_==f.b_)))) (we b.dm f.dm) false fun k=>aY (!((((!(b.aa==f.aa))||(!j))||(!(b.b_==f.b_)))||(!k))) (sj b.aM f.aM) false fun r=>bif (((((!(b.aa==f.aa))||(!j))||(!(b.b_==f.b_)))||(!k))||(!r)) then(some (Sum.inr false)) else(sn m (q) (g+1) )
def sq (a0:(Sl Z7)) (b:(Sl Z7)):Option Bool:=bif (!decide (((a0.l.length:Nat):Int)=((b.l.length:Nat):Int))) then(some false) else(Option.bind (sn b a0.l 0 ) fun f=>match f with|Sum.inl _=>(on (()) fun _=>some true)|Sum.inr g=>(some g))
theorem It {a0 f w0 p r}(b:sq a0 f=some r) (H:af) :AC Tryz.prog 53 [.d (Sl.d 10 Z7.c w0 a0),.d (Sl.d 10 Z7.c p f)] H (RT (.a (.d (.bool r))) H):=by
 unfold sq at b;refine AC.oW 63 [.tmp 4] Tryz.call53 Tryz.func53 ?_;refine Y3 ?_;refine ar fun K q=>Y2 ?_;refine aT Z7.c a0 fun L=>Y1 ?_;refine aT Z7.c f fun M=>Y2 ?_;refine cE b (fun s b=>?_) (fun s b=>?_)
 ·refine Y3 ?_;exact rt b
 refine sk q (aR kN (fun(z:Unit)=>[]) (fun z=>H) (fun z=>(some true)=some r) ?_ ?_)
 ·intro N t;refine Y4 ?_;obtain⟨j,k,b⟩:=bZ b;refine bD (tl [0,1]) (fun(z:Nat)=>[(5,vi z)]) (fun z=>H) (fun z=>a0.l.length-z) (fun z=>Option.bind (sn f (a0.l.drop z) z ) j=some r) 0 b wA ?_;rintro g b O u;refine ar fun P v=>Y3 ?_;refine aT Z7.c a0 fun Q=>Y2 ?_
  refine ah.bL (fun l=>Option.bind (sn f l g ) j=some r) b rfl (fun R m w b=>?_) (fun w b=>?_)
  ·rw [sn] at b;refine sk v (ar fun S y=>Y4 ?_);obtain⟨U,B,b⟩:=vO m b;refine Sd (ix Z7.c g B) (Y3 ?_);obtain⟨W,C,b⟩:=qO rfl b;refine Sd (ix Z7.c g C) (Y6 ?_);refine bx 7 _ rfl (kl [0,1,5,6]) ?_;refine bx 6 _ rfl (kl [0,1,5,7]) ?_;refine Y8 ?_;refine Gk 33 ?_;refine Y1 ?_;refine Gk 35 ?_;obtain⟨X,E,b⟩:=e8 rfl b
   refine fE 34 36 rfl rfl rfl rfl rfl rfl (fun hC=>DZ (E hC)) ?_;refine Gk 37 ?_;refine Y3 ?_;refine Gk 41 ?_;refine Y1 ?_;refine Gk 43 ?_;refine e9 42 44 rfl rfl (fun hC=>NZ (TK rfl) rfl rfl rfl) ?_;refine Y3 ?_;refine Gk 48 ?_;refine Y1 ?_;refine Gk 50 ?_;obtain⟨Y,F,b⟩:=e8 rfl b;refine fE 49 51 rfl rfl rfl rfl rfl rfl (fun hC=>Is (F hC)) ?_;refine Gk 52 ?_;refine Y3 ?_;refine Gk 56 ?_
   refine Y1 ?_;refine Gk 58 ?_;obtain⟨Z,G,b⟩:=e8 (Bc _ _) b;refine fE 57 59 rfl rfl rfl rfl rfl rfl (fun hC=>Bb (G hC)) ?_;refine Gk 60 ?_;refine Y2 ?_;refine cO b (fun I b=>?_) (fun I b=>?_)
   ·refine Y3 ?_;exact rs (ku k b:)
   refine sk y (Y5 ?_);exact u _ (g+1) wA b (dl m)
  rw [sn] at b;have b:=ku k b;refine ah.exit ?_;obtain⟨aa,J,b⟩:=bW b;exact t _ () wA (ku J b:)
 rintro _ b;refine Y3 ?_;exact rt b
def sr (m:ag):List Z6->Nat->Option (Unit ⊕ Bool)
 | [],g=>some (Sum.inl ())
 | p::q,g=>on (p) fun b=>(m.an.l[g]?).bind fun f=>aY (!(!(b.aa==f.aa))) (qo b.ax f.ax) false fun j=>aY (!((!(b.aa==f.aa))||(!j))) (sj b.aM f.aM) false fun k=>aY (!(((!(b.aa==f.aa))||(!j))||(!k))) (sq b.az f.az) false fun r=>bif ((((!(b.aa==f.aa))||(!j))||(!k))||(!r)) then(some (Sum.inr false)) else(sr m (q) (g+1) )
def qt (j:ag):List Z8->Nat->Option (Unit ⊕ Bool)
 | [],b=>some (Sum.inl ())
 | k::m,b=>on (k) fun f=>(j.au.l[b]?).bind fun g=>on (bif !(!(f.aa==g.aa)) then k else Z8.zero) fun p=>aY (!(!(f.aa==g.aa))) (j.au.l[b]?) Z8.zero fun q=>aY (!(!(f.aa==g.aa))) (sj p.aM q.aM) false fun r=>bif ((!(f.aa==g.aa))||(!r)) then(some (Sum.inr false)) else(qt j (m) (b+1) )
def yK (a0:ag) (b:ag):Option Bool:=aY (!((!decide (a0.ak=b.ak))||(!(a0.aa==b.aa)))) (yL a0.aH b.aH) false fun f=>aY (!(((!decide (a0.ak=b.ak))||(!(a0.aa==b.aa)))||(!f))) (sj a0.aM b.aM) false fun x5=>bif ((((((!decide (a0.ak=b.ak))||(!(a0.aa==b.aa)))||(!f))||(!x5))||(!decide (((a0.an.l.length:Nat):Int)=((b.an.l.length:Nat):Int))))||(!decide (((a0.au.l.length:Nat):Int)=((b.au.l.length:Nat):Int)))) then(some false) else(Option.bind (sr b a0.an.l 0 ) fun g=>match g with|Sum.inl _=>(on (()) fun _=>Option.bind (qt b a0.au.l 0 ) fun j=>match j with|Sum.inl _=>(on (()) fun _=>(sq a0.ay b.ay).bind fun k=>some k)|Sum.inr m=>(some m))|Sum.inr p=>(some p))
theorem QJ {a0 f r}(b:yK a0 f=some r) (H:af) :AC Tryz.prog 24 [.agg (ag.c a0),.agg (ag.c f)] H (RT (.a (.d (.bool r))) H):=by
 unfold yK at b;refine AC.oW 142 [.tmp 4] Tryz.call24 Tryz.func24 ?_;refine Y5 ?_;refine ar fun al v=>Y8 ?_;refine Gk 15 ?_;refine Y1 ?_;refine Gk 17 ?_;refine G2 16 18 rfl rfl BS ?_;refine Y3 ?_;refine Gk 22 ?_;refine Y1 ?_;refine Gk 24 ?_;obtain⟨am,w,b⟩:=eE rfl b;refine fE 23 25 rfl rfl rfl rfl rfl rfl (fun hC=>QK (w hC)) ?_;refine Gk 26 ?_;refine Y3 ?_;refine Gk 30 ?_;refine Y1 ?_
 refine Gk 32 ?_;obtain⟨x5,y,b⟩:=eE (Bc _ _) b;refine fE 31 33 rfl rfl rfl rfl rfl rfl (fun hC=>Bb (y hC)) ?_;refine Gk 34 ?_;refine Y3 ?_;refine Gk 38 ?_;refine bG 39 rfl (fun hC=>dK Z6.c a0.an) ?_;refine Y1 ?_;refine Gk 41 ?_;refine bG 42 rfl (fun hC=>dK Z6.c f.an) ?_;refine G2 40 43 rfl rfl BI ?_;refine Y3 ?_;refine Gk 47 ?_;refine bG 48 rfl (fun hC=>dK Z8.c a0.au) ?_
 refine Y1 ?_;refine Gk 50 ?_;refine bG 51 rfl (fun hC=>dK Z8.c f.au) ?_;refine G2 49 52 rfl rfl BI ?_;refine Y2 ?_;refine cE b (fun B b=>?_) (fun B b=>?_)
 ·refine Y3 ?_;exact rt b
 refine sk v (aR (tl [2,3]) (fun(z:Unit)=>[]) (fun z=>H) (fun z=>(Option.bind (qt f a0.au.l 0 ) fun C=>match C with|Sum.inl _=>(on (()) fun _=>(sq a0.ay f.ay).bind fun j=>some j)|Sum.inr E=>(some E))=some r) ?_ ?_)
 ·intro ao F;refine Y4 ?_;obtain⟨p,q,b⟩:=bZ b;refine bD (tl [2,3]) (fun(z:Nat)=>[(5,vi z)]) (fun z=>H) (fun z=>a0.an.l.length-z) (fun z=>Option.bind (sr f (a0.an.l.drop z) z ) p=some r) 0 b wA ?_;rintro k b ap G;refine ar fun av I=>Y4 ?_;refine aT Z6.c a0.an fun aw=>Y2 ?_
  refine ah.bL (fun l=>Option.bind (sr f l k ) p=some r) b rfl (fun ax s J b=>?_) (fun J b=>?_)
  ·rw [sr] at b;refine sk I (ar fun az K=>Y5 ?_);obtain⟨aB,L,b⟩:=vO s b;refine Sd (ix Z6.c k L) (Y4 ?_);obtain⟨aC,M,b⟩:=qO rfl b;refine Sd (ix Z6.c k M) (Y6 ?_);refine bx 7 _ rfl (kl [2,3,5,6]) ?_;refine bx 6 _ rfl (kl [2,3,5,7]) ?_;refine Y8 ?_;refine Gk 78 ?_;refine Y1 ?_;refine Gk 80 ?_;obtain⟨aD,N,b⟩:=e8 rfl b
   refine fE 79 81 rfl rfl rfl rfl rfl rfl (fun hC=>DZ (N hC)) ?_;refine Gk 82 ?_;refine Y3 ?_;refine Gk 86 ?_;refine Y1 ?_;refine Gk 88 ?_;obtain⟨aE,O,b⟩:=e8 (Bc _ _) b;refine fE 87 89 rfl rfl rfl rfl rfl rfl (fun hC=>Bb (O hC)) ?_;refine Gk 90 ?_;refine Y3 ?_;refine Gk 94 ?_;refine Y1 ?_;refine Gk 96 ?_;obtain⟨aF,P,b⟩:=e8 rfl b
   refine fE 95 97 rfl rfl rfl rfl rfl rfl (fun hC=>It (P hC)) ?_;refine Gk 98 ?_;refine Y2 ?_;refine cO b (fun Q b=>?_) (fun Q b=>?_)
   ·refine Y3 ?_;exact rs (ku q b:)
   refine sk K (Y5 ?_);exact G _ (k+1) wA b (dl s)
  rw [sr] at b;have b:=ku q b;refine ah.exit ?_;obtain⟨aG,R,b⟩:=bW b;exact F _ () wA (ku R b:)
 rintro _ b;refine aR (tl [2,3]) (fun(z:Unit)=>[]) (fun z=>H) (fun z=>((sq a0.ay f.ay).bind fun j=>some j)=some r) ?_ ?_
 ·intro aH S;refine Y4 ?_;obtain⟨t,u,b⟩:=bZ b;refine bD (tl [2,3]) (fun(z:Nat)=>[(8,vi z)]) (fun z=>H) (fun z=>a0.au.l.length-z) (fun z=>Option.bind (qt f (a0.au.l.drop z) z ) t=some r) 0 b wA ?_;rintro g b aI U;refine ar fun aK W=>Y4 ?_;refine aT Z8.c a0.au fun aL=>Y2 ?_
  refine ah.bL (fun l=>Option.bind (qt f l g ) t=some r) b rfl (fun aM m X b=>?_) (fun X b=>?_)
  ·rw [qt] at b;refine sk W (ar fun aP Y=>Y5 ?_);obtain⟨aQ,Z,b⟩:=vO m b;refine Sd (ix Z8.c g Z) (Y5 ?_);obtain⟨aU,aa,b⟩:=qO rfl b;refine Sd (ix Z8.c g aa) (Y5 ?_);refine dZ 122 ?_;refine Y1 ?_;obtain⟨aV,ab,b⟩:=ej (fun _=>m) b;refine jF 123 124 rfl rfl (fun hC=>ix Z8.c g (ab hC)) ?_;refine dZ 125 ?_;refine dZ 126 ?_;refine Y1 ?_;refine dZ 128 ?_;refine Y1 ?_
   obtain⟨aW,ad,b⟩:=e8 rfl b;refine jF 129 130 rfl rfl (fun hC=>ix Z8.c g (ad hC)) ?_;refine dZ 131 ?_;refine dZ 132 ?_;obtain⟨aX,ae,b⟩:=e8 (Bc _ _) b;refine vN 127 133 rfl rfl rfl rfl rfl rfl (fun hC=>Bb (ae hC)) ?_;refine dZ 134 ?_;refine Y2 ?_;refine cO b (fun ai b=>?_) (fun ai b=>?_)
   ·refine Y3 ?_;exact rs (ku u b:)
   refine sk Y (Y5 ?_);exact U _ (g+1) wA b (dl m)
  rw [qt] at b;have b:=ku u b;refine ah.exit ?_;obtain⟨aY,aj,b⟩:=bW b;exact S _ () wA (ku aj b:)
 rintro _ b;refine Y5 ?_;obtain⟨j,ak,b⟩:=qT rfl b;refine Sc rfl rfl (It ak) (Y2 ?_);exact rt b
def su (f:ai):List ag->Nat->Option (Unit ⊕ Bool)
 | [],b=>some (Sum.inl ())
 | g::j,b=>on (g) fun k=>(f.aj.l[b]?).bind fun m=>(yK k m).bind fun p=>bif (!p) then(some (Sum.inr false)) else(su f (j) (b+1) )
def yM (a0:ai) (b:ai):Option Bool:=bif (!decide (((a0.aj.l.length:Nat):Int)=((b.aj.l.length:Nat):Int))) then(some false) else(Option.bind (su b a0.aj.l 0 ) fun f=>match f with|Sum.inl _=>(on (()) fun _=>some true)|Sum.inr g=>(some g))
theorem QL {a0 f r}(b:yM a0 f=some r) (H:af) :AC Tryz.prog 9 [.agg (ai.c a0),.agg (ai.c f)] H (RT (.a (.d (.bool r))) H):=by
 unfold yM at b;refine AC.oW 32 [.tmp 4] Tryz.call9 Tryz.func9 ?_;refine Y5 ?_;refine ar fun G p=>Y3 ?_;refine aT ag.c a0.aj fun I=>Y2 ?_;refine aT ag.c f.aj fun J=>Y2 ?_;refine cE b (fun q b=>?_) (fun q b=>?_)
 ·refine Y3 ?_;exact rt b
 refine sk p (aR kN (fun(z:Unit)=>[]) (fun z=>H) (fun z=>(some true)=some r) ?_ ?_)
 ·intro K s;refine Y4 ?_;obtain⟨j,k,b⟩:=bZ b;refine bD (tl [2,3]) (fun(z:Nat)=>[(5,vi z)]) (fun z=>H) (fun z=>a0.aj.l.length-z) (fun z=>Option.bind (su f (a0.aj.l.drop z) z ) j=some r) 0 b wA ?_;rintro g b L t;refine ar fun M u=>Y4 ?_;refine aT ag.c a0.aj fun N=>Y2 ?_
  refine ah.bL (fun l=>Option.bind (su f l g ) j=some r) b rfl (fun O m v b=>?_) (fun v b=>?_)
  ·rw [su] at b;refine sk u (ar fun P w=>Y5 ?_);obtain⟨Q,y,b⟩:=vO m b;refine Sd (ix ag.c g y) (Y4 ?_);obtain⟨R,B,b⟩:=qO rfl b;refine Sd (ix ag.c g B) (Y1 ?_);obtain⟨S,C,b⟩:=qO rfl b;refine cH rfl rfl (QJ C) (Y2 ?_);refine cO b (fun E b=>?_) (fun E b=>?_)
   ·refine Y3 ?_;exact rs (ku k b:)
   refine sk w (Y5 ?_);exact t _ (g+1) wA b (dl m)
  rw [su] at b;have b:=ku k b;refine ah.exit ?_;obtain⟨U,F,b⟩:=bW b;exact s _ () wA (ku F b:)
 rintro _ b;refine Y3 ?_;exact rt b
theorem QM:Ay Tryz.prog 62=some [.int .i64,.str]:=by kernel_rfl
def wm  :Option Bool:=some true
def wo (a0:(Sl Z5)) (j:(Sl Z5)) :Nat->Nat->Option Bool
 | 0,_=>none
 | k+1,b=>bif (decide (((b:Nat):Int)<((a0.l.length:Nat):Int))) then((a0.l[b]?).bind fun f=>(j.l[b]?).bind fun g=>bif (!(decide (f.yu=g.yu)&&((f.yw==g.yw)&&true))) then(some false) else((wo a0 j k) (b+1))) else(wm   )
def Bd (a0:(Sl Z5)) (b:(Sl Z5)):Option Bool:=bif (!decide (((a0.l.length:Nat):Int)=((b.l.length:Nat):Int))) then(some false) else(wo a0 b (a0.l.length+1) 0)
theorem QN {a0 f w0 k r}(b:Bd a0 f=some r) (H:af) :AC Tryz.prog 10 [.d (Sl.d 2 Z5.c w0 a0),.d (Sl.d 2 Z5.c k f)] H (RT (.a (.d (.bool r))) H):=by
 unfold Bd at b;refine AC.oW 26 [.tmp 4] Tryz.call10 Tryz.func10 ?_;refine Y3 ?_;refine ar fun C m=>Y2 ?_;refine aT Z5.c a0 fun E=>Y1 ?_;refine aT Z5.c f fun F=>Y2 ?_;refine cE b (fun p b=>?_) (fun p b=>?_)
 ·refine Y3 ?_;exact rt b
 refine sk m (aR kN (fun(z:Unit)=>[]) (fun z=>H) (fun z=>wm =some r) ?_ ?_)
 ·intro G q;refine Y4 ?_;refine bD (tl [0,1]) (fun(z:Nat×Nat)=>[(5,vi z.2)]) (fun z=>H) (fun z=>z.1) (fun z=>wo a0 f z.1 z.2=some r) ((a0.l.length+1),0) b wA ?_;rintro ⟨g,j⟩ b I s;cases g with
  | zero=>cases b
  | succ g =>
    rw [wo] at b;refine ar fun J t=>Y3 ?_;refine aT Z5.c a0 fun K=>Y2 ?_;refine cE b (fun u b=>?_) (fun u b=>?_)
    ·refine sk t (ar fun L v=>Y4 ?_);obtain⟨M,w,b⟩:=bO b;refine Sd (ix Z5.c j w) (Y3 ?_);obtain⟨N,y,b⟩:=bO b;refine Sd (ix Z5.c j y) (Y1 ?_);refine aN.s0 (Oc QM rfl rfl rfl rfl) rfl ?_;refine Y1 ?_;refine cE b (fun B b=>?_) (fun B b=>?_)
     ·refine Y3 ?_;exact rt b
     refine sk v (Y5 ?_);exact s _ (g,(j+1)) wA b (nS _)
    refine ah.exit ?_;exact q _ () wA b
 rintro _ b;unfold wm at b;refine Y3 ?_;exact rt b
def uE (j:(Sl Z5)):List Z5->Nat->Option (Unit ⊕ Bool)
 | [],b=>some (Sum.inl ())
 | k::m,b=>on (k) fun f=>(j.l[b]?).bind fun g=>bif (!(decide (f.yu=g.yu)&&((f.yw==g.yw)&&true))) then(some (Sum.inr false)) else(uE j (m) (b+1) )
theorem QO {a0 k:Sl Z5}(g:(Unit ⊕ Bool)->Option Bool) (m:∀(f:Nat) (b:Nat),wm   =g (Sum.inl ())) (p:∀e:Bool,some e=g (Sum.inr e)):∀(f:Nat) (b:Nat),(0<f/\a0.l.length<b+f)->wo a0 k f b=Option.bind (uE k (a0.l.drop b) b ) g:=by
 intro f;induction f with
 | zero=>intro b hn; exact absurd hn.1 (by omega)
 | succ f q =>
  intro b hn;rw [wo];by_cases bl:b<a0.l.length
  ·obtain⟨r,j⟩:=Qa bl;rw [Q.nr j,uE];refine QT bl ?_;refine Q.qd j fun s t=>?_;refine Q.AN rfl fun u=>?_;refine Q.oG ?_ ?_
   ·all_goals exact p _
   all_goals exact q _ ⟨by omega,by omega⟩
  rw [dL (by omega),uE];refine QF bl ?_;exact m f b
def yN (a0:(Sl Z5)) (b:(Sl Z5)):Option Bool:=bif (!decide (((a0.l.length:Nat):Int)=((b.l.length:Nat):Int))) then(some false) else(Option.bind (uE b a0.l 0 ) fun f=>match f with|Sum.inl _=>(on (()) fun _=>some true)|Sum.inr g=>(some g))
theorem QR (a0:(Sl Z5)) (a1:(Sl Z5)):Bd a0 a1=yN a0 a1:=by
 unfold Bd yN;refine Qs ?_;refine Q.oG ?_ ?_
 ·all_goals rfl
 refine Q.yo fun f b=>?_;refine QO  f ?_ ?_ _ _ ⟨Nat.succ_pos _,by omega⟩
 ·intro l m;refine Qe (b _) ?_;try dsimp only
  refine Q.ym fun g j=>?_;have k:wm  =g ():=by
   refine Qe (j _) ?_;unfold wm;all_goals rfl
  all_goals exact k
 intro p;refine Qe (b _) ?_;try dsimp only
 all_goals rfl
def yO (a0:ai) (f:(Sl Bs)) (g:(Sl Bs)):Option Bool:=(yP a0).bind fun p=>bif (((!p)||(decide ((20:Int)<((f.l.length:Nat):Int))))||(decide ((20:Int)<((g.l.length:Nat):Int)))) then((yQ).bind fun x7=>some x7) else((D6 a0 f g).bind fun j=>(yR a0 f g).bind fun k=>(yM j.1 k.1).bind fun b=>aY (b) (yN j.2 k.2) false fun m=>aY ((b&&m)) (yQ) false fun q=>some ((b&&m)&&q))
def D7 (a0:ai) (b:(Sl Bs)) (f:(Sl Bs)):Option Bool:=yO a0 b f
theorem QS (a0:ai) (a1:(Sl Bs)) (a2:(Sl Bs)):D7 a0 a1 a2=yO a0 a1 a2:=rfl
theorem QU {a0 f g j k oT gT r}(b:D7 a0 f g=some r) (H:af) (y:H gT=some oT) (z:iq Tryz.prog oT):AC Tryz.prog 3 [.agg (ai.c a0),.d (Sl.d 1 aB j f),.d (Sl.d 1 aB k g)] H (RT (.a (.d (.bool r))) H):=by
 unfold D7 yO at b;refine AC.oW 50 [.tmp 6] Tryz.call3 Tryz.func3 ?_;refine Y4 ?_;refine ar fun B l=>Y2 ?_;obtain⟨C,m,b⟩:=qT rfl b;refine Sc rfl rfl (QV m) (Y3 ?_);refine bG 15 rfl (fun hC=>dK aB f) ?_;refine Gk 16 ?_;refine Y3 ?_;refine bG 20 rfl (fun hC=>dK aB g) ?_;refine Gk 21 ?_;refine Y2 ?_;refine cE b (fun p b=>?_) (fun p b=>?_)
 ·refine Y1 ?_;obtain⟨x7,q,b⟩:=qT rfl b;refine s0 (eY rfl rfl (Iu (gT:=gT) (oT:=oT) q _ aA (by assumption))) rfl ?_;refine Y2 ?_;exact rt b
 refine sk l (Y4 ?_);obtain⟨E,s,b⟩:=qT rfl b;refine s0 (eY rfl rfl (Iv (gT:=gT) (oT:=oT) s _ aA (by assumption))) rfl ?_;refine Y7 ?_;refine bx 7 _ rfl (kl [1,2,3,8]) ?_;refine Y4 ?_;obtain⟨F,t,b⟩:=qT rfl b;refine Sc rfl rfl (QW t) (Y7 ?_);refine bx 9 _ rfl (kl [7,8,10]) ?_;refine Y3 ?_;obtain⟨G,u,b⟩:=qT rfl b;refine Sc rfl rfl (QL u) (Y3 ?_)
 obtain⟨I,v,b⟩:=eE (QR _ _) b;refine fE 43 44 rfl rfl rfl rfl rfl rfl (fun hC=>QN (v hC)) ?_;refine Y2 ?_;obtain⟨J,w,b⟩:=eE rfl b;refine gC rfl rfl (fun hC=>eY rfl rfl (Iu (gT:=gT) (oT:=oT) (w hC) _ aA (by assumption))) rfl ?_;refine Y3 ?_;exact rt b
end Go.Proofs
namespace Go.Proofs
open Go Go.Ab
theorem QX (a:aL) (g:a.aK.l.length<=1048576) (l:List Int) (i:Nat) (h:i+l.length=a.aK.l.length):Ok (sv a l i):=by
 induction l generalizing i with
 | nil=>exact bq.some _
 | cons x r f =>
  simp only [List.length_cons] at h;have hr:=f (i+1) (by omega);rw [sv];simp only [on];refine bq.cond (fun _=>bq.some _) fun _=>?_;by_cases hi:0<i
  ·have h1:decide ((0:Int)<((i:Nat):Int))=true:=by simpa using hi
   obtain⟨v,hv⟩:=PK (l:=a.aK.l) (n:=(i:Int)-1) (by omega);simp only [h1,cond_true,Bool.true_and,HM (a:=(i:Int)) (b:=1) (by omega)];cases decide (x=1)<;>simp only [aY,hv,if_true,oB,Bool.false_eq_true,if_false,Bool.false_and,cond_false]
   ·exact hr
   ·(repeat' (first|exact bq.some _|assumption|intro _|(with_reducible first|apply bq.bind|apply bq.guard|apply bq.cond|apply bq.on)|split))
  ·have h1:decide ((0:Int)<((i:Nat):Int))=false:=by simpa using hi
   simp only [h1,Bool.false_and,aY,Bool.false_eq_true,if_false,cond_false];exact hr
theorem Iw (a:aL) (b:a.aK.l.length<=1048576):Ok (wq a):=by
 unfold wq
 (repeat' (first|exact bq.some _|assumption|intro _|(with_reducible first|apply bq.bind|apply bq.guard|apply bq.cond|apply bq.on)|split))
 exact QX a b _ _ (by simp)
theorem QY (k:Z9->Option Int) (l:List Z9) (s:Int) (hk:∀x∈l,∃r,k x=some r/\1<=r/\r<=x.sz) (m:0<=s) (b:s+((l.map Z9.sz).sum:Nat)<=1152921504606846976):∃r,sw k l s=some r/\s<=r/\r<=s+((l.map Z9.sz).sum:Nat):=by
 induction l generalizing s with
 | nil=>exact⟨s,rfl,by simp,by simp⟩
 | cons x r f =>
  obtain⟨v,h1,p,q⟩:=hk x List.mem_cons_self;simp only [List.map_cons,List.sum_cons] at b ⊢;rw [sw];simp only [on,h1,oB];rw [fQ (by omega)];simp only [oB];obtain⟨w,g,t,u⟩:=f (s+v) (fun y j=>hk y (List.mem_cons_of_mem _ j)) (by omega) (by omega);exact⟨w,g,by omega,by omega⟩
theorem Z9.mg {v x:Z9}(h:x∈v.aG.l):x.sz<v.sz:=by
 have h1:=v.bA; have b:=Sl.dA (f:=Z9.sz) h; omega
theorem Z9.Ix (v:Z9):2+(v.aG.l.map Z9.sz).sum<=v.sz:=by
 have h1:=v.bA; have b:Sl.sz Z9.sz v.aG=1+(v.aG.l.map Z9.sz).sum:=rfl; omega
theorem QZ (n:Nat):∀v:Z9,v.sz<n->v.sz<=1073741824->∃r,nx n v=some r/\1<=r/\r<=v.sz:=by
 induction n with
 | zero=>intro v h; omega
 | succ n b =>
  intro v h g;have h0:=v.Ix;obtain⟨w,f,j,k⟩:=QY (nx n) v.aG.l 1 (fun x hx=>by have:=Z9.mg hx; exact b x (by omega) (by omega)) (by omega) (by omega);rw [nx,f];exact⟨w,rfl,by omega,by omega⟩
theorem Q0 (v:Z9) (h:v.sz<=1048576):∃r,Iy v=some r/\1<=r/\r<=v.sz:=QZ F0 v (by rw [gz]; omega) (by omega)
theorem Q1 (k:Z9->Option Int) (l:List Z9) (s b:Int) (hk:∀x∈l,∃r,k x=some r/\1<=r/\r<=b) (j:0<=s/\s<=b):∃r,sx k l s=some r/\0<=r/\r<=b:=by
 induction l generalizing s with
 | nil=>exact⟨s,rfl,by omega,by omega⟩
 | cons x r f =>
  obtain⟨v,h1,m,p⟩:=hk x List.mem_cons_self;rw [sx];simp only [on,h1,oB];exact f _ (fun y g=>hk y (List.mem_cons_of_mem _ g)) (by split<;>omega)
theorem Q2 (n:Nat):∀v:Z9,v.sz<n->v.sz<=1073741824->∃r,ny n v=some r/\1<=r/\r<=v.sz:=by
 induction n with
 | zero=>intro v h; omega
 | succ n b =>
  intro v h k;have h0:=v.Ix;obtain⟨w,f,m,p⟩:=Q1 (ny n) v.aG.l 0 (v.sz-1:Nat) (fun x hx=>by have:=Z9.mg hx; obtain⟨r,g,j,q⟩:=b x (by omega) (by omega); exact⟨r,g,j,by omega⟩) (by omega);rw [ny,f];simp only [on,oB];rw [fQ (by omega)];exact⟨w+1,rfl,by omega,by omega⟩
theorem Q3 (v:Z9) (h:v.sz<=1048576):Ok (Iz v):=by
 obtain⟨r,hr,_⟩:=Q2 F0 v (by rw [gz]; omega) (by omega); exact⟨r,hr⟩
theorem Q4 (a:Sl Bs) (x:Bs) (m i:Nat) (h:i+m<=a.l.length):Ok (sA a x m i):=by
 induction m generalizing i with
 | zero=>exact bq.some _
 | succ m b =>
  rw [sA]
  (repeat' (first|exact bq.some _|assumption|intro _|(with_reducible first|apply bq.bind|apply bq.guard|apply bq.cond|apply bq.on)|split))
  ·exact PL (by omega)
  ·exact b _ (by omega)
theorem Q5 (a:Sl Bs) (l:List Bs) (i:Nat) (h:i+l.length=a.l.length):Ok (qu a l i):=by
 induction l generalizing i with
 | nil=>exact bq.some _
 | cons x r b =>
  simp only [List.length_cons] at h;rw [qu]
  (repeat' (first|exact bq.some _|assumption|intro _|(with_reducible first|apply bq.bind|apply bq.guard|apply bq.cond|apply bq.on)|split))
  ·exact Q4 a x _ _ (by omega)
  ·exact b _ (by omega)
theorem Q6 (a:Sl Bs):Ok (yS a):=by
 unfold yS
 (repeat' (first|exact bq.some _|assumption|intro _|(with_reducible first|apply bq.bind|apply bq.guard|apply bq.cond|apply bq.on)|split))
 exact Q5 a _ _ (by simp)
theorem Q7 (v:Z9) (b:Bool):Ok (sC v b):=by
 unfold sC
 (repeat' (first|exact bq.some _|assumption|intro _|(with_reducible first|apply bq.bind|apply bq.guard|apply bq.cond|apply bq.on)|split))
 exact Q6 _
theorem Q8 (b:Bool) (k:Z9->Bool->Option Bool) (l:List Z9) (hk:∀x∈l,Ok (k x b)):Ok (kA b k l):=by
 induction l with
 | nil=>exact bq.some _
 | cons x r f =>
  rw [kA]
  (repeat' (first|exact bq.some _|assumption|intro _|(with_reducible first|apply bq.bind|apply bq.guard|apply bq.cond|apply bq.on)|split))
  ·rename_i h; rw [h]; exact hk x List.mem_cons_self
  ·exact f fun y g=>hk y (List.mem_cons_of_mem _ g)
theorem Q9 (n:Nat):∀(v:Z9) (b:Bool),v.sz<n->Ok (iu n v b):=by
 induction n with
 | zero=>intro v b h; omega
 | succ n f =>
  intro v b h;rw [iu]
  (repeat' (first|exact bq.some _|assumption|intro _|(with_reducible first|apply bq.bind|apply bq.guard|apply bq.cond|apply bq.on)|split))
  ·exact Q7 _ _
  ·exact Q8 b _ _ fun x hx=>f x b (by have:=Z9.mg hx; omega)
theorem IA (v:Z9) (h:v.sz<=1048576):Ok (gN v):=by
 unfold gN;obtain⟨r,hr,_⟩:=Q0 v h
 (repeat' (first|exact bq.some _|assumption|intro _|(with_reducible first|apply bq.bind|apply bq.guard|apply bq.cond|apply bq.on)|split))
 ·exact⟨r,hr⟩
 ·exact Q3 v h
 ·exact Q9 F0 v true (by rw [gz]; omega)
theorem Q_ (k:Z9->Option Bool) (l:List Z9) (hk:∀x∈l,Ok (k x)):Ok (sD k l):=by
 induction l with
 | nil=>exact bq.some _
 | cons x r b =>
  rw [sD]
  (repeat' (first|exact bq.some _|assumption|intro _|(with_reducible first|apply bq.bind|apply bq.guard|apply bq.cond|apply bq.on)|split))
  ·rename_i h; rw [h]; exact hk x List.mem_cons_self
  ·exact b fun y f=>hk y (List.mem_cons_of_mem _ f)
theorem Ra (n:Nat):∀(v:Z9),v.sz<n->Ok (oS n v):=by
 induction n with
 | zero=>intro v h; omega
 | succ n b =>
  intro v h;rw [oS]
  (repeat' (first|exact bq.some _|assumption|intro _|(with_reducible first|apply bq.bind|apply bq.guard|apply bq.cond|apply bq.on)|split))
  exact Q_ _ _ fun x hx=>b x (by have:=Z9.mg hx; omega)
theorem IB (v:Z9) (h:v.sz<=1048576):Ok (D8 v):=Ra F0 v (by rw [gz]; omega)
theorem bU.Rb (a:bU):a.ir.sz<=a.sz:=by have:=a.bA; omega
theorem aD.Rc {x:aD}{a:bU}(h:a∈x.az.l):a.sz<=x.sz:=by have:=x.bA; have:=Sl.dA (f:=bU.sz) h; omega
theorem Re (b:aD) (l:List bU) (h:∀a∈l,a.sz<=1048576):Ok (uF b l):=by
 induction l with
 | nil=>exact bq.some _
 | cons x r f =>
  have h1:=h x List.mem_cons_self; have j:=x.Rb;rw [uF]
  (repeat' (first|exact bq.some _|assumption|intro _|(with_reducible first|apply bq.bind|apply bq.guard|apply bq.cond|apply bq.on)|split))
  all_goals first|exact f fun y g=>h y (List.mem_cons_of_mem _ g)|(subst_vars; first|exact IA _ (by omega)|exact IB _ (by omega))
theorem Rf (l:List aD) (h:∀a∈l,a.sz<=1048576):Ok (uG l):=by
 induction l with
 | nil=>exact bq.some _
 | cons x r b =>
  have h1:=h x List.mem_cons_self;rw [uG]
  (repeat' (first|exact bq.some _|assumption|intro _|(with_reducible first|apply bq.bind|apply bq.guard|apply bq.cond|apply bq.on)|split))
  ·exact Re x _ fun a f=>by have:=aD.Rc f; omega
  ·exact b fun y g=>h y (List.mem_cons_of_mem _ g)
theorem Be (s:Sl aD) (h:Sl.sz aD.sz s<=1048576):Ok (sF s):=by
 unfold sF
 (repeat' (first|exact bq.some _|assumption|intro _|(with_reducible first|apply bq.bind|apply bq.guard|apply bq.cond|apply bq.on)|split))
 exact Rf _ fun a b=>by have:=Sl.dA (f:=aD.sz) b; omega
theorem aL.uH (r:aL):r.aK.l.length<=r.sz:=by have:=r.bA; have:=Sl.dP (f:=fun _:Int=>1) r.aK (fun _=>Nat.le_refl _); omega
theorem Rg (l:List Z7) (h:∀a∈l,a.sz<=1048576):Ok (mh l):=by
 induction l with
 | nil=>exact bq.some _
 | cons x r b =>
  have h1:=h x List.mem_cons_self; have g:=x.bA; have j:=x.ax.uH;rw [mh]
  (repeat' (first|exact bq.some _|assumption|intro _|(with_reducible first|apply bq.bind|apply bq.guard|apply bq.cond|apply bq.on)|split))
  all_goals first|exact b fun y f=>h y (List.mem_cons_of_mem _ f)|(subst_vars; first|exact Iw _ (by omega)|exact Be _ (by omega)|exact IA _ (by omega)|exact IB _ (by omega))
theorem IC (s:Sl Z7) (h:Sl.sz Z7.sz s<=1048576):Ok (qv s):=by
 unfold qv
 (repeat' (first|exact bq.some _|assumption|intro _|(with_reducible first|apply bq.bind|apply bq.guard|apply bq.cond|apply bq.on)|split))
 exact Rg _ fun a b=>by have:=Sl.dA (f:=Z7.sz) b; omega
theorem Rh (l:List Z6) (h:∀a∈l,a.sz<=1048576):Ok (mi l):=by
 induction l with
 | nil=>exact bq.some _
 | cons x r b =>
  have h1:=h x List.mem_cons_self; have s:=x.bA; have t:=x.ax.uH;have hz:Z6.zero.ax.aK.l.length<=1048576:=by decide
  rw [mi];simp only [on];cases ff x.aa<;>simp only [Bool.not_true,Bool.not_false,cond_true,cond_false,Bool.or_false,Bool.or_true,Bool.true_or,Bool.false_or]
  ·simp [aY]; exact bq.some _
  ·obtain⟨f,g⟩:=IC x.az (by omega);obtain⟨j,k⟩:=Iw x.ax (by omega);obtain⟨m,p⟩:=Be x.aM (by omega);have hr:=b fun y q=>h y (List.mem_cons_of_mem _ q);cases f<;>cases j<;>cases m<;>simp [aY,g,k,p]<;>first|exact bq.some _|exact hr
theorem Ri (s:Sl Z6) (h:Sl.sz Z6.sz s<=1048576):Ok (oU s):=by
 unfold oU
 (repeat' (first|exact bq.some _|assumption|intro _|(with_reducible first|apply bq.bind|apply bq.guard|apply bq.cond|apply bq.on)|split))
 exact Rh _ fun a b=>by have:=Sl.dA (f:=Z6.sz) b; omega
theorem Rj (b:Bool) (l:List Z8) (h:∀a∈l,a.sz<=1048576):Ok (sG b l):=by
 induction l with
 | nil=>exact bq.some _
 | cons x r f =>
  have h1:=h x List.mem_cons_self; have k:=x.bA;rw [sG];simp only [on];cases ff x.aa<;>simp only [Bool.not_true,Bool.not_false,cond_true,cond_false,Bool.or_false,Bool.or_true,Bool.true_or,Bool.false_or]
  ·simp [aY]; exact bq.some _
  ·obtain⟨m,g⟩:=Be x.aM (by omega);have hr:=f fun y j=>h y (List.mem_cons_of_mem _ j);simp only [aY,g,if_true,oB]
   (repeat' (first|exact bq.some _|assumption|intro _|(with_reducible first|apply bq.bind|apply bq.guard|apply bq.cond|apply bq.on)|split))
theorem Rk (s:Sl Z8) (b:Bool) (h:Sl.sz Z8.sz s<=1048576):Ok (sI s b):=by
 unfold sI
 (repeat' (first|exact bq.some _|assumption|intro _|(with_reducible first|apply bq.bind|apply bq.guard|apply bq.cond|apply bq.on)|split))
 exact Rj _ _ fun a g=>by have:=Sl.dA (f:=Z8.sz) g; omega
theorem Rm (x:ag) (h:x.sz<=1048576):Ok (lq x):=by
 have b:=x.bA;unfold lq
 (repeat' (first|exact bq.some _|assumption|intro _|(with_reducible first|apply bq.bind|apply bq.guard|apply bq.cond|apply bq.on)|split))
 all_goals first|exact Be _ (by omega)|exact Ri _ (by omega)|exact Rk _ _ (by omega)|exact IC _ (by omega)
theorem Rn (l:List ag) (h:∀a∈l,a.sz<=1048576):Ok (nA l):=by
 induction l with
 | nil=>exact bq.some _
 | cons x r b =>
  rw [nA]
  (repeat' (first|exact bq.some _|assumption|intro _|(with_reducible first|apply bq.bind|apply bq.guard|apply bq.cond|apply bq.on)|split))
  ·subst_vars; exact Rm _ (h _ List.mem_cons_self)
  ·exact b fun y f=>h y (List.mem_cons_of_mem _ f)
theorem ai.D9 {d:ai}{x:ag}(h:x∈d.aj.l):x.sz<=d.sz:=by have:=d.bA; have:=Sl.dA (f:=ag.sz) h; omega
theorem Ro (d:ai) (h:d.sz<=1048576):Ok (sJ d):=by
 unfold sJ
 (repeat' (first|exact bq.some _|assumption|intro _|(with_reducible first|apply bq.bind|apply bq.guard|apply bq.cond|apply bq.on)|split))
 exact Rn _ fun a b=>by have:=ai.D9 b; omega
theorem gp {α:Type}{c:Bool}{a b:Option α}{z:α}(h:cond c a b=some z):(c=true/\a=some z)\/(c=false/\b=some z):=by cases c; exact .inr ⟨rfl,h⟩; exact .inl ⟨rfl,h⟩
theorem fZ {α β:Type}{c:Bool}{o:Option α}{d:α}{k:α->Option β}{z:β}(h:aY c o d k=some z):(c=true/\∃v,o=some v/\k v=some z)\/(c=false/\k d=some z):=by
 cases c
 ·exact .inr ⟨rfl,h⟩
 ·cases b:o with
  | none=>rw [b] at h; cases h
  | some v=>rw [b] at h; exact .inl ⟨rfl,v,rfl,h⟩
theorem Ea (l:List Bs) (y:Bool) (h:nC l=Sum.inr y):y=false:=by
 induction l with
 | nil=>cases h
 | cons a r b =>
  rw [nC] at h;simp only [Ab.on] at h
  revert h
  cases (!ff a) with
  | true=>intro h; exact(Sum.inr.inj h).symm
  | false=>exact b
theorem Rp (l:List ag) (z:Unit ⊕ Bool) (h:nA l=some z):(z=Sum.inl ()/\∀x∈l,lq x=some true)\/z=Sum.inr false:=by
 induction l generalizing z with
 | nil=>rw [nA] at h; exact .inl ⟨(oJ h).symm,fun a f=>by cases f⟩
 | cons a r j =>
  rw [nA] at h;simp only [Ab.on] at h;obtain⟨x,g,h⟩:=bw h;cases x with
  | false=>simp at h; exact .inr h.symm
  | true =>
   simp only [Bool.not_true,cond_false] at h;rcases j z h with ⟨h1,k⟩|h1
   ·exact .inl ⟨h1,fun y b=>by rcases List.mem_cons.1 b with rfl|b; exact g; exact k y b⟩
   ·exact .inr h1
theorem Rq {d:ai}(h:sJ d=some true):∀x∈d.aj.l,lq x=some true:=by
 unfold sJ at h;rcases gp h with ⟨_,h⟩|⟨_,h⟩
 ·cases h
 ·obtain⟨z,g,h⟩:=bw h;rcases Rp _ _ g with ⟨_,h1⟩|rfl
  ·exact h1
  ·cases h
def Sm (x:ag):Prop:=x.an.l.length<=1000/\x.au.l.length<=1000/\x.aH.l.length<=1000/\x.ay.l.length<=1000/\∀f∈x.an.l,f.az.l.length<=1000
def fo (w:List Int):Bool:=w.head?==some 1
def gQ (w:List Int):Bool:=w.head?==some 2
def cn (s:Sl Int):Sl Int:=bif fo s.l then⟨s.nl,s.l.drop 1⟩ else s
def lu (t:aL):aL:=⟨t.aa,cn t.aK⟩
def uI (t:aL):aL:=⟨t.aa,⟨(cn t.aK).nl,(cn t.aK).l.drop 1⟩⟩
theorem ID {s:Sl Int}(h:ep s):oV s=some s:=by
 unfold oV;obtain⟨nl,l⟩:=s;cases nl with
 | true=>have:=h.1 rfl; simp only at this; subst this; rfl
 | false =>
  simp only [cond_false];rw [jE (by omega) (by have:=h.2; simp at this ⊢; omega)];simp
theorem wu (t:aL):iP t=fo t.aK.l:=by
 unfold iP fo on;cases t.aK.l with
 | nil=>rfl
 | cons a r=>simp; by_cases h:a=1<;>simp [h]
theorem Eb {w:List Int}(h:fo w=true):1<=w.length:=by cases w<;>simp [fo] at h ⊢
theorem Ec {α:Type}{s:Sl α}(n:Nat) (h:ep s):ep ⟨s.nl,s.l.drop n⟩:=⟨fun e=>by simp [h.1 e],by have:=h.2; simp; omega⟩
theorem Bf {s:Sl Int}(h:ep s):ep (cn s):=by
 unfold cn;cases fo s.l with
 | true=>exact Ec 1 h
 | false=>exact h
theorem Ed {t:aL}(h:ep t.aK):ep (uI t).aK:=Ec 1 (Bf h)
theorem Bg {t:aL}(h:ep t.aK):qw t=some (lu t):=by
 unfold qw lu cn on;simp only [wu];cases hn:fo t.aK.l with
 | true =>
  simp only [cond_true];rw [DN (Eb hn)];simp only [oB];rw [ID (Ec 1 h)]; rfl
 | false =>
  simp only [cond_false,oB];rw [ID h]; rfl
theorem Rr {t:aL}(h:ep t.aK):yT t=some (gQ (cn t.aK).l):=by
 unfold yT;rw [Bg h];simp only [oB,on,lu,gQ];cases (cn t.aK).l with
 | nil=>rfl
 | cons a r=>simp; by_cases h:a=2<;>simp [h]
theorem Bh {w:List Int}(h:gQ w=true):1<=w.length:=by cases w<;>simp [gQ] at h ⊢
theorem Ee {t:aL}(h:ep t.aK):sK t=some (bif gQ (cn t.aK).l then(uI t,true) else(⟨[],Sl.nil⟩,false)):=by
 unfold sK;rw [Rr h];simp only [oB];cases hl:gQ (cn t.aK).l with
 | false=>rfl
 | true =>
  simp only [Bool.not_true,cond_false,cond_true];rw [Bg h];simp only [oB,lu];rw [DN (Bh hl)];rfl
theorem Bi {t:aL}(h:gQ (cn t.aK).l=true):(uI t).aK.l.length<t.aK.l.length:=by
 have h1:=Bh h;have b:(cn t.aK).l.length<=t.aK.l.length:=by
  unfold cn; cases fo t.aK.l<;>simp
 simp [uI]; omega
theorem findAux (l:List ag) (s:Bs):lz s l=(match l.find? (fun t=>t.aa==s) with|some t=>Sum.inr (t,true)|none=>Sum.inl ()):=by
 induction l with
 | nil=>rfl
 | cons a r b =>
  rw [lz,List.find?_cons];simp only [on,b];cases a.aa==s<;>rfl
def bg (l:List ag) (s:Bs):ag×Bool:=match l.find? (fun t=>t.aa==s) with|some t=>(t,true)|none=>(ag.zero,false)
theorem jV (d:ai) (s:Bs):fL d s=bg d.aj.l s:=by
 unfold fL bg on;rw [findAux];cases d.aj.l.find? (fun t=>t.aa==s)<;>rfl
theorem yU (l:List ag) (s:Bs):(bg l s).1=ag.zero\/(bg l s).1∈l:=by
 unfold bg;cases h:l.find? (fun t=>t.aa==s) with
 | none=>exact .inl rfl
 | some t=>exact .inr (List.mem_of_find?_eq_some h)
theorem Rs (l:List Z6) (s:Bs):sM s l=(match l.find? (fun t=>t.aa==s) with|some t=>Sum.inr (t,true)|none=>Sum.inl ()):=by
 induction l with
 | nil=>rfl
 | cons a r b =>
  rw [sM,List.find?_cons];simp only [on,b];cases a.aa==s<;>rfl
def eW (l:List Z6) (s:Bs):Z6×Bool:=match l.find? (fun t=>t.aa==s) with|some t=>(t,true)|none=>(Z6.zero,false)
theorem Rt (t:ag) (s:Bs):yV t s=eW t.an.l s:=by
 unfold yV eW on;rw [Rs];cases t.an.l.find? (fun t=>t.aa==s)<;>rfl
theorem Ru (l:List Z7) (s:Bs):oZ s l=(match l.find? (fun t=>t.aa==s) with|some t=>Sum.inr (t,true)|none=>Sum.inl ()):=by
 induction l with
 | nil=>rfl
 | cons a r b =>
  rw [oZ,List.find?_cons];simp only [on,b];cases a.aa==s<;>rfl
def dz (l:List Z7) (s:Bs):Z7×Bool:=match l.find? (fun t=>t.aa==s) with|some t=>(t,true)|none=>(Z7.zero,false)
theorem yW (t:Sl Z7) (s:Bs):o4 t s=dz t.l s:=by
 unfold o4 dz on;rw [Ru];cases t.l.find? (fun t=>t.aa==s)<;>rfl
def Rv (d:ai):Prop:=∀x∈d.aj.l,x.an.l.length<=1048576/\x.ay.l.length<=1048576/\(∀f∈x.an.l,ep f.ax.aK/\f.az.l.length<=1048576/\∀i∈f.az.l,ep i.ax.aK)/\∀i∈x.ay.l,ep i.ax.aK
theorem aL.yX {r:aL}(h:r.sz<=1048576) (hw:r.wf):ep r.aK:=⟨hw.2.1.1,by have:=r.bA; have:=Sl.dP (f:=fun _:Int=>1) r.aK (fun _=>Nat.le_refl _); omega⟩
theorem Z7.yX {r:Z7}(h:r.sz<=1048576) (hw:r.wf):ep r.ax.aK:=aL.yX (by have:=r.bA; omega) (Z7.vQ hw)
theorem Rx {d:ai}(h:d.sz<=1048576) (hw:d.wf):Rv d:=by
 intro x hx;have h1:=x.bA; have g:=d.bA; have j:=Sl.dA (f:=ag.sz) hx;have k:=Sl.ja (f:=Z6.sz) x.an Z6.pos; have l:=Sl.ja (f:=Z7.sz) x.ay Z7.pos;have w:x.wf:=(ai.DT hw).2.2 x hx;refine⟨by omega,by omega,fun f b=>?_,fun i hi=>?_⟩
 ·have m:=Sl.dA (f:=Z6.sz) b; have p:=f.bA; have q:=Sl.ja (f:=Z7.sz) f.az Z7.pos;have wf:f.wf:=(ag.qh w).2.2 f b;exact⟨aL.yX (by omega) (Z6.vQ wf),by omega,fun i hi=>Z7.yX (by have:=Sl.dA (f:=Z7.sz) hi; omega) ((Z6.l9 wf).2.2 i hi)⟩
 ·exact Z7.yX (by have:=Sl.dA (f:=Z7.sz) hi; omega) ((ag.uy w).2.2 i hi)
theorem Ry (a:Bs):yy a=some (jW a):=by
 unfold yy jW Bj Bk on
 match a with
 | []=>rfl
 | [x]=>rfl
 | x::y::r =>
  have e:decide ((2:Int)<=(((x::y::r).length:Nat):Int))=true:=by simp; omega
  have f:decide (((([95,95]:Bs).length:Nat):Int)<=(((x::y::r).length:Nat):Int))=true:=by simp; omega
  have c:∀z:UInt8,decide (((z.toNat:Nat):Int)=95)=(z==95):=fun z=>by
   rw [show (z==95)=decide (z=95) from rfl]
   congr 1
   apply propext
   constructor
   ·intro h; apply UInt8.toNat_inj.1; simp at h ⊢; omega
   ·intro h; subst h; rfl
  have hl:(2:Int)<=(r.length:Nat)+1+1:=by omega
  have g:¬x=95->(x==95)=false:=fun h=>by simpa using h
  simp only [aY,e,f,if_true,oB,List.getElem?_cons_zero,List.getElem?_cons_succ,c,Bool.true_and,cond_true,List.length_cons,List.length_nil,List.take_succ_cons,List.take_zero];by_cases hx:x=95
  ·subst hx;by_cases b:y=95
   ·subst b; simp [hl]
   ·simp [hl,b]
  ·simp [hl,hx]
theorem filter_le {α:Type}{p q:α->Bool}{l:List α}(h:∀x∈l,p x=true->q x=true):(l.filter p).length<=(l.filter q).length:=by
 induction l with
 | nil=>simp
 | cons a r b =>
  have:=b fun x hx=>h x (List.mem_cons_of_mem _ hx);have h1:=h a List.mem_cons_self;simp only [List.filter_cons];cases f:p a<;>cases hq:q a<;>simp_all<;>omega
theorem filter_lt {α:Type}{p q:α->Bool}{l:List α}{y:α}(h:∀x∈l,p x=true->q x=true) (b:y∈l) (h1:p y=false) (f:q y=true):(l.filter p).length<(l.filter q).length:=by
 induction l with
 | nil=>cases b
 | cons a r g =>
  have j:=filter_le (l:=r) (p:=p) (q:=q) fun x hx=>h x (List.mem_cons_of_mem _ hx);simp only [List.filter_cons];rcases List.mem_cons.1 b with rfl|b
  ·simp [h1,f]; omega
  ·have:=g (fun x hx=>h x (List.mem_cons_of_mem _ hx)) b;have k:=h a List.mem_cons_self;cases m:p a<;>cases hq:q a<;>simp_all<;>omega
theorem Rz {l:List Bs}{s t:Bs}(h:t∈l):t∈cw l s:=by unfold cw; split<;>simp [h]
theorem RA (l:List Bs) (s:Bs):s∈cw l s:=by
 unfold cw; split
 ·rename_i h; simpa using h
 ·simp
theorem jN {α:Type}{c:Bool}{a b:Option α}{z:α}(h:cond c a b=some z):(c=true/\a=some z)\/(c=false/\b=some z):=by cases c; exact .inr ⟨rfl,h⟩; exact .inl ⟨rfl,h⟩
theorem AO {α β:Type}{c:Bool}{o:Option α}{d:α}{k:α->Option β}{z:β}(h:aY c o d k=some z):(c=true/\∃v,o=some v/\k v=some z)\/(c=false/\k d=some z):=by
 unfold aY at h;cases c with
 | true=>obtain⟨v,e,h⟩:=bw (by simpa using h); exact .inl ⟨rfl,v,e,h⟩
 | false=>exact .inr ⟨rfl,by simpa using h⟩
theorem IE (x:Int):((((decide ((97:Int)<=x)&&decide (x<=(122:Int)))||(decide ((65:Int)<=x)&&decide (x<=(90:Int))))||(decide ((48:Int)<=x)&&decide (x<=(57:Int))))||decide (x=(95:Int)))=(qi x||vS x):=by
 unfold qi vS;rw [Bool.eq_iff_iff];simp only [Bool.or_eq_true,Bool.and_eq_true,decide_eq_true_eq];constructor
 ·rintro (((h|h)|h)|h)
  ·exact .inl (.inl (.inr h))
  ·exact .inl (.inl (.inl h))
  ·exact .inr h
  ·exact .inl (.inr h)
 ·rintro (((h|h)|h)|h)
  ·exact .inl (.inl (.inr h))
  ·exact .inl (.inl (.inl h))
  ·exact .inr h
  ·exact .inl (.inr h)
theorem IF:∀(l:List UInt8) (i:Nat),0<i->qj l i=o8 l
 | [],_,_=>rfl
 | h::r,i,hi=>by
  have h0:decide (((i:Nat):Int)=0)=false:=dF (by omega);rw [qj,o8,IF r (i+1) (by omega)];simp only [Ab.on,h0,IE];cases qi ((h.toNat:Nat):Int)
  ·simp only [Bool.not_false,Bool.and_self,cond_true,Bool.true_and,Bool.false_or]
  ·rfl
theorem RB (x:Int) (h:qi x=true):((decide ((48:Int)<=x))&&(decide (x<=(57:Int))))=false:=by
 unfold qi at h;rw [Bool.and_eq_false_iff];simp only [Bool.or_eq_true,Bool.and_eq_true,decide_eq_true_eq] at h;by_cases b:x<=57
 ·left; apply dF; omega
 ·right; exact dF b
theorem wv (s:Bs):uJ s=some (ff s):=by
 unfold uJ ff;cases s with
 | nil=>rfl
 | cons h r =>
  have j:((h::r:Bs)==[])=false:=rfl;have k:decide ((((h::r:Bs).length:Nat):Int)<1)=false:=dF (by simp only [List.length_cons]; omega);rw [j,k];simp only [Bool.false_or];cases decide ((64:Int)<(((h::r:Bs).length:Nat):Int))
  ·simp only [Bool.not_false,aY,if_true,cond_false,Bool.true_and,Bool.false_or];rw [show ((h::r:Bs)[0]?)=some h from rfl];simp only [oB];rw [qj,o8,IF r 1 (by omega)];simp only [Ab.on,IE];generalize ((h.toNat:Nat):Int)=x;cases hl:qi x
   ·have l:vS x=(decide ((48:Int)<=x)&&decide (x<=(57:Int))):=rfl;rw [l];cases f:decide ((48:Int)<=x)<;>cases b:decide (x<=(57:Int))<;>simp [b]
   ·have g:=RB x hl;cases f:decide ((48:Int)<=x)<;>cases b:decide (x<=(57:Int))<;>rw [f,b] at g<;>simp [b] at g ⊢<;>(cases o8 r<;>rfl)
  ·rfl
def Tk {C D:Type}(fx:C->D) (ln:C->Nat) (o:Option C) (c:C) (k:Nat):Prop:=∃c',o=some c'/\fx c'=fx c/\ln c'<=ln c+k
section
variable {C D:Type}{fx:C->D}{ln:C->Nat}{o:Option C}{c:C}{k m n:Nat}
theorem Tk.pure (c:C) (k:Nat):Tk fx ln (some c) c k:=⟨c,rfl,rfl,Nat.le_add_right _ _⟩
theorem Tk.map (h:Tk fx ln o c k):Tk fx ln (o.bind fun x=>some x) c k:=by
 obtain⟨c1,b,h1⟩:=h; exact⟨c1,by rw [b]; rfl,h1⟩
theorem Tk.cond {b:Bool}{x y:Option C}(h1:b=true->Tk fx ln x c k) (f:b=false->Tk fx ln y c k):Tk fx ln (bif b then x else y) c k:=by
 cases b
 ·exact f rfl
 ·exact h1 rfl
theorem Tk.guard {α:Type}{b:Bool}{p:Option α}{d:α}{f:α->Option C}(j:b=true->∃x,p=some x) (g:∀x,Tk fx ln (f x) c k):Tk fx ln (aY b p d f) c k:=by
 cases b
 ·exact g d
 ·obtain⟨x,e⟩:=j rfl; rw [e]; exact g x
end
def sN (l:List Bs) (seen:List Bs):Nat:=(l.filter fun f=>!seen.contains f).length
theorem RC {l a b:List Bs}(h:∀s∈a,s∈b):sN l b<=sN l a:=filter_le fun x _ f=>by
 simp at f ⊢; exact fun g=>f (h _ g)
theorem RD {l a b:List Bs}(h:∀s∈a,s∈b){f:Bs}(k:f∈l) (h1:f∉a) (g:f∈b):sN l b<sN l a :=
 filter_lt (fun x _ j=>by simp at j ⊢; exact fun g=>j (h _ g)) k (by simpa using g) (by simpa using h1)
theorem IG (s:Bs):∀l:List ag,lz s l=Sum.inl ()\/∃t∈l,lz s l=Sum.inr (t,true)/\t.aa=s
 | []=>.inl rfl
 | a::r=>by
  rw [lz];simp only [Ab.on];cases h:(a.aa==s)
  ·rw [cond_false];rcases IG s r with h|⟨t,ht,e⟩
   ·exact .inl h
   ·exact .inr ⟨t,.tail _ ht,e⟩
  ·exact .inr ⟨a,.head _,rfl,eq_of_beq h⟩
theorem RE {d:ai}{s:Bs}(h:(fL d s).2=true):(fL d s).1∈d.aj.l:=by
 unfold fL at h ⊢;simp only [Ab.on] at h ⊢;rcases IG s d.aj.l with e|⟨t,ht,e,-⟩
 ·rw [e] at h; cases h
 ·rw [e]; exact ht
theorem II (a1:ag) (c:Z4):∀(n:Nat) (a0:ag) (s:List Bs),sN (c.Fd.aj.l.map ag.aa) s<n->∃b f,kB n a0 a1 c s=some (b,f)/\∀x∈s,x∈f
 | 0,_,_,h=>by omega
 | n+1,a0,s,hn=>by
  have loop:∀(l:List Z7) (s:List Bs),sN (c.Fd.aj.l.map ag.aa) s<=n->∃r,jI a1 c (kB n) l s=some r/\match r with|Sum.inl f=>∀x∈s,x∈f|Sum.inr e=>∀x∈s,x∈e.2:=by
   intro l;induction l with
   | nil=>intro s _; exact⟨_,rfl,fun _ h=>h⟩
   | cons h r k =>
    intro s u;rw [jI];simp only [Ab.on];have hg:∃x:Int,aY (!(!decide (((h.ax.aK.l.length:Nat):Int)=(1:Int)))) (h.ax.aK.l[0]?) (0:Int) (fun x=>some x)=some x:=by
     by_cases h1:h.ax.aK.l.length=1
     ·rw [show decide (((h.ax.aK.l.length:Nat):Int)=(1:Int))=true from dT (by omega)];simp only [aY,Bool.not_true,Bool.not_false,if_true];rw [List.getElem?_eq_getElem (show 0<h.ax.aK.l.length by omega)];exact⟨_,rfl⟩
     ·rw [show decide (((h.ax.aK.l.length:Nat):Int)=(1:Int))=false from dF (by omega)];exact⟨_,rfl⟩
    have B:∀{K:Int->Option (List Bs ⊕ (Bool×List Bs))},(∀x,∃q,K x=some q/\match q with|Sum.inl f=>∀x∈s,x∈f|Sum.inr e=>∀x∈s,x∈e.2)->∃q,aY (!(!decide (((h.ax.aK.l.length:Nat):Int)=(1:Int)))) (h.ax.aK.l[0]?) (0:Int) K=some q/\match q with|Sum.inl f=>∀x∈s,x∈f|Sum.inr e=>∀x∈s,x∈e.2:=by
     intro K v;obtain⟨x,hx⟩:=hg;generalize h.ax.aK.l[0]?=p at hx ⊢;generalize (!(!decide (((h.ax.aK.l.length:Nat):Int)=(1:Int))))=b at hx ⊢;cases b
     ·exact v 0
     ·cases p with
      | none=>cases hx
      | some y=>exact v y
    refine B fun C=>?_;cases (!decide (((h.ax.aK.l.length:Nat):Int)=(1:Int))||!decide (C=(1:Int)))
    ·rw [cond_false];cases (h.ax.aa==a1.aa)
     ·rw [cond_false];cases hc:((fL c.Fd h.ax.aa).2&&decide ((fL c.Fd h.ax.aa).1.ak=(5:Int)))&&!(s.contains (fL c.Fd h.ax.aa).1.aa)
      ·rw [cond_false]; exact k s u
      ·rw [cond_true];simp only [Bool.and_eq_true,Bool.not_eq_true'] at hc;obtain⟨⟨E,-⟩,w⟩:=hc;have hm:=RE E;generalize (fL c.Fd h.ax.aa).1=t at hm w ⊢;have g:∀x∈s,x∈cw s t.aa:=fun x hx=>Rz hx;have bl:=RD (l:=c.Fd.aj.l.map ag.aa) g (List.mem_map_of_mem hm) (by simpa using w) (RA s t.aa);obtain⟨b,f,e,j⟩:=II a1 c n t (cw s t.aa) (by omega)
       rw [e,oB];cases b
       ·rw [cond_false];have hle:=RC (l:=c.Fd.aj.l.map ag.aa) (a:=s) (b:=f) fun x hx=>j x (g x hx);obtain⟨q,hq,z⟩:=k f (by omega);refine⟨q,hq, ?_⟩;cases q with
        | inl F=>exact fun x hx=>z x (j x (g x hx))
        | inr m=>exact fun x hx=>z x (j x (g x hx))
       ·exact⟨_,rfl,fun x hx=>j x (g x hx)⟩
     ·exact⟨_,rfl,fun _ h=>h⟩
    ·rw [cond_true]; exact k s u
  rw [kB];obtain⟨q,e,hq⟩:=loop a0.ay.l s (by omega);rw [e,oB];cases q with
  | inl f=>exact⟨false,f,rfl,hq⟩
  | inr m=>exact⟨m.1,m.2,rfl,hq⟩
theorem IJ (c:Z4) (a1:ag) (h:c.Fd.aj.l.length<=1048576):∃b,sO c a1=some b:=by
 have hu:sN (c.Fd.aj.l.map ag.aa) []<=c.Fd.aj.l.length:=by
  have:=List.length_filter_le (fun f=>!([]:List Bs).contains f) (c.Fd.aj.l.map ag.aa)
  simpa [sN] using this
 obtain⟨b,g,e,-⟩:=II a1 c F0 a1 [] (by rw [gz]; omega);unfold sO Ef;rw [e];exact⟨b,rfl⟩
abbrev SK (o:Option Z4) (c:Z4) (k:Nat):Prop:=Tk Z4.Fd (fun c=>c.bE.l.length) o c k
theorem jX {o:Option Z4}{c:Z4}{k:Nat}(h:SK o c k):∃c',o=some c'/\c'.Fd=c.Fd/\c'.bE.l.length<=c.bE.l.length+k:=h
theorem lB {c:Z4}(h:c.bE.l.length<=1000000000) (b:Bool) (e:Int) (s:Bs):SK (f_ c b e s) c 1:=by
 unfold f_;refine Tk.cond (fun _=>?_) fun _=>Tk.pure c 1;rw [jE (by decide) (by simp; omega),oB];exact⟨_,rfl,rfl,by simp⟩
theorem IK {c:Z4}(h:c.bE.l.length<=900000000) (n a:Bs) (m:List Bs):∃c',sP c n a m=some (c',cw m n)/\c'.Fd=c.Fd/\c'.bE.l.length<=c.bE.l.length+2:=by
 unfold sP;rw [wv,oB];simp only [Ab.on];obtain⟨c1,b,f1,g⟩:=jX (lB (c:=c) (by omega) ((!ff n)||bif !(!ff n) then jW n else false) 6 a);rw [b,oB];obtain⟨c2,f,f2,j⟩:=jX (lB (c:=c1) (by omega) (m.contains n) 7 a);rw [f];exact⟨c2,rfl,f2.trans f1,by omega⟩
theorem IL {c:Z4}(h:c.bE.l.length<=900000000) (n a:Bs) (k:Int):SK (sQ c n a k) c 1:=by
 unfold sQ;simp only [Ab.on];exact Tk.cond (fun _=>(lB (by omega) _ _ _).map) fun _=>Tk.cond (fun _=>(lB (by omega) _ _ _).map) fun _=>(lB (by omega) _ _ _).map
theorem IM (a2 a3:Bs) (b:a2.length<=4000000) (f:a3.length<=4000000):∀(l:List Z7) (c:Z4) (m:List Bs),(∀x∈l,x.sz<=1048576)->c.bE.l.length+3*l.length<=900000000->SK (nD a2 a3 l c m) c (3*l.length)
 | [],c,_,_,_=>Tk.pure c _
 | x::r,c,m,hx,g=>by
  have s:=x.bA;have hz:=hx x (.head _);have hn:Bs.sz x.aa=x.aa.length+1:=rfl;simp only [List.length_cons] at g ⊢;rw [nD];simp only [Ab.on];rw [dI (by omega),oB,dI (by simp; omega),oB];obtain⟨c1,j,f1,t⟩:=IK (c:=c) (by omega) x.aa ((a2++x.aa)++a3) m;rw [j,oB];obtain⟨c2,k,f2,u⟩:=jX (IL (c:=c1) (by omega) x.ax.aa ((a2++x.aa)++a3) 1)
  rw [k,oB];obtain⟨c3,p,f3,v⟩:=jX (IM a2 a3 b f r c2 (cw m x.aa) (fun y q=>hx y (.tail _ q)) (by omega));exact⟨c3,p,f3.trans (f2.trans f1),by show c3.bE.l.length<=c.bE.l.length+_; omega⟩
end Go.Proofs
namespace Go.Proofs
open Go Go.Ab
theorem IN (c:Z4) (l:Sl Z7) (a2 a3:Bs) (b:a2.length<=4000000) (f:a3.length<=4000000) (hx:∀x∈l.l,x.sz<=1048576) (g:c.bE.l.length+3*l.l.length<=900000000):SK (o9 c l a2 a3) c (3*l.l.length):=by
 unfold o9;exact(IM a2 a3 b f l.l c [] hx g).map
theorem IP (a1:ag) (h1:a1.aa.length<=1048576):∀(l:List Z6) (c:Z4) (m:List Bs),(∀x∈l,x.sz<=1048576)->c.bE.l.length+3*(l.map Z6.sz).sum<=900000000->SK (nE a1 l c m) c (3*(l.map Z6.sz).sum)
 | [],c,_,_,_=>Tk.pure c _
 | x::r,c,m,hx,j=>by
  have t:=x.bA;have hz:=hx x (.head _);have hn:Bs.sz x.aa=x.aa.length+1:=rfl;have hl:=Sl.ja (f:=Z7.sz) x.az Z7.pos;simp only [List.map_cons,List.sum_cons] at j ⊢;rw [nE];simp only [Ab.on];rw [dI (by simp; omega),oB,dI (by simp; omega),oB];generalize bQ:a1.aa++([46]:Bs)++x.aa=at_;have u:at_.length<=2097154:=by rw [<- bQ]; simp; omega
  obtain⟨c1,k,f1,v⟩:=IK (c:=c) (by omega) x.aa at_ m;rw [k,oB];obtain⟨c2,p,f2,w⟩:=jX (IL (c:=c1) (by omega) x.ax.aa at_ 0);rw [p,oB,dI (by simp; omega),oB];obtain⟨c3,q,f3,z⟩:=jX (IN c2 x.az (at_++([40]:Bs)) ([41]:Bs) (by simp; omega) (by simp) (fun y b=>by have:=Sl.dA (f:=Z7.sz) b; omega) (by omega));rw [q,oB]
  obtain⟨g,s,f4,B⟩:=jX (IP a1 h1 r c3 (cw m x.aa) (fun y b=>hx y (.tail _ b)) (by omega));exact⟨g,s,f4.trans (f3.trans (f2.trans f1)),by show g.bE.l.length<=c.bE.l.length+_; omega⟩
theorem IQ (a1:ag) (h1:a1.aa.length<=1048576):∀(l:List Z8) (c:Z4) (m:List Bs),(∀x∈l,x.sz<=1048576)->c.bE.l.length+2*l.length<=900000000->SK (mj a1 l c m) c (2*l.length)
 | [],c,_,_,_=>Tk.pure c _
 | x::r,c,m,hx,f=>by
  have q:=x.bA;have hz:=hx x (.head _);have hn:Bs.sz x.aa=x.aa.length+1:=rfl;simp only [List.length_cons] at f ⊢;rw [mj];simp only [Ab.on];rw [dI (by simp; omega),oB,dI (by simp; omega),oB];refine Tk.guard (fun _=>⟨_,wv _⟩) fun b=>?_;obtain⟨c1,g,f1,s⟩:=jX (lB (c:=c) (by omega) ((((((x.aa==([116,114,117,101]:Bs)))||((x.aa==([102,97,108,115,101]:Bs))))||((x.aa==([110,117,108,108]:Bs))))||(!b))||bif !(((((x.aa==([116,114,117,101]:Bs)))||((x.aa==([102,97,108,115,101]:Bs))))||((x.aa==([110,117,108,108]:Bs))))||(!b)) then jW x.aa else false) 6 (a1.aa++([46]:Bs)++x.aa))
  rw [g,oB];obtain⟨c2,j,f2,t⟩:=jX (lB (c:=c1) (by omega) (m.contains x.aa) 7 (a1.aa++([46]:Bs)++x.aa));rw [j,oB];obtain⟨c3,k,f3,u⟩:=jX (IQ a1 h1 r c2 (cw m x.aa) (fun y p=>hx y (.tail _ p)) (by omega));exact⟨c3,k,f3.trans (f2.trans f1),by show c3.bE.l.length<=c.bE.l.length+_; omega⟩
def gr (o:Option (Z4×List Bs)) (c:Z4) (k:Nat):Prop:=∃c' m',o=some (c',m')/\c'.Fd=c.Fd/\c'.bE.l.length<=c.bE.l.length+k
theorem gr.bind {o:Option Z4}{f:Z4->Option (Z4×List Bs)}{c:Z4}{k m n:Nat}(h:SK o c k) (hn:k+m<=n) (b:∀c',c'.Fd=c.Fd->c'.bE.l.length<=c.bE.l.length+k->gr (f c') c' m):gr (o.bind f) c n:=by
 obtain⟨c1,g,f1,j⟩:=jX h;obtain⟨c2,m2,p,f2,q⟩:=b c1 f1 j;exact⟨c2,m2,by rw [g]; exact p,f2.trans f1,by omega⟩
theorem gr.guard {α:Type}{b:Bool}{p:Option α}{d:α}{f:α->Option (Z4×List Bs)}{c:Z4}{k:Nat}(j:b=true->∃x,p=some x) (g:∀x,gr (f x) c k):gr (aY b p d f) c k:=by
 cases b
 ·exact g d
 ·obtain⟨x,e⟩:=j rfl; rw [e]; exact g x
theorem gr.cond {b:Bool}{x y:Option (Z4×List Bs)}{c:Z4}{k:Nat}(h1:gr x c k) (f:gr y c k):gr (bif b then x else y) c k:=by
 cases b
 ·exact f
 ·exact h1
theorem gr.pair {o:Option Z4}{c:Z4}{k n:Nat}(h:SK o c k) (hn:k<=n) (M:List Bs):gr (o.bind fun x=>some (x,M)) c n:=by
 obtain⟨c1,b,f1,f⟩:=jX h;exact⟨c1,M,by rw [b]; rfl,f1,by omega⟩
theorem mm {α:Type}{l r:List α}{i:Nat}{x:α}(h:l.drop i=x::r):l.drop (i+1)=r/\l[i]?=some x:=by
 refine⟨?_,by have:=congrArg (fun t=>t[0]?) h; simpa using this⟩;have:=congrArg (List.drop 1) h
 simpa [List.drop_drop] using this
theorem RG {d:ai}{t:ag}{i:Nat}(ht:d.aj.l[i]?=some t) (hz:t.sz<=1048576) (j:d.aj.l.length<=1048576) (c:Z4) (g:c.Fd=d) (m:List Bs) (r:c.bE.l.length+(5+3*t.sz)<=900000000):gr (uK c (i:Int) m) c (5+3*t.sz):=by
 have s:=t.bA;have hn:Bs.sz t.aa=t.aa.length+1:=rfl;have u:(t.an.l.map Z6.sz).sum+1=Sl.sz Z6.sz t.an:=by unfold Sl.sz; omega
 have hm:=Sl.ja (f:=Z8.sz) t.au Z8.pos;have hi:=Sl.ja (f:=Z7.sz) t.ay Z7.pos;unfold uK;have p:dh c.Fd.aj.l (i:Int)=some t:=by rw [g]; unfold dh; rw [if_pos (by simp),Int.toNat_natCast,ht]
 rw [p,oB,wv,oB];simp only [Ab.on];refine gr.bind (k:=1) (m:=4+3*t.sz) (lB (by omega) _ _ _) (by omega) fun c1 f1 v=>?_;refine gr.bind (k:=1) (m:=3+3*t.sz) (lB (by omega) _ _ _) (by omega) fun c2 f2 w=>?_;refine gr.bind (k:=1) (m:=2+3*t.sz) (lB (by omega) _ _ _) (by omega) fun c3 f3 z=>?_;refine gr.bind (k:=1) (m:=1+3*t.sz) (lB (by omega) _ _ _) (by omega) fun q f4 B=>?_
 refine gr.guard (fun _=>IJ q t (by rw [f4,f3,f2,f1,g]; exact j)) fun C=>?_;refine gr.bind (k:=1) (m:=3*t.sz) (lB (by omega) _ _ _) (by omega) fun c5 f5 E=>?_;refine gr.cond ?_ (gr.cond ?_ (gr.cond ?_ ⟨c5,_,rfl,rfl,by omega⟩))
 ·refine gr.pair (k:=3*(t.an.l.map Z6.sz).sum) ?_ (by omega) _;unfold uL;exact(IP t (by omega) t.an.l c5 [] (fun y b=>by have:=Sl.dA (f:=Z6.sz) b; omega) (by omega)).map
 ·refine gr.pair (k:=2*t.au.l.length) ?_ (by omega) _;unfold uM;exact(IQ t (by omega) t.au.l c5 [] (fun y b=>by have:=Sl.dA (f:=Z8.sz) b; omega) (by omega)).map
 ·rw [dI (by simp; omega),oB];exact gr.pair (IN c5 t.ay _ _ (by simp; omega) (by simp) (fun y b=>by have:=Sl.dA (f:=Z7.sz) b; omega) (by omega)) (by omega) _
theorem IR {d:ai}(hz:∀t∈d.aj.l,t.sz<=1048576) (b:d.aj.l.length<=1048576):∀(l:List ag) (i:Nat) (c:Z4) (m:List Bs),d.aj.l.drop i=l->c.Fd=d->c.bE.l.length+(5*l.length+3*(l.map ag.sz).sum)<=900000000->SK (nF l i c m) c (5*l.length+3*(l.map ag.sz).sum)
 | [],i,c,m,_,_,_=>Tk.pure c _
 | t::r,i,c,m,hl,f,g=>by
  obtain⟨t1,t2⟩:=mm hl;simp only [List.length_cons,List.map_cons,List.sum_cons] at g ⊢;rw [nF];obtain⟨c1,m1,j,f1,p⟩:=RG t2 (hz t (List.mem_of_getElem? t2)) b c f m (by omega);rw [j,oB];obtain⟨c2,k,f2,q⟩:=jX (IR hz b r (i+1) c1 m1 t1 (f1.trans f) (by omega));exact⟨c2,k,f2.trans f1,by show c2.bE.l.length<=c.bE.l.length+_; omega⟩
def sS (t:aL):Bool:=decide (((t.aK.l.length:Nat):Int)=1)&&decide (t.aK.l.headD 0=1)
def gd (d:ai) (own:Bs) (x:Z7):Bool:=sS x.ax&&(x.ax.aa==own||((bg d.aj.l x.ax.aa).2&&decide ((bg d.aj.l x.ax.aa).1.ak=5)))
def jo (d:ai) (n:Bs):List Z7:=(bg d.aj.l n).1.ay.l
inductive fz (d:ai) (own:Bs) (t:List Z7):Bs->Prop where
 | here {x:Z7}(hx:x∈t) (hg:gd d own x=true):fz d own t x.ax.aa
 | step {n:Bs}{x:Z7}(h:fz d own t n) (hx:x∈jo d n) (hg:gd d own x=true):fz d own t x.ax.aa
theorem fz.via {d:ai}{own:Bs}{t:List Z7}{n:Bs}{e:Z7}(he:e∈t) (hg:gd d own e=true) (h:fz d own (jo d e.ax.aa) n):fz d own t n:=by
 induction h with
 | here hx b=>exact .step (.here he hg) hx b
 | step _ hx b f=>exact .step f hx b
theorem fz.cons {d:ai}{own:Bs}{x:Z7}{t:List Z7}{n:Bs}(h:fz d own t n):fz d own (x::t) n:=by
 induction h with
 | here hx hg=>exact .here (.tail _ hx) hg
 | step _ hx hg b=>exact .step b hx hg
structure iG (d:ai) (own:Bs) (t:List Z7) (S S':List Bs):Prop where
 sub:∀n∈S,n∈S'
 Bl:∀e∈t,gd d own e=true->e.ax.aa≠own/\e.ax.aa∈S'
 closed:∀n∈S',n∉S->∀e∈jo d n,gd d own e=true->e.ax.aa≠own/\e.ax.aa∈S'
theorem iG.nil {d:ai}{own:Bs}(S:List Bs):iG d own [] S S:=⟨fun _ h=>h,fun _ h=>(by cases h),fun _ h b=>absurd h b⟩
theorem iG.skip {d:ai}{own:Bs}{x:Z7}{S:List Bs}(h:gd d own x=true->x.ax.aa≠own/\x.ax.aa∈S):iG d own [x] S S :=
 ⟨fun _ h=>h,fun e he hg=>by rw [List.mem_singleton.1 he] at hg ⊢; exact h hg,fun _ h b=>absurd h b⟩
theorem iG.comp {d:ai}{own:Bs}{x:Z7}{r:List Z7}{S g j:List Bs}(h1:iG d own [x] S g) (f:iG d own r g j):iG d own (x::r) S j:=by
 refine⟨fun n hn=>f.sub n (h1.sub n hn),fun e he hg=>?_,fun n hn l e he hg=>?_⟩
 ·rcases List.mem_cons.1 he with rfl|he
  ·obtain⟨a,b⟩:=h1.Bl e (.head _) hg; exact⟨a,f.sub _ b⟩
  ·exact f.Bl e he hg
 ·by_cases k:n∈g
  ·obtain⟨a,b⟩:=h1.closed n k l e he hg; exact⟨a,f.sub _ b⟩
  ·exact f.closed n hn k e he hg
theorem uN (l:List Bs) (s n:Bs):n∈cw l s↔n∈l\/n=s:=by
 unfold cw
 split
 ·rename_i h
  exact⟨fun h1=>.inl h1,fun h1=>by rcases h1 with h1|rfl; exact h1; simpa using h⟩
 ·simp [or_comm]
theorem iG.child {d:ai}{own:Bs}{x:Z7}{S f:List Bs}(j:x.ax.aa≠own) (h:iG d own (jo d x.ax.aa) (cw S x.ax.aa) f):iG d own [x] S f:=by
 refine⟨fun n hn=>h.sub n ((uN _ _ _).2 (.inl hn)),fun e he hg=>?_,fun n hn k e he hg=>?_⟩
 ·rw [List.mem_singleton.1 he]; exact⟨j,h.sub _ ((uN _ _ _).2 (.inr rfl))⟩
 ·by_cases g:n=x.ax.aa
  ·subst g; exact h.Bl e he hg
  ·exact h.closed n hn (fun b=>by rcases (uN _ _ _).1 b with b|b; exact k b; exact g b) e he hg
theorem iG.end {d:ai}{own:Bs}{t:List Z7}{S:List Bs}(h:iG d own t [] S):¬fz d own t own:=by
 have key:∀n,fz d own t n->n≠own/\n∈S:=by
  intro n hn;induction hn with
  | here hx hg=>exact h.Bl _ hx hg
  | step _ hx hg b=>exact h.closed _ b.2 (by simp) _ hx hg
 exact fun hr=>(key _ hr).1 rfl
theorem uO {l:List ag}{s:Bs}(h:(bg l s).2=true):(bg l s).1.aa=s:=by
 unfold bg at h ⊢;cases e:l.find? (fun t=>t.aa==s) with
 | none=>rw [e] at h; cases h
 | some t=>have:=List.find?_some e; simpa using this
def IS (d:ai) (own:Bs) (k:ag->ag->Z4->List Bs->Option (Bool×List Bs)) (a1:ag) (c:Z4):Prop :=
 ∀y s z,k y a1 c s=some z->(z.1=true->fz d own y.ay.l own)/\(z.1=false->iG d own y.ay.l s z.2)
theorem Eg {d:ai}{a1:ag}{c:Z4}(q:c.Fd=d) {k} (hk:IS d a1.aa k a1 c):∀(l:List Z7) (s:List Bs) (o),jI a1 c k l s=some o ->
  (∃f,o=.inl f/\iG d a1.aa l s f)\/∃f,o=.inr (true,f)/\fz d a1.aa l a1.aa
 | [],s,o,h=>by rw [jI] at h; cases h; exact .inl ⟨s,rfl,.nil s⟩
 | x::r,s,o,h=>by
  rw [jI] at h;simp only [Ab.on,q,jV] at h;have skip:(gd d a1.aa x=true->x.ax.aa≠a1.aa/\x.ax.aa∈s)->jI a1 c k r s=some o->(∃f,o=.inl f/\iG d a1.aa (x::r) s f)\/∃f,o=.inr (true,f)/\fz d a1.aa (x::r) a1.aa:=fun hg h=>by
   rcases Eg q hk r s o h with ⟨f,e,j⟩|⟨f,e,j⟩
   ·exact .inl ⟨f,e,iG.comp (.skip hg) j⟩
   ·exact .inr ⟨f,e,j.cons⟩
  have rest:∀w:Int,(sS x.ax=(decide (((x.ax.aK.l.length:Nat):Int)=1)&&decide (w=1))) ->
    (bif (!decide (((x.ax.aK.l.length:Nat):Int)=(1:Int)))||(!decide (w=(1:Int))) then jI a1 c k r s else(bif ((x.ax.aa==a1.aa)) then(some (Sum.inr (true,s))) else(bif (((bg d.aj.l x.ax.aa).2&&(decide ((bg d.aj.l x.ax.aa).1.ak=(5:Int))))&&(!(s.contains (bg d.aj.l x.ax.aa).1.aa))) then((k (bg d.aj.l x.ax.aa).1 a1 c (cw s (bg d.aj.l x.ax.aa).1.aa)).bind fun u=>bif u.1 then(some (Sum.inr (true,u.2))) else(jI a1 c k r u.2)) else(jI a1 c k r s))))=some o ->
    (∃f,o=.inl f/\iG d a1.aa (x::r) s f)\/∃f,o=.inr (true,f)/\fz d a1.aa (x::r) a1.aa:=by
   intro w hw h;rcases jN h with ⟨h1,h⟩|⟨h1,h⟩
   ·refine skip (fun hg=>?_) h;unfold gd at hg;rw [hw] at hg;simp only [Bool.and_eq_true] at hg;rw [hg.1.1,hg.1.2] at h1; cases h1
   ·have B:sS x.ax=true:=by
     rw [hw]; simp only [Bool.or_eq_false_iff,Bool.not_eq_false'] at h1; rw [h1.1,h1.2]; rfl
    rcases jN h with ⟨j,h⟩|⟨j,h⟩
    ·cases h;refine .inr ⟨s,rfl, ?_⟩;have he:x.ax.aa=a1.aa:=by simpa using j
     have:=fz.here (d:=d) (own:=a1.aa) (t:=x::r) (x:=x) (.head _) (by unfold gd; rw [B,j]; rfl);rw [he] at this; exact this
    ·have v:x.ax.aa≠a1.aa:=by simpa using j
     rcases jN h with ⟨m,h⟩|⟨m,h⟩
     ·simp only [Bool.and_eq_true] at m;have hn:=uO m.1.1;have hg:gd d a1.aa x=true:=by unfold gd; rw [B,m.1.1,m.1.2]; simp
      obtain⟨z,C,h⟩:=bw h;obtain⟨E,F⟩:=hk _ _ _ C;rcases jN h with ⟨y,h⟩|⟨y,h⟩
      ·cases h; exact .inr ⟨_,rfl,fz.via (.head _) hg (E y)⟩
      ·have hc:iG d a1.aa [x] s z.2:=.child v (by have:=F y; rw [hn] at this; exact this);rcases Eg q hk r z.2 o h with ⟨f,e,g⟩|⟨f,e,g⟩
       ·exact .inl ⟨f,e,iG.comp hc g⟩
       ·exact .inr ⟨f,e,g.cons⟩
     ·refine skip (fun hg=>⟨v, ?_⟩) h;unfold gd at hg;simp only [Bool.and_eq_true,Bool.or_eq_true] at hg;rcases hg.2 with g|g
      ·exact absurd (by simpa using g) v
      ·have hn:=uO g.1;rw [g.1,g.2,hn] at m
       simpa using m
  rcases AO h with ⟨h1,w,p,h⟩|⟨h1,h⟩
  ·refine rest w ?_ h;unfold sS;cases hl:x.ax.aK.l with
   | nil=>rw [hl] at p; cases p
   | cons a b=>rw [hl] at p; cases p; rfl
  ·refine rest 0 ?_ h;unfold sS;rw [show decide (((x.ax.aK.l.length:Nat):Int)=1)=false from by simpa using h1]; rfl
theorem IT {d:ai}{g:ag}{c:Z4}(f:c.Fd=d):∀n:Nat,IS d g.aa (kB n) g c
 | 0=>fun _ _ _ h=>by cases h
 | n+1=>fun y s z h=>by
  rw [kB] at h;obtain⟨o,j,h⟩:=bw h;rcases Eg f (IT f n) _ _ _ j with ⟨k,rfl,b⟩|⟨k,rfl,b⟩
  ·cases h; exact⟨fun h=>(by cases h),fun _=>b⟩
  ·cases h; exact⟨fun _=>b,fun h=>(by cases h)⟩
open Classical in
noncomputable def kC (d:ai) (t:ag):Bool:=decide (fz d t.aa t.ay.l t.aa)
open Classical in
theorem RH {d:ai}{a1:ag}{c:Z4}(f:c.Fd=d) (hl:d.aj.l.length<=1048576):sO c a1=some (kC d a1):=by
 obtain⟨b,e⟩:=IJ c a1 (by rw [f]; exact hl);rw [e]
 congr 1
 unfold sO Ef at e;obtain⟨z,g,e⟩:=bw e;cases e;obtain⟨h1,j⟩:=IT f _ _ _ _ g;unfold kC;cases hz:z.1
 ·exact(dF (j hz).end).symm
 ·exact(dT (h1 hz)).symm
end Go.Proofs
namespace Go.Proofs
open Go Go.Ab
def b7 (b:Bool) (e:Int) (at_:Bs):List Z5:=bif b then [Z5.mk e at_] else []
def fM (s:Bs):Bool:=ff s&&!jW s
def lC (d:ai) (n at_:Bs) (k:Int):List Z5 :=
 bif !(bg d.aj.l n).2&&!cW n then b7 true 8 at_ else bif decide (k=(0:Int)) then b7 (!cW n&&decide ((bg d.aj.l n).1.ak=(5:Int))) 10 at_ else b7 (!iQ d n) 10 at_
def jc (d:ai) (a b:Bs):List Bs->List Z7->List Z5
 | _,[]=>[]
 | s,x::r=>(b7 (!fM x.aa) 6 (a++x.aa++b)++b7 (s.contains x.aa) 7 (a++x.aa++b))++(lC d x.ax.aa (a++x.aa++b) 1++jc d a b (s++[x.aa]) r)
def mo (d:ai) (b:Bs):List Bs->List Z6->List Z5
 | _,[]=>[]
 | s,x::r=>(b7 (!fM x.aa) 6 (b++[46]++x.aa)++b7 (s.contains x.aa) 7 (b++[46]++x.aa))++(lC d x.ax.aa (b++[46]++x.aa) 0++(jc d (b++[46]++x.aa++[40]) [41] [] x.az.l++mo d b (s++[x.aa]) r))
def nG (s:Bs):Bool:=(((s==([116,114,117,101]:Bs)))||((s==([102,97,108,115,101]:Bs))))||((s==([110,117,108,108]:Bs)))
def kD (b:Bs):List Bs->List Z8->List Z5
 | _,[]=>[]
 | s,x::r=>(b7 (nG x.aa||!fM x.aa) 6 (b++[46]++x.aa)++b7 (s.contains x.aa) 7 (b++[46]++x.aa))++kD b (s++[x.aa]) r
def sU (t:ag):Bool:=bif (bif (decide (t.ak=(1:Int))) then((decide (t.ak=(1:Int)))) else((decide (t.ak=(2:Int))))) then((decide (((t.an.l.length:Nat):Int)=(0:Int)))) else(bif (bif (decide (t.ak=(3:Int))) then((decide (t.ak=(3:Int)))) else((decide (t.ak=(4:Int))))) then((decide (((t.au.l.length:Nat):Int)=(0:Int)))) else(bif (decide (t.ak=(5:Int))) then((decide (((t.ay.l.length:Nat):Int)=(0:Int)))) else(false)))
def ww (t:ag):Bool:=((((((t.aa==([81,117,101,114,121]:Bs)))||((t.aa==([77,117,116,97,116,105,111,110]:Bs))))||((t.aa==([83,117,98,115,99,114,105,112,116,105,111,110]:Bs))))&&(!decide (t.ak=(1:Int))))||(decide (t.ak<(1:Int))))||(decide ((5:Int)<t.ak))
def nH (d:ai) (t:ag):List Z5 :=
 bif (bif (decide (t.ak=(1:Int))) then((decide (t.ak=(1:Int)))) else((decide (t.ak=(2:Int))))) then mo d t.aa [] t.an.l else bif decide (t.ak=(4:Int)) then kD t.aa [] t.au.l else bif decide (t.ak=(5:Int)) then jc d (t.aa++[46]) [] [] t.ay.l else []
noncomputable def lD (d:ai) (s:List Bs) (t:ag):List Z5 :=
 (b7 (!fM t.aa) 6 t.aa++b7 (s.contains t.aa||cW t.aa) 7 t.aa)++(b7 (sU t) 8 t.aa++(b7 (ww t) 9 t.aa++b7 (decide (t.ak=(5:Int))&&kC d t) 5 t.aa))
noncomputable def jq (d:ai):List Bs->List ag->List Z5
 | _,[]=>[]
 | s,t::r=>lD d s t++(nH d t++jq d (s++[t.aa]) r)
noncomputable def jr (d:ai) (b:Bool):List Z5:=jq d [] d.aj.l++b7 (b&&!(bg d.aj.l ([81,117,101,114,121]:Bs)).2) 30 ([81,117,101,114,121]:Bs)
def Ad (o:Option Z4) (c:Z4) (X:List Z5):Prop:=∀c',o=some c'->c'.Fd=c.Fd/\c'.bE.l=c.bE.l++X
theorem Ad.pure (c:Z4):Ad (some c) c []:=fun c' h=>by cases h; simp
theorem Ad.id {o:Option Z4}{c:Z4}{X:List Z5}(h:Ad o c X):Ad (o.bind fun x=>some x) c X:=fun c' e=>by
 obtain⟨c1,b,e⟩:=bw e; cases e; exact h _ b
theorem RI {α:Type}{z:Nat}{s r u:Sl α}(h:bf z s r=some u):u.l=s.l++r.l:=by
 unfold bf at h; split at h
 ·cases h; rfl
 ·cases h
theorem sV {a b s:Bs}(h:bV a b=some s):s=a++b:=by
 unfold bV at h; split at h
 ·cases h; rfl
 ·cases h
theorem kE (c:Z4) (b:Bool) (e:Int) (s:Bs):Ad (f_ c b e s) c (b7 b e s):=fun c' h=>by
 unfold f_ at h;cases b
 ·cases h; exact⟨rfl,by simp [b7]⟩
 ·obtain⟨x,ex,h⟩:=bw h;cases h; exact⟨rfl,RI ex⟩
theorem IU {c:Z4}{n a:Bs}{m:List Bs}{z:Z4×List Bs}(h:sP c n a m=some z):z.2=cw m n/\z.1.Fd=c.Fd/\z.1.bE.l=c.bE.l++(b7 (!fM n) 6 a++b7 (m.contains n) 7 a):=by
 unfold sP at h;rw [wv,oB] at h;simp only [Ab.on] at h;have e:((!ff n)||bif !(!ff n) then jW n else false)=!fM n:=by unfold fM; cases ff n<;>cases jW n<;>rfl
 rw [e] at h;obtain⟨c1,b,h⟩:=bw h;obtain⟨c2,f,h⟩:=bw h;cases h;obtain⟨h1,g⟩:=kE _ _ _ _ _ b;obtain⟨j,k⟩:=kE _ _ _ _ _ f;exact⟨rfl,j.trans h1,by rw [k,g,List.append_assoc]⟩
theorem IV (c:Z4) (n a:Bs) (k:Int):Ad (sQ c n a k) c (lC c.Fd n a k):=by
 unfold sQ lC;simp only [Ab.on,jV];cases b:(bg c.Fd.aj.l n).2<;>cases f:cW n<;>simp only [Bool.not_true,Bool.not_false,Bool.and_self,Bool.and_true,Bool.and_false,Bool.true_and,Bool.false_and,cond_true,cond_false]
 case false.false=>exact(kE _ _ _ _).id
 all_goals
  cases decide (k=(0:Int))<;>simp only [cond_true,cond_false]
  ·exact(kE _ _ _ _).id
  ·first
    | exact(kE _ _ _ _).id
    | (unfold pe; simp only [Ab.on,jV]; exact(kE _ _ _ _).id)
def mq (m s:List Bs):Prop:=∀n,m.contains n=s.contains n
theorem mq.nil:mq [] []:=fun _=>rfl
theorem mq.ins {m s:List Bs}(h:mq m s) (n:Bs):mq (cw m n) (s++[n]):=fun k=>by
 have h1:=h k;rw [Bool.eq_iff_iff] at h1 ⊢;simp only [List.contains_iff_mem,uN,List.mem_append,List.mem_singleton] at h1 ⊢;rw [h1]
theorem IW (a b:Bs):∀(l:List Z7) (c:Z4) (m s:List Bs),mq m s->Ad (nD a b l c m) c (jc c.Fd a b s l)
 | [],c,m,s,_=>by rw [nD]; exact .pure c
 | x::r,c,m,s,hm=>fun c' h=>by
  rw [nD] at h;simp only [Ab.on] at h;obtain⟨s1,j,h⟩:=bw h;obtain⟨B,k,h⟩:=bw h;obtain rfl:=sV j;obtain rfl:=sV k;obtain⟨z,p,h⟩:=bw h;obtain⟨h1,f,q⟩:=IU p;obtain⟨c2,t,h⟩:=bw h;obtain⟨u,v⟩:=IV _ _ _ _ _ t;rw [h1] at h;obtain⟨w,y⟩:=IW a b r c2 _ _ (hm.ins x.aa) _ h;have g:c2.Fd=c.Fd:=u.trans f;refine⟨w.trans g, ?_⟩;rw [y,v,q,g,f,jc,hm x.aa]
  simp only [List.append_assoc]
theorem IX (c:Z4) (l:Sl Z7) (a b:Bs):Ad (o9 c l a b) c (jc c.Fd a b [] l.l):=by
 unfold o9;exact(IW a b l.l c [] [] .nil).id
theorem IY (t:ag):∀(l:List Z6) (c:Z4) (m s:List Bs),mq m s->Ad (nE t l c m) c (mo c.Fd t.aa s l)
 | [],c,m,s,_=>by rw [nE]; exact .pure c
 | x::r,c,m,s,hm=>fun c' h=>by
  rw [nE] at h;simp only [Ab.on] at h;obtain⟨s1,j,h⟩:=bw h;obtain⟨H,k,h⟩:=bw h;obtain rfl:=sV j;obtain rfl:=sV k;obtain⟨z,p,h⟩:=bw h;obtain⟨h1,b,q⟩:=IU p;obtain⟨c2,u,h⟩:=bw h;obtain⟨v,w⟩:=IV _ _ _ _ _ u;obtain⟨I,y,h⟩:=bw h;obtain rfl:=sV y;obtain⟨c3,B,h⟩:=bw h;obtain⟨C,E⟩:=IX _ _ _ _ _ B;rw [h1] at h
  obtain⟨F,G⟩:=IY t r c3 _ _ (hm.ins x.aa) _ h;have f:c2.Fd=c.Fd:=v.trans b;have g:c3.Fd=c.Fd:=C.trans f;refine⟨F.trans g, ?_⟩;rw [G,E,w,q,g,f,b,mo,hm x.aa];simp only [List.append_assoc]
theorem IZ (t:ag):∀(l:List Z8) (c:Z4) (m s:List Bs),mq m s->Ad (mj t l c m) c (kD t.aa s l)
 | [],c,m,s,_=>by rw [mj]; exact .pure c
 | x::r,c,m,s,hm=>fun c' h=>by
  rw [mj] at h;simp only [Ab.on] at h;obtain⟨s1,f,h⟩:=bw h;obtain⟨F,j,h⟩:=bw h;obtain rfl:=sV f;obtain rfl:=sV j;have rest:∀b:Bool,b=(nG x.aa||!fM x.aa)->(f_ c b (6:Int) (t.aa++[46]++x.aa)).bind (fun k=>(f_ k (m.contains x.aa) (7:Int) (t.aa++[46]++x.aa)).bind fun p=>mj t r p (cw m x.aa))=some c'->c'.Fd=c.Fd/\c'.bE.l=c.bE.l++kD t.aa s (x::r):=by
   intro b q h;obtain⟨c1,u,h⟩:=bw h;obtain⟨c2,w,h⟩:=bw h;obtain⟨h1,y⟩:=kE _ _ _ _ _ u;obtain⟨z,B⟩:=kE _ _ _ _ _ w;obtain⟨C,E⟩:=IZ t r c2 _ _ (hm.ins x.aa) _ h;refine⟨C.trans (z.trans h1), ?_⟩;rw [E,B,y,q,kD,hm x.aa];simp only [List.append_assoc]
  rcases AO h with ⟨g,v,ev,h⟩|⟨g,h⟩
  ·rw [wv] at ev; cases ev;refine rest _ ?_ h;have g:nG x.aa=false:=Bool.not_inj (show (!nG x.aa)=!false from g);unfold nG at g ⊢;rw [g]; unfold fM;cases ff x.aa<;>cases jW x.aa<;>rfl
  ·refine rest _ ?_ h;have g:nG x.aa=true:=Bool.not_inj (show (!nG x.aa)=!true from g);unfold nG at g ⊢;rw [g]; rfl
theorem RJ {d:ai}{t:ag}{i:Nat}(ht:d.aj.l[i]?=some t) (hl:d.aj.l.length<=1048576){c:Z4}(w:c.Fd=d){m s:List Bs}(hm:mq m s){z:Z4×List Bs}(h:uK c (i:Int) m=some z) :
  z.1.Fd=d/\z.1.bE.l=c.bE.l++(lD d s t++nH d t)/\mq z.2 (s++[t.aa]):=by
 unfold uK at h;have B:dh c.Fd.aj.l (i:Int)=some t:=by rw [w]; unfold dh; rw [if_pos (by simp),Int.toNat_natCast,ht]
 rw [B,oB,wv,oB] at h;simp only [Ab.on] at h;have C:((!ff t.aa)||bif !(!ff t.aa) then jW t.aa else false)=!fM t.aa:=by unfold fM; cases ff t.aa<;>cases jW t.aa<;>rfl
 have E:(m.contains t.aa||bif !(m.contains t.aa) then cW t.aa else false)=(s.contains t.aa||cW t.aa):=by
  rw [<- hm]; cases m.contains t.aa<;>cases cW t.aa<;>rfl
 rw [C,E] at h;obtain⟨c1,F,h⟩:=bw h;obtain⟨c2,G,h⟩:=bw h;obtain⟨c3,H,h⟩:=bw h;obtain⟨u,I,h⟩:=bw h;obtain⟨a1,J⟩:=kE _ _ _ _ _ F;obtain⟨a2,K⟩:=kE _ _ _ _ _ G;obtain⟨a3,L⟩:=kE _ _ _ _ _ H;obtain⟨a4,M⟩:=kE _ _ _ _ _ I;have d4:u.Fd=d:=a4.trans (a3.trans (a2.trans (a1.trans w)));have N:u.bE.l=c.bE.l++((b7 (!fM t.aa) 6 t.aa++b7 (s.contains t.aa||cW t.aa) 7 t.aa)++(b7 (sU t) 8 t.aa++b7 (ww t) 9 t.aa)):=by
  rw [M,L,K,J]; simp only [List.append_assoc]; rfl
 have rest:∀b:Bool,(decide (t.ak=(5:Int))&&b)=(decide (t.ak=(5:Int))&&kC d t) ->
   ((f_ u ((decide (t.ak=(5:Int)))&&b) (5:Int) t.aa).bind fun q=>bif (bif (decide (t.ak=(1:Int))) then((decide (t.ak=(1:Int)))) else((decide (t.ak=(2:Int))))) then((uL q t).bind fun O=>some (O,(cw m t.aa))) else(bif (decide (t.ak=(4:Int))) then((uM q t).bind fun P=>some (P,(cw m t.aa))) else(bif (decide (t.ak=(5:Int))) then((bV t.aa ([46]:Bs)).bind fun Q=>(o9 q t.ay Q ([]:Bs)).bind fun R=>some (R,(cw m t.aa))) else(some (q,(cw m t.aa))))))=some z->z.1.Fd=d/\z.1.bE.l=c.bE.l++(lD d s t++nH d t)/\mq z.2 (s++[t.aa]):=by
  intro b S h;rw [S] at h;obtain⟨c5,U,h⟩:=bw h;obtain⟨a5,W⟩:=kE _ _ _ _ _ U;have d5:c5.Fd=d:=a5.trans d4;have r:c5.bE.l=c.bE.l++lD d s t:=by
   rw [W,N]; unfold lD; simp only [List.append_assoc]
  unfold nH;rcases jN h with ⟨k,h⟩|⟨k,h⟩<;>rw [k]
  ·obtain⟨y,f,h⟩:=bw h;cases h;unfold uL at f;obtain⟨p,j⟩:=(IY t t.an.l c5 [] [] .nil).id _ f;rw [d5] at j;exact⟨p.trans d5,by rw [j,r,cond_true,List.append_assoc],hm.ins _⟩
  ·rw [cond_false];rcases jN h with ⟨k,h⟩|⟨k,h⟩<;>rw [k]
   ·obtain⟨y,f,h⟩:=bw h;cases h;unfold uM at f;obtain⟨p,j⟩:=(IZ t t.au.l c5 [] [] .nil).id _ f;exact⟨p.trans d5,by rw [j,r,cond_true,List.append_assoc],hm.ins _⟩
   ·rw [cond_false];rcases jN h with ⟨k,h⟩|⟨k,h⟩<;>rw [k]
    ·obtain⟨s1,es,h⟩:=bw h;obtain rfl:=sV es;obtain⟨y,f,h⟩:=bw h;cases h;obtain⟨p,j⟩:=IX _ _ _ _ _ f;rw [d5] at j;exact⟨p.trans d5,by rw [j,r,cond_true,List.append_assoc],hm.ins _⟩
    ·cases h;exact⟨d5,by rw [r,cond_false,List.append_nil],hm.ins _⟩
 rcases AO h with ⟨g,v,ev,h⟩|⟨g,h⟩
 ·rw [RH d4 hl] at ev;cases ev;exact rest _ rfl h
 ·exact rest _ (by rw [g]; rfl) h
theorem I1 {d:ai}(hl:d.aj.l.length<=1048576):∀(l:List ag) (i:Nat) (c c':Z4) (m s:List Bs),d.aj.l.drop i=l->c.Fd=d->mq m s->nF l i c m=some c'->c'.Fd=d/\c'.bE.l=c.bE.l++jq d s l
 | [],i,c,c',m,s,_,f,_,h=>by rw [nF] at h; cases h; exact⟨f,by simp [jq]⟩
 | t::r,i,c,c',m,s,g,f,hm,h=>by
  obtain⟨t1,t2⟩:=mm g;rw [nF] at h;obtain⟨z,j,h⟩:=bw h;obtain⟨a,b,e⟩:=RJ t2 hl f hm j;obtain⟨a2,k⟩:=I1 hl r (i+1) z.1 c' z.2 _ t1 a e h;exact⟨a2,by rw [k,b,jq]; simp only [List.append_assoc]⟩
theorem RK {d:ai}(k:d.sz<=1048576) (b:Bool):∃l,yY d b=some l/\l.l=jr d b/\l.l.length<=9000000:=by
 have h1:=d.bA;have m:Sl.sz ag.sz d.aj=1+(d.aj.l.map ag.sz).sum:=rfl;have p:=Sl.ja (f:=ag.sz) d.aj ag.pos;obtain⟨c,e,f,l⟩:=jX (IR (d:=d) (fun t ht=>by have:=Sl.dA (f:=ag.sz) ht; omega) (by omega) d.aj.l 0 (Z4.mk d Sl.nil) [] rfl rfl (by show 0+_<=_; omega));have l:c.bE.l.length<=0+(5*d.aj.l.length+3*(d.aj.l.map ag.sz).sum):=l;obtain⟨_,hc⟩:=I1 (d:=d) (by omega) d.aj.l 0 (Z4.mk d Sl.nil) c [] [] rfl rfl .nil e
 have hc:c.bE.l=jq d [] d.aj.l:=hc;unfold yY;rw [e,oB];simp only [Ab.on,jV];unfold jr;cases b&&!(bg d.aj.l ([81,117,101,114,121]:Bs)).2
 ·exact⟨_,rfl,by show c.bE.l=_; rw [hc]; simp [b7],by show c.bE.l.length<=_; omega⟩
 ·obtain⟨c2,g,_,q⟩:=jX (lB (c:=c) (by omega) true 30 ([81,117,101,114,121]:Bs));rw [cond_true,g];obtain⟨_,j⟩:=kE _ _ _ _ _ g;exact⟨_,rfl,by show c2.bE.l=_; rw [j,hc],by show c2.bE.l.length<=_; omega⟩
theorem I2 {α:Type} [DecidableEq α]:∀(l m:List α),l.Nodup->(∀x∈l,x∈m)->l.length<=m.length
 | [],_,_,_=>by simp
 | a::r,m,hn,b=>by
  have h1:a∈m:=b a (by simp);have f:=I2 r (m.erase a) (List.nodup_cons.1 hn).2 fun x hx=>by
   refine(List.mem_erase_of_ne ?_).2 (b x (by simp [hx]));rintro rfl; exact(List.nodup_cons.1 hn).1 hx
  have g:=List.length_erase_of_mem h1;have j:0<m.length:=List.length_pos_of_mem h1;simp only [List.length_cons]; omega
def qx (d:ai) (own:Bs) (l:List Bs) (x:Z7):List Bs:=if gd d own x&&!l.contains x.ax.aa then l++[x.ax.aa] else l
def kF (d:ai) (t:List Z7) (own:Bs) (l:List Bs):List Bs:=t.foldl (qx d own) l
theorem uP (d:ai) (own:Bs) (t:List Z7):∀(l:List Bs) (n:Bs),n∈kF d t own l↔n∈l\/∃x∈t,gd d own x=true/\x.ax.aa=n:=by
 unfold kF;induction t with
 | nil=>intro l n; simp
 | cons x r b =>
  intro l n;rw [List.foldl_cons,b];unfold qx;simp only [List.mem_cons,exists_eq_or_imp]
  split
  ·rename_i h
   rw [Bool.and_eq_true] at h;simp only [List.mem_append,List.mem_singleton];constructor
   ·rintro ((h1|rfl)|h1)
    ·exact .inl h1
    ·exact .inr (.inl ⟨h.1,rfl⟩)
    ·exact .inr (.inr h1)
   ·rintro (h1|⟨_,rfl⟩|h1)
    ·exact .inl (.inl h1)
    ·exact .inl (.inr rfl)
    ·exact .inr h1
  ·rename_i h
   constructor
   ·rintro (h1|h1)
    ·exact .inl h1
    ·exact .inr (.inr h1)
   ·rintro (h1|⟨f,rfl⟩|h1)
    ·exact .inl h1
    ·rw [f,Bool.true_and] at h;exact .inl (by simpa using h)
    ·exact .inr h1
theorem I3 (d:ai) (own:Bs) (t:List Z7):∀(l:List Bs),l.Nodup->(kF d t own l).Nodup:=by
 unfold kF;induction t with
 | nil=>intro l h; exact h
 | cons x r g =>
  intro l hl;rw [List.foldl_cons];refine g _ ?_;unfold qx
  split
  ·rename_i h
   rw [Bool.and_eq_true] at h;have j:x.ax.aa∉l:=by simpa using h.2
   rw [List.nodup_append];refine⟨hl,by simp, ?_⟩;intro a k b f;simp only [List.mem_singleton] at f;subst f; rintro rfl; exact j k
  ·exact hl
theorem RL (d:ai) (own:Bs) (t:List Z7):∀(l:List Bs),l <+: kF d t own l:=by
 unfold kF;induction t with
 | nil=>intro l; exact List.prefix_refl _
 | cons x r b =>
  intro l;rw [List.foldl_cons];refine List.IsPrefix.trans ?_ (b _);unfold qx
  split
  ·exact List.prefix_append _ _
  ·exact List.prefix_refl _
theorem I4 {l:List ag}{s:Bs}(h:(bg l s).2=true):s∈l.map (·.aa):=by
 have hn:=uO h;rcases yU l s with e|e
 ·unfold bg at h e hn;cases b:l.find? (fun t=>t.aa==s) with
  | none=>rw [b] at h; cases h
  | some t=>exact List.mem_map.2 ⟨t,List.mem_of_find?_eq_some b,by have:=List.find?_some b; simpa using this⟩
 ·exact List.mem_map.2 ⟨_,e,hn⟩
theorem I5 {d:ai}{own:Bs}{x:Z7}(h:gd d own x=true):x.ax.aa=own\/x.ax.aa∈d.aj.l.map (·.aa):=by
 unfold gd at h;simp only [Bool.and_eq_true,Bool.or_eq_true] at h;rcases h.2 with h|h
 ·exact .inl (by simpa using h)
 ·exact .inr (I4 h.1)
structure nI (d:ai) (own:Bs) (t:List Z7) (i:Nat) (l:List Bs):Prop where
 reach:∀n∈l,fz d own t n
 first:∀x∈t,gd d own x=true->x.ax.aa∈l
 done:∀k (h:k<l.length),k<i->∀x∈jo d l[k],gd d own x=true->x.ax.aa∈l
 nodup:l.Nodup
 known:∀n∈l,n=own\/n∈d.aj.l.map (·.aa)
 le:i<=l.length
theorem nI.start (d:ai) (own:Bs) (t:List Z7):nI d own t 0 (kF d t own []):=by
 refine⟨fun n hn=>?_,fun x hx hg=>(uP _ _ _ _ _).2 (.inr ⟨x,hx,hg,rfl⟩),fun k _ h=>absurd h (Nat.not_lt_zero _),I3 _ _ _ _ List.nodup_nil,fun n hn=>?_,Nat.zero_le _⟩
 ·rcases (uP _ _ _ _ _).1 hn with h|⟨x,hx,hg,rfl⟩
  ·simp at h
  ·exact .here hx hg
 ·rcases (uP _ _ _ _ _).1 hn with h|⟨x,hx,hg,rfl⟩
  ·simp at h
  ·exact I5 hg
theorem nI.step {d:ai}{own:Bs}{t:List Z7}{i:Nat}{l:List Bs}(h:nI d own t i l) (hi:i<l.length):nI d own t (i+1) (kF d (jo d l[i]) own l):=by
 have b:=RL d own (jo d l[i]) l;have f:∀n,n∈l->n∈kF d (jo d l[i]) own l:=fun n hn=>(uP _ _ _ _ _).2 (.inl hn);refine⟨fun n hn=>?_,fun x hx hg=>f _ (h.first x hx hg),fun k hk m x hx hg=>?_,I3 _ _ _ _ h.nodup,fun n hn=>?_,Nat.le_trans hi b.length_le⟩
 ·rcases (uP _ _ _ _ _).1 hn with h1|⟨x,hx,hg,rfl⟩
  ·exact h.reach n h1
  ·exact .step (h.reach _ (List.getElem_mem hi)) hx hg
 ·have g:k<l.length:=by omega
  have e:(kF d (jo d l[i]) own l)[k]=l[k]:=(b.getElem g).symm;rw [e] at hx;by_cases j:k<i
  ·exact f _ (h.done k g j x hx hg)
  ·have:k=i:=by omega
   subst this;exact(uP _ _ _ _ _).2 (.inr ⟨x,hx,hg,rfl⟩)
 ·rcases (uP _ _ _ _ _).1 hn with h1|⟨x,hx,hg,rfl⟩
  ·exact h.known n h1
  ·exact I5 hg
theorem nI.len {d:ai}{own:Bs}{t:List Z7}{i:Nat}{l:List Bs}(h:nI d own t i l):l.length<=d.aj.l.length+1:=by
 have:=I2 l (own::d.aj.l.map (·.aa)) h.nodup fun x hx=>by
  rcases h.known x hx with e|e
  ·simp [e]
  ·exact List.mem_cons_of_mem _ e
 simpa using this
open Classical in
theorem nI.end {d:ai}{own:Bs}{t:List Z7}{i:Nat}{l:List Bs}(h:nI d own t i l) (hi:l.length<=i):l.contains own=decide (fz d own t own):=by
 have b:∀n,fz d own t n->n∈l:=by
  intro n hn;induction hn with
  | here hx hg=>exact h.first _ hx hg
  | @step n x _ hx hg f =>
   obtain⟨k,hk,e⟩:=List.getElem_of_mem f;exact h.done k hk (by omega) x (by rw [e]; exact hx) hg
 rw [Bool.eq_iff_iff];simp only [List.contains_iff_mem,decide_eq_true_eq];exact⟨fun hm=>h.reach _ hm,fun hr=>b _ hr⟩
end Go.Proofs
namespace Go.Proofs
open Go Go.Ab
theorem RM (s:Bs) (l:List ag):oL s l=(match l.find? (fun t=>t.aa==s) with|some t=>Sum.inr (t,true)|none=>Sum.inl ()):=by
 induction l with
 | nil=>rfl
 | cons a r b =>
  rw [oL,List.find?_cons];simp only [on,b];cases a.aa==s<;>rfl
theorem jY (d:ai) (s:Bs):fe d s=bg d.aj.l s:=by
 unfold fe bg on;rw [RM];cases d.aj.l.find? (fun t=>t.aa==s)<;>rfl
theorem uQ {l:List ag}{s:Bs}(h:(bg l s).2=false):(bg l s).1=ag.zero:=by
 unfold bg at h ⊢;cases e:l.find? (fun t=>t.aa==s) with
 | none=>rfl
 | some t=>rw [e] at h; cases h
theorem Eh (d:ai) (n:Bs):jH d n=iQ d n:=by
 unfold jH rZ iQ qy pe;simp only [on,jV,jY,show iO n=cW n from rfl];cases f:cW n<;>cases b:(bg d.aj.l n).2
 ·rw [uQ b]; rfl
 ·simp only [Bool.false_or,Bool.true_and,Bool.not_false,cond_true];cases decide ((bg d.aj.l n).1.ak=(4:Int))<;>rfl
 ·rfl
 ·rfl
theorem RN (s:Bs):yz s=some (fM s):=by
 unfold yz fM;simp only [on,Ry];cases ff s<;>rfl
theorem Bm (n:Bs) (bad before:Bool) (at_:Bs):∃nl,nt n bad before at_=some ⟨nl,b7 (bad||!fM n) 6 at_++b7 before 7 at_⟩:=by
 unfold nt;rw [RN];generalize fM n=b;cases bad<;>cases b<;>cases before<;>exact⟨_,rfl⟩
theorem sW {α:Type}(f:α->Bs) (n:Bs):∀l:List α,(l.map f).contains n=l.any fun y=>f y==n
 | []=>rfl
 | a::r=>by
  rw [List.map_cons,List.contains_cons,sW f n r,List.any_cons,BEq.comm]
theorem I6 (n:Bs):∀l:List Z7,(match lp n l with|.inl _=>false|.inr e=>e.2)=l.any fun y=>y.aa==n
 | []=>rfl
 | a::r=>by
  rw [lp,List.any_cons,<- I6 n r];simp only [on];cases a.aa==n<;>rfl
theorem RO (s:Sl Z7) (n:Bs):(jG s n).2=(s.l.map Z7.aa).contains n:=by
 rw [sW,<- I6];unfold jG;simp only [on];cases lp n s.l<;>rfl
theorem I7 (n:Bs):∀l:List Z6,(match nv n l with|.inl _=>false|.inr e=>e.2)=l.any fun y=>y.aa==n
 | []=>rfl
 | a::r=>by
  rw [nv,List.any_cons,<- I7 n r];simp only [on];cases a.aa==n<;>rfl
theorem RP (t:ag) (n:Bs):(rY t n).2=(t.an.l.map Z6.aa).contains n:=by
 rw [sW,<- I7];unfold rY;simp only [on];cases nv n t.an.l<;>rfl
theorem sX {α:Type}{l r:List α}{i:Nat}{x:α}(h:l.drop i=x::r):l.take (i+1)=l.take i++[x]:=by
 rw [List.take_add_one,(mm h).2]; rfl
theorem mr {s r:Sl Z5}(h:s.l.length+r.l.length<=1000000000000):bf 24 s r=some ⟨s.nl&&r.l.isEmpty,s.l++r.l⟩:=jE (by decide) (by omega)
theorem yZ (u:Sl Z5) (b:Bool) (e:Int) (at_:Bs) (h:u.l.length<=100000000000):∃nl,(bif b then((bf 24 u (⟨false,[(Z5.mk e at_)]⟩:Sl Z5)).bind fun x=>some x) else some u)=some ⟨nl,u.l++b7 b e at_⟩:=by
 cases b
 ·exact⟨u.nl,by simp [b7]⟩
 ·rw [cond_true,mr (by simp; omega)]; exact⟨_,rfl⟩
theorem RQ (d:ai) (n at_:Bs) (u:Sl Z5) (h:u.l.length<=100000000000):∃nl,(bif (!oN d n) then((bf 24 u (⟨false,[(Z5.mk 8 at_)]⟩:Sl Z5)).bind fun b=>some b) else(bif (!iQ d n) then((bf 24 u (⟨false,[(Z5.mk 10 at_)]⟩:Sl Z5)).bind fun f=>some f) else(some u)))=some ⟨nl,u.l++lC d n at_ 1⟩:=by
 have e:(!oN d n)=(!(bg d.aj.l n).2&&!cW n):=by
  unfold oN;simp only [on,jY,show iO n=cW n from rfl];cases cW n<;>cases (bg d.aj.l n).2<;>rfl
 rw [e];unfold lC;cases (!(bg d.aj.l n).2&&!cW n)
 ·exact yZ u _ 10 at_ h
 ·exact yZ u true 8 at_ h
theorem RR (d:ai) (n at_:Bs) (u:Sl Z5) (h:u.l.length<=100000000000):∃nl,(bif (!oN d n) then((bf 24 u (⟨false,[(Z5.mk 8 at_)]⟩:Sl Z5)).bind fun b=>some b) else(bif (((!cW n)&&(bg d.aj.l n).2)&&(decide ((bg d.aj.l n).1.ak=(5:Int)))) then((bf 24 u (⟨false,[(Z5.mk 10 at_)]⟩:Sl Z5)).bind fun f=>some f) else(some u)))=some ⟨nl,u.l++lC d n at_ 0⟩:=by
 have e:(!oN d n)=(!(bg d.aj.l n).2&&!cW n):=by
  unfold oN;simp only [on,jY,show iO n=cW n from rfl];cases cW n<;>cases (bg d.aj.l n).2<;>rfl
 have g:(((!cW n)&&(bg d.aj.l n).2)&&(decide ((bg d.aj.l n).1.ak=(5:Int))))=(!cW n&&decide ((bg d.aj.l n).1.ak=(5:Int))):=by
  cases j:(bg d.aj.l n).2
  ·rw [uQ j]; cases cW n<;>rfl
  ·cases cW n<;>rfl
 rw [e,g];unfold lC;cases (!(bg d.aj.l n).2&&!cW n)
 ·exact yZ u _ 10 at_ h
 ·exact yZ u true 8 at_ h
theorem I8 {d:ai}{a1:Sl Z7}{a b:Bs}(j:a.length<=4000000) (k:b.length<=4000000):∀(l:List Z7) (i:Nat) (s:Sl Z5),a1.l.drop i=l->(∀x∈l,x.aa.length<=1048576) ->
  s.l.length+(jc d a b ((a1.l.take i).map Z7.aa) l).length<=10000000000->∃nl,oO d a1 a b l i s=some ⟨nl,s.l++jc d a b ((a1.l.take i).map Z7.aa) l⟩
 | [],i,s,_,_,_=>⟨s.nl,by rw [oO]; simp [jc]⟩
 | x::r,i,s,f,hx,hl=>by
  have hn:=hx x (.head _);rw [jc] at hl ⊢;simp only [List.length_append] at hl;rw [oO];simp only [on,Eh];rw [dI (by omega),oB,dI (by simp; omega),oB,RO];obtain⟨v,g⟩:=Bm x.aa false (((a1.l.take i).map Z7.aa).contains x.aa) (a++x.aa++b);simp only [Bool.false_or] at g;rw [g,oB,mr (by simp only [List.length_append]; omega),oB]
  obtain⟨m,p⟩:=RQ d x.ax.aa (a++x.aa++b) ⟨s.nl&&(b7 (!fM x.aa) 6 (a++x.aa++b)++b7 (((a1.l.take i).map Z7.aa).contains x.aa) 7 (a++x.aa++b)).isEmpty,s.l++(b7 (!fM x.aa) 6 (a++x.aa++b)++b7 (((a1.l.take i).map Z7.aa).contains x.aa) 7 (a++x.aa++b))⟩ (by simp only [List.length_append]; omega);rw [p,oB];have ht:(a1.l.take (i+1)).map Z7.aa=(a1.l.take i).map Z7.aa++[x.aa]:=by rw [sX f,List.map_append]; rfl
  obtain⟨q,t⟩:=I8 (d:=d) j k r (i+1) ⟨m,(s.l++(b7 (!fM x.aa) 6 (a++x.aa++b)++b7 (((a1.l.take i).map Z7.aa).contains x.aa) 7 (a++x.aa++b)))++lC d x.ax.aa (a++x.aa++b) 1⟩ (mm f).1 (fun y u=>hx y (.tail _ u)) (by rw [ht]; simp only [List.length_append]; omega);rw [t,ht];exact⟨q,by simp only [List.append_assoc]⟩
theorem I9 {d:ai}(a1:Sl Z7){a b:Bs}(f:a.length<=4000000) (g:b.length<=4000000) (hx:∀x∈a1.l,x.aa.length<=1048576) (hl:(jc d a b [] a1.l).length<=10000000000):∃nl,r_ d a1 a b=some ⟨nl,jc d a b [] a1.l⟩:=by
 obtain⟨nl,e⟩:=I8 (d:=d) f g a1.l 0 (Sl.nil:Sl Z5) rfl hx (by show 0+_<=_; simpa using hl);unfold r_;rw [e];exact⟨nl,rfl⟩
theorem I_ {d:ai}{t:ag}(k:t.aa.length<=1048576):∀(l:List Z6) (i:Nat) (s:Sl Z5),t.an.l.drop i=l->(∀x∈l,x.aa.length<=1048576/\∀y∈x.az.l,y.aa.length<=1048576) ->
  s.l.length+(mo d t.aa ((t.an.l.take i).map Z6.aa) l).length<=10000000000->∃nl,nw d t l i s=some ⟨nl,s.l++mo d t.aa ((t.an.l.take i).map Z6.aa) l⟩
 | [],i,s,_,_,_=>⟨s.nl,by rw [nw]; simp [mo]⟩
 | x::r,i,s,g,hx,hl=>by
  obtain⟨hn,f⟩:=hx x (.head _);rw [mo] at hl ⊢;simp only [List.length_append] at hl;rw [nw];simp only [on,jY,show iO x.ax.aa=cW x.ax.aa from rfl];rw [dI (by simp; omega),oB,dI (by simp; omega),oB,RP];obtain⟨v,j⟩:=Bm x.aa false (((t.an.l.take i).map Z6.aa).contains x.aa) (t.aa++[46]++x.aa);simp only [Bool.false_or] at j
  rw [j,oB,mr (by simp only [List.length_append]; omega),oB];obtain⟨m,p⟩:=RR d x.ax.aa (t.aa++[46]++x.aa) ⟨s.nl&&(b7 (!fM x.aa) 6 (t.aa++[46]++x.aa)++b7 (((t.an.l.take i).map Z6.aa).contains x.aa) 7 (t.aa++[46]++x.aa)).isEmpty,s.l++(b7 (!fM x.aa) 6 (t.aa++[46]++x.aa)++b7 (((t.an.l.take i).map Z6.aa).contains x.aa) 7 (t.aa++[46]++x.aa))⟩ (by simp only [List.length_append]; omega)
  rw [p,oB,dI (by simp; omega),oB];obtain⟨w,q⟩:=I9 (d:=d) x.az (a:=t.aa++[46]++x.aa++[40]) (b:=[41]) (by simp; omega) (by simp) f (by omega);rw [q,oB,mr (by simp only [List.length_append]; omega),oB];have ht:(t.an.l.take (i+1)).map Z6.aa=(t.an.l.take i).map Z6.aa++[x.aa]:=by rw [sX g,List.map_append]; rfl
  obtain⟨n4,u⟩:=I_ (d:=d) k r (i+1) ⟨m&&(jc d (t.aa++[46]++x.aa++[40]) [41] [] x.az.l).isEmpty,((s.l++(b7 (!fM x.aa) 6 (t.aa++[46]++x.aa)++b7 (((t.an.l.take i).map Z6.aa).contains x.aa) 7 (t.aa++[46]++x.aa)))++lC d x.ax.aa (t.aa++[46]++x.aa) 0)++jc d (t.aa++[46]++x.aa++[40]) [41] [] x.az.l⟩ (mm g).1 (fun y f=>hx y (.tail _ f)) (by rw [ht]; simp only [List.length_append]; omega)
  rw [u,ht];exact⟨n4,by simp only [List.append_assoc]⟩
theorem Ei (t:ag) (x:Z8):∀(m k:Nat) (b:Bool),k+m<=t.au.l.length->ql t x m k b=some (b||((t.au.l.drop k).take m).any fun y=>y.aa==x.aa)
 | 0,k,b,_=>by rw [ql]; simp
 | m+1,k,b,h=>by
  rw [ql];have hk:k<t.au.l.length:=by omega
  rw [List.drop_eq_getElem_cons hk,List.take_succ_cons,List.any_cons];cases b
  ·simp only [aY,Bool.not_false,if_true,List.getElem?_eq_getElem hk,oB,Bool.false_or];rw [Ei t x m (k+1) _ (by omega)]
  ·simp only [aY,Bool.not_true,Bool.false_eq_true,if_false,Bool.true_or];rw [Ei t x m (k+1) _ (by omega),Bool.true_or]
theorem Ja {t:ag}(f:t.aa.length<=1048576):∀(l:List Z8) (i:Nat) (s:Sl Z5),t.au.l.drop i=l->(∀x∈l,x.aa.length<=1048576) ->
  s.l.length+(kD t.aa ((t.au.l.take i).map Z8.aa) l).length<=10000000000->∃nl,mc t l i s=some ⟨nl,s.l++kD t.aa ((t.au.l.take i).map Z8.aa) l⟩
 | [],i,s,_,_,_=>⟨s.nl,by rw [mc]; simp [kD]⟩
 | x::r,i,s,b,hx,hl=>by
  have hn:=hx x (.head _);have hi:i<t.au.l.length:=by
   have:=congrArg List.length b; simp at this; omega
  rw [kD] at hl ⊢;simp only [List.length_append] at hl;rw [mc];simp only [on];rw [Ei t x i 0 false (by omega),oB,dI (by simp; omega),oB,dI (by simp; omega),oB,List.drop_zero,Bool.false_or,<- sW];obtain⟨p,g⟩:=Bm x.aa (nG x.aa) (((t.au.l.take i).map Z8.aa).contains x.aa) (t.aa++[46]++x.aa);have j:nt x.aa ((((x.aa==([116,114,117,101]:Bs)))||((x.aa==([102,97,108,115,101]:Bs))))||((x.aa==([110,117,108,108]:Bs)))) (((t.au.l.take i).map Z8.aa).contains x.aa) (t.aa++[46]++x.aa)=_:=g
  rw [j,oB,mr (by simp only [List.length_append]; omega),oB];have ht:(t.au.l.take (i+1)).map Z8.aa=(t.au.l.take i).map Z8.aa++[x.aa]:=by rw [sX b,List.map_append]; rfl
  have H:∀u:Sl Z5,u.l=s.l++(b7 (nG x.aa||!fM x.aa) 6 (t.aa++[46]++x.aa)++b7 (((t.au.l.take i).map Z8.aa).contains x.aa) 7 (t.aa++[46]++x.aa)) ->
    ∃nl,mc t r (i+1) u=some ⟨nl,s.l++((b7 (nG x.aa||!fM x.aa) 6 (t.aa++[46]++x.aa)++b7 (((t.au.l.take i).map Z8.aa).contains x.aa) 7 (t.aa++[46]++x.aa))++kD t.aa ((t.au.l.take i).map Z8.aa++[x.aa]) r)⟩:=by
   intro u hu;obtain⟨n4,k⟩:=Ja f r (i+1) u (mm b).1 (fun y m=>hx y (.tail _ m)) (by rw [ht,hu]; simp only [List.length_append]; omega);rw [k,ht,hu];exact⟨n4,by simp only [List.append_assoc]⟩
  exact H _ rfl
theorem Jb (n:Bs):∀l:List Bs,(match qk n l with|.inl _=>false|.inr e=>e)=l.contains n
 | []=>rfl
 | a::r=>by
  rw [qk,List.contains_cons,<- Jb n r,BEq.comm];simp only [on];cases a==n<;>rfl
theorem Jc (s:Sl Bs) (n:Bs):vV s n=s.l.contains n:=by
 rw [<- Jb];unfold vV;simp only [on];cases qk n s.l<;>rfl
theorem RS (t:aL):yA t=some (sS t):=by
 unfold yA sS;cases h:t.aK.l with
 | nil=>rfl
 | cons a r =>
  cases b:decide (((((a::r:List Int)).length:Nat):Int)=(1:Int))
  ·rfl
  ·rfl
theorem Ej (d:ai) (own:Bs):∀(l:List Z7) (s:Sl Bs),s.l.length+l.length<=1000000000->∃nl,oM d own l s=some ⟨nl,kF d l own s.l⟩
 | [],s,_=>⟨s.nl,by rw [oM]; rfl⟩
 | x::r,s,h=>by
  simp only [List.length_cons] at h;rw [oM];simp only [on,jY];rw [RS,oB];have e:(sS x.ax&&(x.ax.aa==own||(bg d.aj.l x.ax.aa).2&&decide ((bg d.aj.l x.ax.aa).1.ak=5)))=gd d own x:=rfl;rw [e,Jc];have f:(gd d own x&&!(bif gd d own x then s.l.contains x.ax.aa else false))=(gd d own x&&!s.l.contains x.ax.aa):=by cases gd d own x<;>rfl
  rw [f];have g:kF d (x::r) own s.l=kF d r own (qx d own s.l x):=rfl;rw [g];cases b:gd d own x&&!s.l.contains x.ax.aa
  ·have hn:qx d own s.l x=s.l:=by unfold qx; rw [b]; rfl
   rw [hn];exact Ej d own r s (by omega)
  ·have hn:qx d own s.l x=s.l++[x.ax.aa]:=by unfold qx; rw [b]; rfl
   rw [hn,cond_true,jE (by decide) (by simp; omega),oB,oB];exact Ej d own r ⟨_,s.l++[x.ax.aa]⟩ (by simp; omega)
theorem Jd (d:ai) (t:ag) (own:Bs) (s:Sl Bs) (h:s.l.length+t.ay.l.length<=1000000000):∃nl,vW d t own s=some ⟨nl,kF d t.ay.l own s.l⟩:=by
 obtain⟨nl,e⟩:=Ej d own t.ay.l s h;rw [Qu];unfold A5;rw [e];exact⟨nl,rfl⟩
theorem RU {d:ai}(b:∀t∈d.aj.l,t.sz<=1048576) (n:Bs):(jo d n).length<=1048576:=by
 unfold jo;rcases yU d.aj.l n with e|e
 ·rw [e]; exact Nat.zero_le _
 ·have h1:=b _ e;have g:=(bg d.aj.l n).1.bA;have j:=Sl.ja (f:=Z7.sz) (bg d.aj.l n).1.ay Z7.pos;omega
open Classical in
theorem Je {d:ai}(b:∀t∈d.aj.l,t.sz<=1048576) (hl:d.aj.l.length<=1048576) (t:ag):∀(n i:Nat) (s:Sl Bs),nI d t.aa t.ay.l i s.l->d.aj.l.length+2<i+n->vX d t n s i=some (decide (fz d t.aa t.ay.l t.aa))
 | 0,i,s,hw,h=>by have:=hw.len; have:=hw.le; omega
 | n+1,i,s,hw,h=>by
  have hlen:=hw.len;rw [vX];by_cases hi:i<s.l.length
  ·rw [dT (by omega:((i:Nat):Int)<((s.l.length:Nat):Int)),cond_true,List.getElem?_eq_getElem hi,oB,Qi,oB,jY];have f:=RU b s.l[i];obtain⟨nl,e⟩:=Jd d (bg d.aj.l s.l[i]).1 t.aa s (by unfold jo at f; omega);rw [e,oB];exact Je b hl t n (i+1) ⟨nl,_⟩ (hw.step hi) (by omega)
  ·rw [dF (by omega:¬((i:Nat):Int)<((s.l.length:Nat):Int)),cond_false];unfold A6;rw [Qr,oB,Jc,hw.end (by omega)]
open Classical in
theorem RV {d:ai}(b:∀t∈d.aj.l,t.sz<=1048576) (hl:d.aj.l.length<=1048576){t:ag}(ht:t.sz<=1048576):yB d t=some (decide (t.ak=5)&&kC d t):=by
 unfold yB kC;cases decide (t.ak=5)
 ·rfl
 ·have g:=t.bA;have j:=Sl.ja (f:=Z7.sz) t.ay Z7.pos;obtain⟨nl,e⟩:=Jd d t t.aa (Sl.nil:Sl Bs) (by show 0+_<=_; omega);rw [Bool.not_true,cond_false,e,oB,Bool.true_and];exact Je b hl t F0 0 ⟨nl,_⟩ (nI.start d t.aa t.ay.l) (by rw [gz]; omega)
theorem RW (t:ag):A2 t=sU t:=rfl
theorem RX {d:ai}(k:∀t∈d.aj.l,t.sz<=1048576) (hl:d.aj.l.length<=1048576){t:ag}(ht:t.sz<=1048576) (b:Bool):∃nl,vZ d t b=some ⟨nl,(b7 (!fM t.aa) 6 t.aa++b7 b 7 t.aa)++(b7 (sU t) 8 t.aa++(b7 (ww t) 9 t.aa++b7 (decide (t.ak=(5:Int))&&kC d t) 5 t.aa))⟩:=by
 unfold vZ;obtain⟨m,p⟩:=Bm t.aa false b t.aa;rw [Qn,p,oB,Qp,oB,RW,Bool.false_or];have len:∀b e,(b7 b e t.aa).length<=1:=fun b e=>by cases b<;>simp [b7]
 have r:=len (!fM t.aa) 6; have s:=len b 7;have f:∀u:Sl Z5,yC u=some u:=fun _=>rfl;have g:∀u:Sl Z5,u.l.length<=10->∃nl,rX d t u=some ⟨nl,u.l++b7 (decide (t.ak=(5:Int))&&kC d t) 5 t.aa⟩:=fun u hu=>by
  unfold rX;rw [RV k hl ht,oB];cases decide (t.ak=(5:Int))&&kC d t
  ·exact⟨u.nl,by simp [b7,f]⟩
  ·rw [cond_true,mr (by simp; omega),oB,f]; exact⟨_,rfl⟩
 have j:∀u:Sl Z5,u.l.length<=8->∃nl,vY d t u=some ⟨nl,u.l++(b7 (ww t) 9 t.aa++b7 (decide (t.ak=(5:Int))&&kC d t) 5 t.aa)⟩:=fun u hu=>by
  unfold vY;have hk:∀c,c=ww t->∃nl,(bif c then((bf 24 u (⟨false,[(Z5.mk 9 t.aa)]⟩:Sl Z5)).bind fun q=>rX d t q) else(rX d t u))=some ⟨nl,u.l++(b7 (ww t) 9 t.aa++b7 (decide (t.ak=(5:Int))&&kC d t) 5 t.aa)⟩:=by
   intro c hc;rw [<- hc];cases c
   ·obtain⟨nl,e⟩:=g u (by omega);exact⟨nl,by rw [cond_false,e]; simp [b7]⟩
   ·obtain⟨nl,e⟩:=g ⟨_,u.l++[Z5.mk 9 t.aa]⟩ (by simp; omega);rw [cond_true,mr (by simp; omega),oB,e];exact⟨nl,by simp [b7]⟩
  exact hk _ rfl
 cases sU t
 ·obtain⟨nl,e⟩:=j ⟨m,b7 (!fM t.aa) 6 t.aa++b7 b 7 t.aa⟩ (by simp; omega);exact⟨nl,by rw [cond_false,e]; simp [b7]⟩
 ·obtain⟨nl,e⟩:=j ⟨_,(b7 (!fM t.aa) 6 t.aa++b7 b 7 t.aa)++[Z5.mk 8 t.aa]⟩ (by simp; omega);rw [cond_true,mr (by simp; omega),oB,e];exact⟨nl,by simp [b7]⟩
theorem Ek {d:ai}(x:ag){i:Nat}(hi:i<=d.aj.l.length) (hl:d.aj.l.length<=1048576):∀(n k:Nat) (b:Bool),k<=i->i<k+n->v7 d (i:Int) x n b (k:Int)=vZ d x (b||((d.aj.l.drop k).take (i-k)).any fun y=>y.aa==x.aa)
 | 0,k,b,h1,j=>by omega
 | n+1,k,b,h1,j=>by
  rw [v7];by_cases hk:k<i
  ·rw [dT (by omega:((k:Nat):Int)<((i:Nat):Int)),cond_true];have f:k<d.aj.l.length:=by omega
   have hx:dh d.aj.l (k:Int)=some d.aj.l[k]:=by unfold dh; rw [if_pos (by simp),Int.toNat_natCast,List.getElem?_eq_getElem f]
   have g:cF (k:Int) 1=some ((k+1:Nat):Int):=by rw [fQ (by omega)]; rfl
   obtain⟨m,hm⟩:∃m,i-k=m+1:=⟨i-k-1,by omega⟩;rw [hx,hm,List.drop_eq_getElem_cons f,List.take_succ_cons,List.any_cons];cases b
   ·simp only [aY,Bool.not_false,if_true,oB,Bool.false_or,g];rw [Ek x hi hl n (k+1) _ (by omega) (by omega),show i-(k+1)=m by omega]
   ·simp only [aY,Bool.not_true,Bool.false_eq_true,if_false,oB,Bool.true_or,g];rw [Ek x hi hl n (k+1) _ (by omega) (by omega),Bool.true_or]
  ·have:i-k=0:=by omega
   rw [dF (by omega:¬((k:Nat):Int)<((i:Nat):Int)),cond_false,this,List.take_zero,List.any_nil,Bool.or_false]
theorem RY {d:ai}(b:∀t∈d.aj.l,t.sz<=1048576) (hl:d.aj.l.length<=1048576){t:ag}{i:Nat}(ht:d.aj.l[i]?=some t):∃nl,DV d (i:Int)=some ⟨nl,lD d ((d.aj.l.take i).map ag.aa) t⟩:=by
 have hi:=(List.getElem?_eq_some_iff.1 ht).1;have hx:dh d.aj.l (i:Int)=some t:=by unfold dh; rw [if_pos (by simp),Int.toNat_natCast,ht]
 unfold DV A7;rw [hx,oB,Qj,oB,show (0:Int)=((0:Nat):Int) from rfl,Ek t (by omega) hl F0 0 _ (Nat.zero_le _) (by rw [gz]; omega),List.drop_zero,Nat.sub_zero,<- sW,Bool.or_comm];exact RX b hl (b t (List.mem_of_getElem? ht)) _
theorem RZ {d:ai}{t:ag}(ht:t.sz<=1048576) (u:Sl Z5) (h:u.l.length+(nH d t).length<=10000000000) :
  ∃nl,(bif (bif (decide (t.ak=(1:Int))) then((decide (t.ak=(1:Int)))) else((decide (t.ak=(2:Int))))) then((yD d t).bind fun m=>(bf 24 u m).bind fun p=>some p) else(bif (decide (t.ak=(4:Int))) then((yE t).bind fun q=>(bf 24 u q).bind fun r=>some r) else(bif (decide (t.ak=(5:Int))) then((bV t.aa ([46]:Bs)).bind fun s=>(r_ d t.ay s ([]:Bs)).bind fun v=>(bf 24 u v).bind fun w=>some w) else(some u))))=some ⟨nl,u.l++nH d t⟩:=by
 have B:=t.bA;have hn:Bs.sz t.aa=t.aa.length+1:=rfl;have j:∀{x:Z7},x.sz<=1048576->x.aa.length<=1048576:=fun {x} h=>by have:=x.bA; have:Bs.sz x.aa=x.aa.length+1:=rfl; omega
 unfold nH at h ⊢
 revert h
 cases (bif (decide (t.ak=(1:Int))) then((decide (t.ak=(1:Int)))) else((decide (t.ak=(2:Int)))))
 ·simp only [cond_false];cases decide (t.ak=(4:Int))
  ·simp only [cond_false];cases decide (t.ak=(5:Int))
   ·intro h; exact⟨u.nl,by simp⟩
   ·simp only [cond_true];intro h;rw [dI (by simp; omega),oB];obtain⟨k,g⟩:=I9 (d:=d) t.ay (a:=t.aa++[46]) (b:=[]) (by simp; omega) (by simp) (fun x hx=>j (by have:=Sl.dA (f:=Z7.sz) hx; omega)) (by omega);rw [g,oB,mr (by simp only; omega)]; exact⟨_,rfl⟩
  ·simp only [cond_true];intro h;obtain⟨k,g⟩:=Ja (t:=t) (by omega) t.au.l 0 (Sl.nil:Sl Z5) rfl (fun x hx=>by have:=Sl.dA (f:=Z8.sz) hx; have:=x.bA; have:Bs.sz x.aa=x.aa.length+1:=rfl; omega) (by show 0+_<=_; simp only [List.take_zero,List.map_nil]; omega);unfold yE;rw [g];simp only [oB,on,Sl.nil,List.nil_append,List.take_zero,List.map_nil];rw [mr (by simp only; omega)]; exact⟨_,rfl⟩
 ·simp only [cond_true];intro h;obtain⟨k,g⟩:=I_ (d:=d) (t:=t) (by omega) t.an.l 0 (Sl.nil:Sl Z5) rfl (fun x hx=>by
   have h1:=Sl.dA (f:=Z6.sz) hx; have C:=x.bA; have:Bs.sz x.aa=x.aa.length+1:=rfl;exact⟨by omega,fun y z=>j (by have:=Sl.dA (f:=Z7.sz) z; omega)⟩) (by show 0+_<=_; simp only [List.take_zero,List.map_nil]; omega)
  unfold yD;rw [g];simp only [oB,on,Sl.nil,List.nil_append,List.take_zero,List.map_nil];rw [mr (by simp only; omega)]; exact⟨_,rfl⟩
theorem Jf {d:ai}(b:∀t∈d.aj.l,t.sz<=1048576) (hl:d.aj.l.length<=1048576):∀(l:List ag) (i:Nat) (s:Sl Z5),d.aj.l.drop i=l->s.l.length+(jq d ((d.aj.l.take i).map ag.aa) l).length<=10000000000->∃nl,oP d l i s=some ⟨nl,s.l++jq d ((d.aj.l.take i).map ag.aa) l⟩
 | [],i,s,_,_=>⟨s.nl,by rw [oP]; simp [jq]⟩
 | t::r,i,s,f,h=>by
  obtain⟨t1,t2⟩:=mm f;rw [jq] at h ⊢;simp only [List.length_append] at h;rw [oP];simp only [on];obtain⟨q,g⟩:=RY b hl t2;rw [g,oB,mr (by simp only; omega),oB];obtain⟨j,k⟩:=RZ (d:=d) (b t (List.mem_of_getElem? t2)) ⟨s.nl&&(lD d ((d.aj.l.take i).map ag.aa) t).isEmpty,s.l++lD d ((d.aj.l.take i).map ag.aa) t⟩ (by simp only [List.length_append]; omega)
  rw [k,oB];have ht:(d.aj.l.take (i+1)).map ag.aa=(d.aj.l.take i).map ag.aa++[t.aa]:=by rw [sX f,List.map_append]; rfl
  obtain⟨m,p⟩:=Jf b hl r (i+1) ⟨j,(s.l++lD d ((d.aj.l.take i).map ag.aa) t)++nH d t⟩ t1 (by rw [ht]; simp only [List.length_append]; omega);rw [p,ht];exact⟨m,by simp only [List.append_assoc]⟩
theorem R1 {d:ai}(f:∀t∈d.aj.l,t.sz<=1048576) (hl:d.aj.l.length<=1048576) (b:Bool) (h:(jr d b).length<=9000000):∃nl,yF d b=some ⟨nl,jr d b⟩:=by
 unfold jr at h ⊢;simp only [List.length_append] at h;obtain⟨g,j⟩:=Jf f hl d.aj.l 0 (Sl.nil:Sl Z5) rfl (by show 0+_<=_; simp only [List.take_zero,List.map_nil]; omega);unfold yF;rw [j];simp only [oB,on,jY,Sl.nil,List.nil_append,List.take_zero,List.map_nil];obtain⟨k,m⟩:=yZ ⟨g,jq d [] d.aj.l⟩ (b&&!(bg d.aj.l ([81,117,101,114,121]:Bs)).2) 30 ([81,117,101,114,121]:Bs) (by simp only; omega)
 rw [m];exact⟨k,rfl⟩
end Go.Proofs
namespace Go.Proofs
open Go Go.Ab
theorem R2 (s:Bs) (l:List Bs):∀n:Nat,(l.contains s=false->jZ s l n=Sum.inl ())/\(l.contains s=true->∃m:Nat,jZ s l n=Sum.inr (m:Int)):=by
 induction l with
 | nil=>intro n; exact⟨fun _=>rfl,fun h=>by simp at h⟩
 | cons a r b =>
  intro n;rw [jZ];simp only [Ab.on,List.contains_cons];cases s==a
  ·simp only [Bool.false_or,cond_false]; exact b (n+1)
  ·simp only [Bool.true_or,cond_true]; exact⟨fun h=>by simp at h,fun _=>⟨n,rfl⟩⟩
theorem El (a:Sl Bs) (s:Bs):lE a s=a.l.contains s:=by
 unfold lE nJ;simp only [Ab.on];have h:=R2 s a.l 0;cases hc:a.l.contains s
 ·rw [h.1 hc]; rfl
 ·obtain⟨m,e⟩:=h.2 hc;rw [e]; exact dT (by simp)
theorem Jg (a1:Sl Int):∀(l:List Int) (s:Nat),l.length+s=a1.l.length->nK a1 l s=some (if l=a1.l.drop s then Sum.inl () else Sum.inr false)
 | [],s,h=>by
  rw [nK,if_pos];rw [List.drop_eq_nil_of_le]; simp at h; omega
 | x::r,s,h=>by
  simp only [List.length_cons] at h;have b:s<a1.l.length:=by omega
  have hg:=List.getElem?_eq_getElem b;rw [nK];simp only [Ab.on];rw [hg,oB,Jg a1 r (s+1) (by omega),Q.nr hg];generalize a1.l[s]=y;generalize a1.l.drop (s+1)=t;by_cases e:x=y
  ·subst e; simp only [decide_true,Bool.not_true,cond_false,List.cons.injEq,true_and]
  ·simp [e]
theorem Jh (a b:Sl Int):wx a b=some (decide (a.l=b.l)):=by
 unfold wx;by_cases h:a.l.length=b.l.length
 ·rw [show decide ((a.l.length:Int)=(b.l.length:Int))=true from dT (by omega)];simp only [Bool.not_true,cond_false];rw [Jg b a.l 0 (by omega),List.drop_zero];by_cases e:a.l=b.l<;>simp [e,Ab.on]
 ·rw [show decide ((a.l.length:Int)=(b.l.length:Int))=false from dF (by omega)];have:a.l≠b.l:=fun e=>h (by rw [e]);simp [this]
theorem Ji (a1:Sl Int):∀(l:List Int) (s:Nat),oQ a1 l s=nK a1 l s
 | [],s=>rfl
 | x::r,s=>by rw [oQ,nK]; simp only [Ab.on,Ji a1 r]
theorem R3 (a b:Sl Int):uA a b=some (decide (a.l=b.l)):=by
 rw [<- Jh]; unfold uA wx; rw [Ji]; all_goals rfl
theorem wy (t:aL):iv t=fo t.aK.l:=wu t
theorem Em {t:aL}(h:t.aK.l.length<=1048576) (h1:1<=t.aK.l.length):wz t=some ⟨t.aa,⟨false,t.aK.l.drop 1⟩⟩:=by
 unfold wz;rw [DN h1,oB,jE (by decide) (by simp; omega)];simp
theorem uR {t:aL}(h:t.aK.l.length<=1048576):qz t=some ⟨t.aa,⟨false,(cn t.aK).l⟩⟩:=by
 unfold qz cn;simp only [Ab.on,wy];cases hn:fo t.aK.l
 ·simp only [cond_false];rw [jE (by decide) (by simp; omega)];simp
 ·simp only [cond_true];rw [Em h (Eb hn)]; rfl
theorem y2 (s:Sl Int):(cn s).l.length<=s.l.length:=by unfold cn; cases fo s.l<;>simp
theorem Jj {t:aL}(h:t.aK.l.length<=1048576):y5 t=some (gQ (cn t.aK).l):=by
 unfold y5;rw [uR h];simp only [oB,Ab.on,gQ];cases (cn t.aK).l with
 | nil=>rfl
 | cons a r=>simp; by_cases h:a=2<;>simp [h]
theorem y7 {t:aL}(h:t.aK.l.length<=1048576):mu t=some (bif gQ (cn t.aK).l then(⟨t.aa,⟨false,(cn t.aK).l.drop 1⟩⟩,true) else(⟨[],Sl.nil⟩,false)):=by
 unfold mu;rw [Jj h];simp only [oB];cases hl:gQ (cn t.aK).l with
 | false=>rfl
 | true =>
  simp only [Bool.not_true,cond_false,cond_true];rw [uR h,oB,Em (by have:=y2 t.aK; simp only; omega) (Bh hl)];rfl
theorem Jk {f:Bs->Option Bool}:∀{l:List Bs},(∀s∈l,∃b,f s=some b)->∃r,vK f l=some r
 | [],_=>⟨_,rfl⟩
 | s::l,h=>by
  obtain⟨b,e⟩:=h s (.head _);obtain⟨r,g⟩:=Jk (l:=l) fun x hx=>h x (.tail _ hx);exact⟨_,by rw [vK,e,oB,g]; rfl⟩
theorem wB {t:aL}(h:fo t.aK.l=true):(lu t).aK.l.length<t.aK.l.length:=by
 have:=Eb h;simp only [lu,cn,h,cond_true,List.length_drop]; omega
def jd (d:ai) (a n:Bs):Bool :=
 (bg d.aj.l n).2&&(decide ((bg d.aj.l n).1.ak=1)&&((decide ((bg d.aj.l a).1.ak=1)&&n==a)||((decide ((bg d.aj.l a).1.ak=2)&&(bg d.aj.l n).1.aH.l.contains a)||(decide ((bg d.aj.l a).1.ak=3)&&(bg d.aj.l a).1.au.l.any fun y=>y.aa==n))))
def mv (d:ai) (a:Bs) (x:ag×Bool) (s:Bs):Bool:=(bg d.aj.l s).2&&(decide ((bg d.aj.l s).1.ak=1)&&(!decide (x.1.ak=2)||(bg d.aj.l s).1.aH.l.contains a))
theorem Jl (t:ag) (a:Bs):Bn t a=t.aH.l.contains a:=El _ _
theorem Jm (d:ai) (a:Bs) (x:ag×Bool) (s:Bs):wC d a x s=some (mv d a x s):=by
 unfold wC mv;rw [Jn,oB];simp only [jV,Jo,Jl];cases (bg d.aj.l s).2<;>cases decide ((bg d.aj.l s).1.ak=(1:Int))<;>cases decide (x.1.ak=(2:Int))<;>cases (bg d.aj.l s).1.aH.l.contains a<;>rfl
theorem En (d:ai) (h:d.aj.l.length<=1048576):∀(n:Nat) (o:Sl Bs) (s:Nat) (l:List Bs),s<=d.aj.l.length->d.aj.l.length<s+n->o.l.length+(d.aj.l.length-s)<=2097152 ->
  ∃r,sY d n o s l=some r/\∀z,z∈r.l↔z∈o.l\/z∈l/\z∈(d.aj.l.drop s).map ag.aa
 | 0,_,_,_,h1,b,_=>by omega
 | n+1,o,s,l,h1,b,j=>by
  rw [sY];by_cases f:s<d.aj.l.length
  ·rw [show decide (((s:Nat):Int)<((d.aj.l.length:Nat):Int))=true from dT (by omega),cond_true,List.getElem?_eq_getElem f,oB];unfold y8;have g:(d.aj.l.drop s).map ag.aa=d.aj.l[s].aa::(d.aj.l.drop (s+1)).map ag.aa:=by rw [List.drop_eq_getElem_cons f]; rfl
   cases hc:l.contains d.aj.l[s].aa
   ·obtain⟨r,e,hr⟩:=En d h n o (s+1) l (by omega) (by omega) (by omega);rw [cond_false];refine⟨r,e,fun z=>?_⟩;rw [hr z,g,List.mem_cons];have hn:d.aj.l[s].aa∉l:=by simpa using hc
    constructor
    ·rintro (h1|⟨h1,b⟩)
     ·exact .inl h1
     ·exact .inr ⟨h1,.inr b⟩
    ·rintro (h1|⟨h1,b|b⟩)
     ·exact .inl h1
     ·rw [b] at h1; exact absurd h1 hn
     ·exact .inr ⟨h1,b⟩
   ·have hm:d.aj.l[s].aa∈l:=by simpa using hc
    rw [cond_true,jE (by decide) (by simp; omega),oB];obtain⟨r,e,hr⟩:=En d h n ⟨_,o.l++[d.aj.l[s].aa]⟩ (s+1) (List.erase l d.aj.l[s].aa) (by omega) (by omega) (by simp; omega);refine⟨r,e,fun z=>?_⟩;rw [hr z,g,List.mem_cons];simp only [List.mem_append,List.mem_singleton];by_cases hz:z=d.aj.l[s].aa
    ·subst hz;exact⟨fun _=>.inr ⟨hm,.inl rfl⟩,fun _=>.inl (.inr rfl)⟩
    ·rw [List.mem_erase_of_ne hz];constructor
     ·rintro ((h1|h1)|⟨h1,b⟩)
      ·exact .inl h1
      ·exact absurd h1 hz
      ·exact .inr ⟨h1,.inr b⟩
     ·rintro (h1|⟨h1,b|b⟩)
      ·exact .inl (.inl h1)
      ·exact absurd b hz
      ·exact .inr ⟨h1,b⟩
  ·rw [show decide (((s:Nat):Int)<((d.aj.l.length:Nat):Int))=false from dF (by omega),cond_false];refine⟨o,rfl,fun z=>?_⟩;rw [List.drop_of_length_le (by omega)];simp
theorem Bo (d:ai) (h:d.aj.l.length<=1048576) (a:Bs) (x:ag×Bool) (l:List Bs):∃r,sZ d a x l=some r/\∀z,z∈r.l↔z∈l/\mv d a x z=true:=by
 unfold sZ;obtain⟨r,e⟩:=Jk (l:=l) (f:=wC d a x) fun s _=>⟨_,Jm d a x s⟩;obtain⟨_,hr⟩:=Dy e;rw [e,oB];unfold Bp;obtain⟨b,g,j⟩:=En d h (d.aj.l.length+1) (Sl.nil:Sl Bs) 0 r (Nat.zero_le _) (by omega) (by show 0+_<=_; omega);refine⟨b,g,fun z=>?_⟩;rw [j z,List.drop_zero,hr,List.mem_filter,Jm];have k:(some (mv d a x z)==some true)=mv d a x z:=by cases mv d a x z<;>rfl
 rw [k];constructor
 ·rintro (h1|⟨h1,_⟩)
  ·cases h1
  ·exact h1
 ·intro h1;refine .inr ⟨h1, ?_⟩;have hk:=h1.2;unfold mv at hk;rw [Bool.and_eq_true] at hk;exact I4 hk.1
theorem Eo (d:ai) (h:d.aj.l.length<=1048576) (a:Bs) (x:ag×Bool):∀(n s:Nat) (l:List Bs),s<=d.aj.l.length->d.aj.l.length<s+n ->
  ∃r,s4 d a x n s l=some r/\∀z,z∈r.l↔(z∈l\/∃y∈d.aj.l.drop s,y.aH.l.contains a=true/\y.aa=z)/\mv d a x z=true
 | 0,_,_,h1,f=>by omega
 | n+1,s,l,h1,f=>by
  rw [s4];by_cases b:s<d.aj.l.length
  ·rw [show decide (((s:Nat):Int)<((d.aj.l.length:Nat):Int))=true from dT (by omega),cond_true,List.getElem?_eq_getElem b,oB,Jo,oB,Jl];unfold y9;rw [List.drop_eq_getElem_cons b];cases hc:d.aj.l[s].aH.l.contains a
   ·obtain⟨r,e,hr⟩:=Eo d h a x n (s+1) l (by omega) (by omega);rw [cond_false];refine⟨r,e,fun z=>?_⟩;rw [hr z];simp only [List.mem_cons,exists_eq_or_imp,hc,Bool.false_eq_true,false_and,false_or]
   ·obtain⟨r,e,hr⟩:=Eo d h a x n (s+1) (cw l d.aj.l[s].aa) (by omega) (by omega);rw [cond_true];refine⟨r,e,fun z=>?_⟩;rw [hr z,uN];simp only [List.mem_cons,exists_eq_or_imp,hc,true_and];rw [or_assoc,eq_comm (a:=z)]
  ·rw [show decide (((s:Nat):Int)<((d.aj.l.length:Nat):Int))=false from dF (by omega),cond_false];obtain⟨r,e,hr⟩:=Bo d h a x l;refine⟨r,e,fun z=>?_⟩;rw [hr z,List.drop_of_length_le (by omega)];simp
theorem Jp (d:ai) (h:d.aj.l.length<=1048576) (a:Bs) (x:ag×Bool):∀(n s:Nat) (l:List Bs),s<=x.1.au.l.length->x.1.au.l.length<s+n ->
  ∃r,wD d a x n s l=some r/\∀z,z∈r.l↔(z∈l\/∃y∈x.1.au.l.drop s,y.aa=z)/\mv d a x z=true
 | 0,_,_,h1,f=>by omega
 | n+1,s,l,h1,f=>by
  rw [wD];by_cases b:s<x.1.au.l.length
  ·rw [show decide (((s:Nat):Int)<((x.1.au.l.length:Nat):Int))=true from dT (by omega),cond_true,List.getElem?_eq_getElem b,oB,List.drop_eq_getElem_cons b];obtain⟨r,e,hr⟩:=Jp d h a x n (s+1) (cw l x.1.au.l[s].aa) (by omega) (by omega);refine⟨r,e,fun z=>?_⟩;rw [hr z,uN];simp only [List.mem_cons,exists_eq_or_imp];rw [or_assoc,eq_comm (a:=z)]
  ·rw [show decide (((s:Nat):Int)<((x.1.au.l.length:Nat):Int))=false from dF (by omega),cond_false];obtain⟨r,e,hr⟩:=Bo d h a x l;refine⟨r,e,fun z=>?_⟩;rw [hr z,List.drop_of_length_le (by omega)];simp
theorem R4 {d:ai}(h:d.aj.l.length<=1048576) (a:Bs):∃r,Ep d a=some r/\∀z,z∈r.l↔jd d a z=true:=by
 unfold Ep Bq;rw [Jn,oB,jV];by_cases h1:(bg d.aj.l a).1.ak=1
 ·obtain⟨r,e,hr⟩:=Bo d h a (bg d.aj.l a) (cw [] a);rw [dT h1,cond_true];refine⟨r,e,fun z=>?_⟩;rw [hr z,uN];unfold mv jd;rw [h1];simp;constructor
  ·rintro ⟨rfl,f,b⟩; exact⟨f,b,rfl⟩
  ·rintro ⟨f,b,rfl⟩; exact⟨rfl,f,b⟩
 ·rw [dF h1,cond_false];by_cases f:(bg d.aj.l a).1.ak=2
  ·obtain⟨r,e,hr⟩:=Eo d h a (bg d.aj.l a) (d.aj.l.length+1) 0 [] (Nat.zero_le _) (by omega);rw [dT f,cond_true];refine⟨r,e,fun z=>?_⟩;rw [hr z];unfold mv jd;rw [f];simp;intro b g j;rcases yU d.aj.l z with k|k
   ·rw [k] at g; cases g
   ·exact⟨_,k,j,uO b⟩
  ·rw [dF f,cond_false];by_cases b:(bg d.aj.l a).1.ak=3
   ·obtain⟨r,e,hr⟩:=Jp d h a (bg d.aj.l a) ((bg d.aj.l a).1.au.l.length+1) 0 [] (Nat.zero_le _) (by omega);rw [dT b,cond_true];refine⟨r,e,fun z=>?_⟩;rw [hr z];unfold mv jd;rw [b];simp;constructor
    ·rintro ⟨g,j,m⟩; exact⟨j,m,g⟩
    ·rintro ⟨j,m,g⟩; exact⟨g,j,m⟩
   ·obtain⟨r,e,hr⟩:=Bo d h a (bg d.aj.l a) [];rw [dF b,cond_false];refine⟨r,e,fun z=>?_⟩;rw [hr z];unfold jd;rw [dF h1,dF f,dF b];simp
theorem Jq (n:Bs):∀l:List Bs,(match qm n l with|.inl _=>false|.inr e=>e)=l.contains n
 | []=>rfl
 | a::r=>by
  rw [qm,List.contains_cons,<- Jq n r,BEq.comm];simp only [on];cases a==n<;>rfl
theorem Er (s:Sl Bs) (n:Bs):qn s n=s.l.contains n:=by
 rw [<- Jq];unfold qn;simp only [on];cases qm n s.l<;>rfl
theorem Jr (n:Bs):∀l:List Z8,(match qA n l with|.inl _=>false|.inr e=>e)=l.any fun y=>y.aa==n
 | []=>rfl
 | a::r=>by
  rw [qA,List.any_cons,<- Jr n r];simp only [on];cases a.aa==n<;>rfl
theorem Js (t:ag) (n:Bs):uS t n=t.au.l.any fun y=>y.aa==n:=by
 rw [<- Jr];unfold uS;simp only [on];cases qA n t.au.l<;>rfl
theorem Jt (d:ai){i:Nat}(hi:i<d.aj.l.length) (hl:d.aj.l.length<=1048576):∀(n k:Nat),k<=i->i<k+n->wE d (i:Int) n (k:Int)=some (!((d.aj.l.drop k).take (i-k)).any fun y=>y.aa==d.aj.l[i].aa)
 | 0,k,h1,f=>by omega
 | n+1,k,h1,f=>by
  rw [wE];by_cases hk:k<i
  ·have b:k<d.aj.l.length:=by omega
   have hx:dh d.aj.l (k:Int)=some d.aj.l[k]:=by unfold dh; rw [if_pos (by simp),Int.toNat_natCast,List.getElem?_eq_getElem b]
   have g:dh d.aj.l (i:Int)=some d.aj.l[i]:=by unfold dh; rw [if_pos (by simp),Int.toNat_natCast,List.getElem?_eq_getElem hi]
   have j:cF (k:Int) 1=some ((k+1:Nat):Int):=by rw [fQ (by omega)]; rfl
   obtain⟨m,hm⟩:∃m,i-k=m+1:=⟨i-k-1,by omega⟩;rw [dT (by omega:((k:Nat):Int)<((i:Nat):Int)),cond_true,hx,oB,g,oB,hm,List.drop_eq_getElem_cons b,List.take_succ_cons,List.any_cons];cases d.aj.l[k].aa==d.aj.l[i].aa
   ·rw [cond_false,j,oB,Jt d hi hl n (k+1) (by omega) (by omega),show i-(k+1)=m by omega,Bool.false_or]
   ·rfl
  ·have:i-k=0:=by omega
   rw [dF (by omega:¬((k:Nat):Int)<((i:Nat):Int)),cond_false,this,List.take_zero,List.any_nil];rfl
theorem R5 (d:ai){i:Nat}(hi:i<d.aj.l.length) (hl:d.aj.l.length<=1048576):Es d (i:Int)=some (!(d.aj.l.take i).any fun y=>y.aa==d.aj.l[i].aa):=by
 unfold Es Br;rw [show (0:Int)=((0:Nat):Int) from rfl,Jt d hi hl F0 0 (Nat.zero_le _) (by rw [gz]; omega),List.drop_zero,Nat.sub_zero]
def pg (a:Bs) (x o:ag):Bool:=(decide (x.ak=1)&&o.aa==a)||((decide (x.ak=2)&&o.aH.l.contains a)||(decide (x.ak=3)&&x.au.l.any fun y=>y.aa==o.aa))
theorem Et {d:ai}(hl:d.aj.l.length<=1048576) (a:Bs) (x:ag×Bool) (hx:x.2=true):∀(l:List ag) (i:Nat) (s:Sl Bs),d.aj.l.drop i=l->s.l.length+l.length<=2097152 ->
  ∃r,jJ d a x l i s=some r/\∀z,z∈r.l↔z∈s.l\/∃(j:Nat) (h:j<d.aj.l.length),i<=j/\d.aj.l[j].ak=1/\((d.aj.l.take j).any fun y=>y.aa==d.aj.l[j].aa)=false/\pg a x.1 d.aj.l[j]=true/\d.aj.l[j].aa=z
 | [],i,s,p,_=>by
  refine⟨s,by rw [jJ],fun z=>⟨.inl, ?_⟩⟩;rintro (h|⟨j,h,h1,_⟩)
  ·exact h
  ·have:=List.drop_eq_nil_iff.1 p; omega
 | o::r,i,s,p,B=>by
  simp only [List.length_cons] at B;obtain⟨u,b⟩:=mm p;obtain⟨hi,b⟩:=List.getElem?_eq_some_iff.1 b
  -- what is left when this one does not count
  have skip:(¬(o.ak=1/\((d.aj.l.take i).any fun y=>y.aa==o.aa)=false/\pg a x.1 o=true))->∃q,jJ d a x r (i+1) s=some q/\∀z,z∈q.l↔z∈s.l\/∃(j:Nat) (h:j<d.aj.l.length),i<=j/\d.aj.l[j].ak=1/\((d.aj.l.take j).any fun y=>y.aa==d.aj.l[j].aa)=false/\pg a x.1 d.aj.l[j]=true/\d.aj.l[j].aa=z:=fun C=>by
   obtain⟨q,e,hq⟩:=Et hl a x hx r (i+1) s u (by omega);refine⟨q,e,fun z=>?_⟩;rw [hq z];constructor
   ·rintro (h|⟨j,h,h1,f⟩)
    ·exact .inl h
    ·exact .inr ⟨j,h,by omega,f⟩
   ·rintro (h|⟨j,h,h1,f,g,k,m⟩)
    ·exact .inl h
    ·by_cases t:i=j
     ·subst t;rw [b] at f g k;exact absurd ⟨f,g,k⟩ C
     ·exact .inr ⟨j,h,by omega,f,g,k,m⟩
  have more:o.ak=1->((d.aj.l.take i).any fun y=>y.aa==o.aa)=false->pg a x.1 o=true->∃q,jJ d a x r (i+1) ⟨s.nl&&List.isEmpty [o.aa],s.l++[o.aa]⟩=some q/\∀z,z∈q.l↔z∈s.l\/∃(j:Nat) (h:j<d.aj.l.length),i<=j/\d.aj.l[j].ak=1/\((d.aj.l.take j).any fun y=>y.aa==d.aj.l[j].aa)=false/\pg a x.1 d.aj.l[j]=true/\d.aj.l[j].aa=z:=fun E k2 F=>by
   obtain⟨q,e,hq⟩:=Et hl a x hx r (i+1) ⟨s.nl&&List.isEmpty [o.aa],s.l++[o.aa]⟩ u (by simp; omega);refine⟨q,e,fun z=>?_⟩;rw [hq z];simp only [List.mem_append,List.mem_singleton];constructor
   ·rintro ((h|h)|⟨j,h,h1,f⟩)
    ·exact .inl h
    ·exact .inr ⟨i,hi,Nat.le_refl _,by rw [b]; exact E,by rw [b]; exact k2,by rw [b]; exact F,by rw [b]; exact h.symm⟩
    ·exact .inr ⟨j,h,by omega,f⟩
   ·rintro (h|⟨j,h,h1,f,g,k,m⟩)
    ·exact .inl (.inl h)
    ·by_cases t:i=j
     ·subst t;rw [b] at m;exact .inl (.inr m.symm)
     ·exact .inr ⟨j,h,by omega,f,g,k,m⟩
  rw [jJ,hx,cond_true];simp only [on];have v:=R5 d hi hl;rw [b] at v;by_cases hk:o.ak=1
  ·rw [dT hk,v];simp only [Bool.not_true,Bool.not_false,aY,if_true,oB,Bool.false_or];cases w:(d.aj.l.take i).any fun y=>y.aa==o.aa
   ·simp only [Bool.not_false,Bool.not_true,cond_false];have G:(((decide (x.1.ak=(1:Int)))&&((o.aa==a)))||((decide (x.1.ak=(2:Int)))&&(bif (!((decide (x.1.ak=(1:Int)))&&((o.aa==a)))&&(decide (x.1.ak=(2:Int)))) then qn o.aH a else false))||((decide (x.1.ak=(3:Int)))&&(bif (!(((decide (x.1.ak=(1:Int)))&&((o.aa==a)))||((decide (x.1.ak=(2:Int)))&&(bif (!((decide (x.1.ak=(1:Int)))&&((o.aa==a)))&&(decide (x.1.ak=(2:Int)))) then qn o.aH a else false)))&&(decide (x.1.ak=(3:Int)))) then uS x.1 o.aa else false)))=pg a x.1 o:=by
     unfold pg;rw [Er,Js];cases decide (x.1.ak=(1:Int))<;>cases (o.aa==a)<;>cases decide (x.1.ak=(2:Int))<;>cases decide (x.1.ak=(3:Int))<;>cases o.aH.l.contains a<;>rfl
    rw [G];cases hc:pg a x.1 o
    ·rw [cond_false,oB];exact skip fun h=>by rw [hc] at h; exact absurd h.2.2 (by simp)
    ·rw [cond_true,jE (by decide) (by simp; omega),oB,oB];exact more hk w hc
   ·simp only [Bool.not_true,cond_true,Bool.not_false,oB];exact skip fun h=>by rw [w] at h; exact absurd h.2.1 (by simp)
  ·rw [dF hk];simp only [Bool.not_false,Bool.not_true,aY,Bool.false_eq_true,if_false,Bool.true_or,cond_true,oB];exact skip fun h=>hk h.1
theorem R6 {l:List ag}{j:Nat}(h:j<l.length) (b:((l.take j).any fun y=>y.aa==l[j].aa)=false):bg l l[j].aa=(l[j],true):=by
 have:l.find? (fun t=>t.aa==l[j].aa)=some l[j]:=by
  rw [List.find?_eq_some_iff_getElem];refine⟨by simp,j,h,rfl,fun k hk=>?_⟩;rw [List.any_eq_false] at b;have f:k<(l.take j).length:=by simp; omega
  have:=b (l.take j)[k] (List.getElem_mem f);rw [List.getElem_take] at this
  simpa using this
 unfold bg;rw [this]
theorem R7 {l:List ag}{z:Bs}(h:(bg l z).2=true):∃(j:Nat) (b:j<l.length),l[j]=(bg l z).1/\((l.take j).any fun y=>y.aa==l[j].aa)=false:=by
 have hn:=uO h;unfold bg at h hn ⊢;cases e:l.find? (fun t=>t.aa==z) with
 | none=>rw [e] at h; cases h
 | some t =>
  rw [e] at hn;obtain⟨_,j,b,h1,f⟩:=List.find?_eq_some_iff_getElem.1 e;refine⟨j,b,h1, ?_⟩;rw [List.any_eq_false];intro y g;obtain⟨k,hk,rfl⟩:=List.getElem_of_mem g;have m:k<j:=by simp at hk; omega
  rw [List.getElem_take,h1];have hn:t.aa=z:=hn;rw [hn]
  simpa using f k m
theorem R8 {d:ai}(hl:d.aj.l.length<=1048576) (a:Bs):∃r,y_ d a=some r/\∀z,z∈r.l↔jd d a z=true:=by
 unfold y_;simp only [on,jY];cases f:(bg d.aj.l a).2
 ·have h0:∀(l:List ag) (i:Nat) (s:Sl Bs),jJ d a (bg d.aj.l a) l i s=some s:=fun l i s=>by
   cases l with
   | nil=>rw [jJ]
   | cons o r=>rw [jJ,f]; rfl
  rw [h0];refine⟨_,rfl,fun z=>?_⟩;unfold jd;rw [uQ f];simp [Sl.nil,ag.zero]
 ·obtain⟨r,e,hr⟩:=Et hl a (bg d.aj.l a) f d.aj.l 0 (Sl.nil:Sl Bs) rfl (by show 0+_<=_; omega);rw [e];refine⟨r,rfl,fun z=>?_⟩;rw [hr z];constructor
  ·rintro (h|⟨j,h,_,g,k,m,q⟩)
   ·cases h
   ·have b:=R6 h k;rw [q] at b;unfold jd;rw [b];unfold pg at m;rw [q] at m;simp only [g,decide_true,Bool.true_and];exact m
  ·intro h;unfold jd at h;simp only [Bool.and_eq_true,decide_eq_true_eq] at h;obtain⟨h1,g,k⟩:=h;obtain⟨j,b,p,t⟩:=R7 h1;refine .inr ⟨j,b,Nat.zero_le _,by rw [p]; exact g,t, ?_,by rw [p]; exact uO h1⟩;unfold pg;rw [p,uO h1];exact k
theorem R9 {d:ai}(hl:d.aj.l.length<=1048576) (a b:Bs):wF d a b=some (jd d b a):=by
 obtain⟨r,e,h⟩:=R4 hl b;unfold wF;rw [e,oB];simp only [on,El]
 congr 1
 rw [Bool.eq_iff_iff,List.contains_iff_mem];exact h a
theorem Eu {d:ai}(hl:d.aj.l.length<=1048576) (a b:Bs):s5 d a b=some (jd d b a):=by
 obtain⟨r,e,h⟩:=R8 hl b;unfold s5;rw [e,oB];simp only [on,Er]
 congr 1
 rw [Bool.eq_iff_iff,List.contains_iff_mem];exact h a
theorem Ju {s b:Sl Int}(h:b.l=s.l):(cn b).l=(cn s).l:=by unfold cn; rw [h]; cases fo s.l<;>simp [h]
theorem Bt {d:ai}(j:d.aj.l.length<=1048576):∀(n m:Nat) (a b k b':aL),ep a.aK->ep b.aK->k.aa=a.aa->k.aK.l=a.aK.l->b'.aa=b.aa->b'.aK.l=b.aK.l->a.aK.l.length+b.aK.l.length<n->a.aK.l.length+b.aK.l.length<m ->
  ∃v,ph n d a b=some v/\kG m d k b'=some v
 | 0,_,_,_,_,_,_,_,_,_,_,_,h,_=>by omega
 | _+1,0,_,_,_,_,_,_,_,_,_,_,_,h=>by omega
 | n+1,m+1,a,b,k,b',f,g,z,q,t,p,hn,hm=>by
  have u:k.aK.l.length<=1048576:=by rw [q]; exact f.2
  have w:b'.aK.l.length<=1048576:=by rw [p]; exact g.2
  rw [ph,kG];simp only [Ab.on,wu,Bg f,Bg g,Ee f,Ee g,wy,uR u,uR w,y7 u,y7 w,oB,q,p,Ju q,Ju p,z,t];cases B:fo b.aK.l
  ·simp only [cond_false];cases r:fo a.aK.l
   ·simp only [cond_false];have last:∃v,(aY (!((a.aa==b.aa))) (wF d a.aa b.aa) false fun s=>some (((a.aa==b.aa))||s))=some v/\(aY (!((a.aa==b.aa))) (s5 d a.aa b.aa) false fun s=>some (((a.aa==b.aa))||s))=some v:=by
     rw [R9 j,Eu j];cases (a.aa==b.aa)<;>exact⟨_,rfl,rfl⟩
    cases C:gQ (cn a.aK).l
    ·cases y:gQ (cn b.aK).l
     ·exact last
     ·exact⟨_,rfl,rfl⟩
    ·cases y:gQ (cn b.aK).l
     ·exact⟨_,rfl,rfl⟩
     ·have h1:=Bi C;have E:=Bi y;obtain⟨v,hv,hw⟩:=Bt j n m (uI a) (uI b) ⟨a.aa,⟨false,(cn a.aK).l.drop 1⟩⟩ ⟨b.aa,⟨false,(cn b.aK).l.drop 1⟩⟩ (Ed f) (Ed g) rfl rfl rfl rfl (by omega) (by omega);simp only [cond_true,Bool.or_self,Bool.and_self,aY,if_true,hv,hw,oB];exact⟨_,by simp,rfl⟩
   ·have h1:=wB r;obtain⟨v,hv,hw⟩:=Bt j n m (lu a) b ⟨a.aa,⟨false,(cn a.aK).l⟩⟩ b' (Bf f) g rfl rfl t p (by omega) (by omega);simp only [cond_true,hv,hw];exact⟨_,rfl,rfl⟩
  ·simp only [cond_true];cases r:fo a.aK.l
   ·exact⟨_,rfl,rfl⟩
   ·have h1:=wB r;have E:=wB B;obtain⟨v,hv,hw⟩:=Bt j n m (lu a) (lu b) ⟨a.aa,⟨false,(cn a.aK).l⟩⟩ ⟨b.aa,⟨false,(cn b.aK).l⟩⟩ (Bf f) (Bf g) rfl rfl rfl rfl (by omega) (by omega);simp only [aY,if_true,hv,hw,oB];exact⟨_,rfl,rfl⟩
def lF (d:ai) (a b:aL):Bool:=(Bu d a b).getD false
theorem Bv {d:ai}(j:d.aj.l.length<=1048576){a b:aL}(f:ep a.aK) (g:ep b.aK):Bu d a b=some (lF d a b)/\Ev d a b=some (lF d a b):=by
 have h1:=f.2; have k:=g.2;obtain⟨v,hv,hw⟩:=Bt j F0 F0 a b a b f g rfl rfl rfl rfl (by rw [gz]; omega) (by rw [gz]; omega);have e:lF d a b=v:=by unfold lF Bu; rw [hv]; rfl
 rw [e]; exact⟨hv,hw⟩
def kH (a b:aL):Bool:=a.aa==b.aa&&decide (a.aK.l=b.aK.l)
theorem R_ (a b:aL):kH a b=kH b a:=by
 unfold kH;rw [BEq.comm (a:=a.aa),decide_eq_decide.2 (eq_comm (a:=a.aK.l))]
theorem Sa (a b:aL):za a b=some (kH a b):=by
 unfold za kH;rw [Jh];cases a.aa==b.aa<;>rfl
theorem Sb (a b:aL):qo a b=some (kH b a):=by
 rw [R_];unfold qo kH;rw [R3];cases a.aa==b.aa<;>rfl
end Go.Proofs
