import Derived.Test.YtdlobimnfmjonaaGreatDoorV9
set_option maxRecDepth 100000
set_option maxHeartbeats 2000000
set_option linter.unusedVariables false
set_option linter.unusedSimpArgs false
namespace Go.Proofs
open Go Go.Ab
open aK an ag dJ fN
attribute [local irreducible] aK aN ag an
variable {au:bS}
def pG (f:Z9->Option Bs):List Z9->(Sl Bs)->Option ((Sl Bs))
 | [],b=>some b
 | g::j,b=>on (g) fun k=>(f k).bind fun l=>(bh 16 b (⟨false,[l]⟩:Sl Bs)).bind fun m=>pG f (j) m
def nU (a0:Z9) (g:Z9->Option Bs):List Z9->Nat->(Sl Bs)->Option ((Sl Bs))
 | [],b,f=>some f
 | j::k,b,f=>bif (decide (((b:Nat):Int)<((a0.aR.l.length:Nat):Int))) then((a0.aR.l[b]?).bind fun m=>(a_ m ([58,32]:Bs)).bind fun p=>on (j) fun q=>(g q).bind fun r=>(a_ p r).bind fun s=>(bh 16 f (⟨false,[s]⟩:Sl Bs)).bind fun t=>nU a0 g (k) (b+1) t) else(some f)
def j_:Nat->Z9->Option Bs
 | 0,_=>none
 | n+1,a0=>bif (decide (a0.ai=(1:Int))) then(bif (decide (a0.bA=(1:Int))) then(some ([116,114,117,101]:Bs)) else(some ([102,97,108,115,101]:Bs))) else(bif (decide (a0.ai=(2:Int))) then((uT a0.bA).bind fun b=>some b) else(bif (decide (a0.ai=(3:Int))) then((wJ a0.bp).bind fun f=>some f) else(bif (decide (a0.ai=(4:Int))) then(some a0.bp) else(bif (decide (a0.ai=(7:Int))) then((a_ ([36]:Bs) a0.bp).bind fun g=>some g) else(bif (decide (a0.ai=(5:Int))) then(Option.bind (pG (j_ n) a0.aB.l (Sl.nil:Sl Bs)) fun j=>on (j) fun k=>(i_ k ([44,32]:Bs)).bind fun m=>(a_ ([91]:Bs) m).bind fun p=>(a_ p ([93]:Bs)).bind fun q=>some q) else(bif (decide (a0.ai=(6:Int))) then(Option.bind (nU a0 (j_ n) a0.aB.l 0 (Sl.nil:Sl Bs)) fun r=>on (r) fun s=>(i_ s ([44,32]:Bs)).bind fun t=>(a_ ([123]:Bs) t).bind fun u=>(a_ u ([125]:Bs)).bind fun v=>some v) else(some ([110,117,108,108]:Bs))))))))
def Ej (n:Nat):Prop:=∀{a0:Z9}   {r:Bs},j_ n a0=some r->∀(H:af),At 203 [.agg (Z9.c a0)] H (RT (.a (.d (.str r))) H)
theorem Q3 (n:Nat) (q:Ej (au:=au) n):Ej (au:=au) (n+1):=by
 intro a0   r b H;rw [j_] at b;refine AC.oW 91 [.tmp 2] Tryz.call203 Tryz.func203 ?_;refine ag.tok 1 fun g a2=>?_;refine ag.tok 1 fun j s=>?_;obtain⟨a3,s⟩:=af.eA s;refine Y4 ?_;refine ar fun a4 K=>Y9 ?_;refine cE b (fun L b=>?_) (fun L b=>?_)
 ·refine ar fun a5 M=>Y5 ?_;refine cE b (fun N b=>?_) (fun N b=>?_)
  ·refine Y3 ?_;exact rs b
  refine sk M (Y3 ?_);exact rs b
 refine Y4 ?_;refine cE b (fun O b=>?_) (fun O b=>?_)
 ·refine Y3 ?_;obtain⟨a6,P,b⟩:=aX b;refine Sc rfl rfl (IP P) (Y2 ?_);exact rs b
 refine Y4 ?_;refine cE b (fun Q b=>?_) (fun Q b=>?_)
 ·refine Y3 ?_;obtain⟨a7,R,b⟩:=aX b;refine Sc rfl rfl (Q4 R) (Y2 ?_);exact rs b
 refine Y4 ?_;refine cE b (fun U b=>?_) (fun U b=>?_)
 ·refine Y5 ?_;exact rs b
 refine Y4 ?_;refine cE b (fun W b=>?_) (fun W b=>?_)
 ·refine Y3 ?_;obtain⟨a8,X,b⟩:=aX b;refine S (bX X) (Y2 ?_);exact rs b
 refine Y4 ?_;refine cE b (fun Y b=>?_) (fun Y b=>?_)
 ·refine Y3 ?_;refine ag.fe 3 1 g rfl az ?_;refine aO kN (fun(z:(Sl Bs))=>[(3,.a (.d (Sl.d 1 aG (some g) z)))]) (fun z=>((tS H g 1 z).set j (some (.tok 1 0)))) (fun z=>((i_ z ([44,32]:Bs)).bind fun t=>(a_ ([91]:Bs) t).bind fun u=>(a_ u ([93]:Bs)).bind fun v=>some v)=some r) ?_ ?_
  ·intro a9 Z;refine Y4 ?_;obtain⟨w,aa,b⟩:=bZ b;refine bz (tl [1]) (fun(z:(Sl Bs)×Nat)=>[(3,.a (.d (Sl.d 1 aG (some g) z.1))),(4,vi z.2)]) (fun z=>((tS H g 1 z.1).set j (some (.tok 1 0)))) (fun z=>a0.aB.l.length-z.2) (fun z=>Option.bind (pG (j_ n) (a0.aB.l.drop z.2) z.1) w=some r) ((Sl.nil:Sl Bs),0) b wA ?_;rintro ⟨y,B⟩ b a' ab;refine ar fun ba ad=>Y3 ?_
   refine s0 (dK (TK rfl) rfl rfl (Z9.ej _)) rfl ?_;refine aU Z9.c a0.aB fun bb=>Y2 ?_;refine ag.bJ (fun l=>Option.bind (pG (j_ n) l y) w=some r) b rfl (fun bc C ae b=>?_) (fun ae b=>?_)
   ·rw [pG] at b;refine sk ad (ar fun bd ah=>Y4 ?_);refine s0 (dK (TK rfl) rfl rfl (Z9.ej _)) rfl ?_;refine Y1 ?_;obtain⟨be,ai,b⟩:=vO C b;refine S (ix Z9.c B ai) (Y1 ?_);obtain⟨bf,aj,b⟩:=aJ b;refine Sc rfl rfl (q aj) (Y1 ?_);obtain⟨ak,al,b⟩:=aJ b;refine SH (am aG (TK rfl) rfl (TK rfl) (TK rfl) al) ?_;refine Y2 ?_
    refine ah _ ?_;refine Y5 ?_;exact ab _ (ak,(B+1)) wA b (dl C)
   rw [pG] at b;have b:=ku aa b;refine ag.exit ?_;obtain⟨bg,ao,b⟩:=bW b;exact Z _ y wA (ku ao b:)
  rintro bh b;refine Y2 ?_;obtain⟨t,ap,b⟩:=aX b;refine Sc rfl rfl (sK ap) ?_;obtain⟨u,aq,b⟩:=aX b;refine S (bX aq) ?_;obtain⟨v,av,b⟩:=aX b;refine S (bX av) (Y2 ?_);exact rs b
 refine Y4 ?_;refine cE b (fun aw b=>?_) (fun aw b=>?_)
 ·refine Y3 ?_;refine ag.fe 5 1 j rfl az ?_;refine aO kN (fun(z:(Sl Bs))=>[(5,.a (.d (Sl.d 1 aG (some j) z)))]) (fun z=>((H.set g (some (.tok 1 0))).set j (some (.tok 1 z.l.length)))) (fun z=>((i_ z ([44,32]:Bs)).bind fun E=>(a_ ([123]:Bs) E).bind fun F=>(a_ F ([125]:Bs)).bind fun G=>some G)=some r) ?_ ?_
  ·intro bi ax;refine Y4 ?_;obtain⟨m,ay,b⟩:=bZ b;refine bz (tl [1]) (fun(z:(Sl Bs)×Nat)=>[(5,.a (.d (Sl.d 1 aG (some j) z.1))),(6,vi z.2)]) (fun z=>((H.set g (some (.tok 1 0))).set j (some (.tok 1 z.1.l.length)))) (fun z=>a0.aB.l.length-z.2) (fun z=>Option.bind (nU a0 (j_ n) (a0.aB.l.drop z.2) z.2 z.1) m=some r) ((Sl.nil:Sl Bs),0) b wA ?_;rintro ⟨p,k⟩ b bj aA
   refine ar fun bk aC=>Y3 ?_;refine s0 (dK (TK rfl) rfl rfl (Z9.ej _)) rfl ?_;refine aU Z9.c a0.aB fun bl=>Y4 ?_;refine Gk 64 ?_;refine bI 65 rfl (fun hC=>dG aG a0.aR) ?_;refine G2 63 66 rfl rfl BI ?_;refine Y2 ?_
   refine ag.yR (fun l=>Option.bind (nU a0 (j_ n) l k p) m=some r) (Option.bind (some p) m=some r) b (fun b=>by rw [nU] at b; exact b) (fun _ aD b=>by rw [nU] at b; rw [aD] at b; exact b) rfl rfl (fun bm I J aE b=>?_) (fun J b=>?_)
   ·rw [nU] at b;rw [aE,cond_true] at b;have bn:=oD (and_left J);refine sk aC (ar fun bo aF=>Y1 ?_);refine ag.draw rfl ?_;refine Y4 ?_;obtain⟨bp,aH,b⟩:=aJ b;refine Sd (ix aG k aH) (Y1 ?_);obtain⟨bq,aI,b⟩:=aJ b;refine aN.s0 (jL rfl rfl aI) rfl ?_;refine Y1 ?_;refine aN.s0 (dK (TK rfl) rfl rfl (Z9.ej _)) rfl ?_;refine Y1 ?_
    obtain⟨br,aL,b⟩:=vO I b;refine Sd (ix Z9.c k aL) (Y1 ?_);obtain⟨bs,aM,b⟩:=aJ b;refine cF rfl rfl (q aM) ?_;obtain⟨bt,aP,b⟩:=aJ b;refine aN.s0 (jL rfl rfl aP) rfl ?_;refine Y1 ?_;obtain⟨aS,aV,b⟩:=aJ b;refine aN.sH (jy (f:=aG) (TK rfl) rfl (TK rfl) (TK rfl) ⟨_,rfl⟩ rfl rfl (by decide) rfl rfl rfl rfl az rfl aV) rfl ?_;refine Y2 ?_;refine aF _ ?_
    refine Y5 ?_;exact aA _ (aS,(k+1)) wA b (dl I)
   have b:=ku ay b;refine ag.exit ?_;obtain⟨bu,aW,b⟩:=bW b;exact ax _ p wA (ku aW b:)
  rintro bv b;refine Y2 ?_;obtain⟨E,aY,b⟩:=aX b;refine Sc rfl rfl (sK aY) ?_;obtain⟨F,aZ,b⟩:=aX b;refine S (bX aZ) ?_;obtain⟨G,a1,b⟩:=aX b;refine S (bX a1) (Y2 ?_);exact rs b
 refine sk K (Y3 ?_);exact rs b
theorem IQ:∀(n:Nat),(Ej (au:=au) n)
 | 0=>fun b=>by first|cases b|(rw [j_] at b; cases b)
 | n+1=>Q3 n (IQ n)
def IR (a0:Z9):Option Bs:=j_ F0 a0
theorem IS {a0 r}(b:IR a0=some r) (H:af) :At 203 [.agg (Z9.c a0)] H (RT (.a (.d (.str r))) H):=(IQ F0) b H 
def Bp (a0:Z9):Option Bs:=j_ F0 a0
def wK  (b:(Sl Bs)):Option Bs:=(Bq b ([32]:Bs)).bind fun f=>some f
def zb (b:Nat) (f:(Sl Bs)->Nat->Option Bs) (g:(Sl Bs)):Option Bs:=f g (b+1)
def wL (b:(Sl Bs)) (f:Nat) (g:(Sl Bs)->Nat->Option Bs) (j:Bs):Option Bs:=(bh 16 b (⟨false,[j]⟩:Sl Bs)).bind fun k=>zb f g k
def wM (a0:(Sl aA)) (f:(Sl Bs)) (b:Nat) (g:(Sl Bs)->Nat->Option Bs) (j:(Sl Bs)):Option Bs:=(a0.l[b]?).bind fun m=>(a_ ([64]:Bs) m.aa).bind fun k=>bif (decide ((0:Int)<((j.l.length:Nat):Int))) then((a_ k ([40]:Bs)).bind fun p=>(Bq j ([44,32]:Bs)).bind fun q=>(a_ p q).bind fun r=>(a_ r ([41]:Bs)).bind fun s=>wL f b g s) else(wL f b g k)
def wN (a0:(Sl aA)) (g:(Sl Bs)) (b:Nat) (j:(Sl Bs)->Nat->Option Bs):Nat->(Sl Bs)->Nat->Option Bs
 | 0,_,_=>none
 | m+1,k,f=>(a0.l[b]?).bind fun p=>bif (decide (((f:Nat):Int)<((p.ay.l.length:Nat):Int))) then((a0.l[b]?).bind fun q=>(q.ay.l[f]?).bind fun r=>(a_ r.aa ([58,32]:Bs)).bind fun s=>(a0.l[b]?).bind fun t=>(t.ay.l[f]?).bind fun u=>(IR u.gr).bind fun v=>(a_ s v).bind fun w=>(bh 16 k (⟨false,[w]⟩:Sl Bs)).bind fun y=>(wN a0 g b j m) y (f+1)) else(wM a0 g b j k)
def lQ (a0:(Sl aA)) :Nat->(Sl Bs)->Nat->Option Bs
 | 0,_,_=>none
 | g+1,f,b=>bif (decide (((b:Nat):Int)<((a0.l.length:Nat):Int))) then(wN a0 f b ((lQ a0 g)) (Option.elim (a0.l[b]?) 1 (fun j=>j.ay.l.length+1)) (Sl.nil:Sl Bs) 0) else(wK   f)
def Br (a0:(Sl aA)):Option Bs:=lQ a0 (a0.l.length+1) (Sl.nil:Sl Bs) 0
theorem Q5 {a0 w0 r}(b:Br a0=some r) (H:af) :At 179 [.d (Sl.d 2 aA.c w0 a0)] H (RT (.a (.d (.str r))) H):=by
 unfold Br at b;refine AC.oW 69 [.tmp 2] Tryz.call179 Tryz.func179 ?_;refine ag.tok 1 fun g aD=>?_;refine Y6 ?_;refine ag.fe 3 1 g rfl az ?_;refine aO kN (fun(z:(Sl Bs))=>[(3,.a (.d (Sl.d 1 aG (some g) z)))]) (fun z=>(tS H g 1 z)) (fun z=>wK z=some r) ?_ ?_
 ·intro aE E;refine Y4 ?_;refine bz (tl [0]) (fun(z:Nat×(Sl Bs)×Nat)=>[(3,.a (.d (Sl.d 1 aG (some g) z.2.1))),(4,vi z.2.2)]) (fun z=>(tS H g 1 z.2.1)) (fun z=>z.1) (fun z=>lQ a0 z.1 z.2.1 z.2.2=some r) ((a0.l.length+1),(Sl.nil:Sl Bs),0) b wA ?_;rintro ⟨p,m,j⟩ b aF F;cases p with
  | zero=>cases b
  | succ p =>
    rw [lQ] at b;refine ar fun aH G=>Y3 ?_;refine aU aA.c a0 fun aI=>Y2 ?_;refine cE b (fun I b=>?_) (fun I b=>?_)
    ·refine sk G (aO (tl [0,4]) (fun(z:(Sl Bs))=>[(3,.a (.d (Sl.d 1 aG (some g) z)))]) (fun z=>(tS H g 1 z)) (fun z=>zb j ((lQ a0 p)) z=some r) ?_ ?_)
     ·intro aJ J;refine Y1 ?_;refine ag.tok 1 fun k q=>?_;obtain⟨K,q⟩:=af.eA q;refine Y3 ?_;refine ag.fe 5 1 k rfl az ?_;refine aO (tl [0,3,4]) (fun(z:(Sl Bs))=>[(5,.a (.d (Sl.d 1 aG (some k) z)))]) (fun z=>(tS (tS H g 1 m) k 1 z)) (fun z=>wM a0 m j ((lQ a0 p)) z=some r) ?_ ?_
      ·intro aL L;refine Y4 ?_;refine bz (tl [0,3,4]) (fun(z:Nat×(Sl Bs)×Nat)=>[(5,.a (.d (Sl.d 1 aG (some k) z.2.1))),(6,vi z.2.2)]) (fun z=>(tS (tS H g 1 m) k 1 z.2.1)) (fun z=>z.1) (fun z=>wN a0 m j ((lQ a0 p)) z.1 z.2.1 z.2.2=some r) ((Option.elim (a0.l[j]?) 1 (fun s=>s.ay.l.length+1)),(Sl.nil:Sl Bs),0) b wA ?_;rintro ⟨t,M,u⟩ b aM N;cases t with
       | zero=>cases b
       | succ t =>
         rw [wN] at b;refine ar fun aP O=>Y4 ?_;obtain⟨s,P,b⟩:=bO b;refine S (ix aA.c j P) (Y2 ?_);refine aU bT.c s.ay fun aR=>Y2 ?_;refine cE b (fun Q b=>?_) (fun Q b=>?_)
         ·refine sk O (ar fun aS R=>Y1 ?_);refine ag.draw rfl ?_;refine Y3 ?_;obtain⟨aV,U,b⟩:=bO b;refine Sd (ix aA.c j U) (Y3 ?_);obtain⟨aW,W,b⟩:=bO b;refine Sd (ix bT.c u W) (Y2 ?_);obtain⟨aX,X,b⟩:=bO b;refine aN.s0 (jL rfl rfl X) rfl ?_;refine Y2 ?_;obtain⟨aY,Y,b⟩:=bO b;refine Sd (ix aA.c j Y) (Y3 ?_);obtain⟨aZ,Z,b⟩:=bO b
          refine Sd (ix bT.c u Z) (Y2 ?_);obtain⟨a1,aa,b⟩:=bO b;refine cF rfl rfl (IS aa) ?_;obtain⟨a2,ab,b⟩:=bO b;refine aN.s0 (jL rfl rfl ab) rfl ?_;refine Y1 ?_;obtain⟨y,ad,b⟩:=bO b;refine aN.sH (jy (f:=aG) (TK rfl) rfl (TK rfl) (TK rfl) ⟨_,rfl⟩ rfl rfl (by decide) rfl rfl rfl rfl az rfl ad) rfl ?_;refine aN.Dh (tS (tS H g 1 m) k 1 y) ?_;refine Y2 ?_
          refine R _ ?_;refine Y5 ?_;exact N _ (t,y,(u+1)) wA b (nS _)
         refine ag.exit ?_;exact L _ M wA b
      rintro v b;unfold wM at b;refine Y3 ?_;obtain⟨a3,ae,b⟩:=bO b;refine S (ix aA.c j ae) (Y2 ?_);obtain⟨ah,ai,b⟩:=bO b;refine S (bX ai) (Y2 ?_);refine aO (tl [0,3,4]) (fun(z:Bs)=>[(7,.a (.d (.str z)))]) (fun z=>(tS (tS H g 1 m) k 1 v)) (fun z=>wL m j ((lQ a0 p)) z=some r) ?_ ?_
      ·intro a4 B;refine Y2 ?_;refine aU aG v fun a5=>Y2 ?_;refine cE b (fun aj b=>?_) (fun aj b=>?_)
       ·refine Y2 ?_;obtain⟨a6,ak,b⟩:=bO b;refine S (bX ak) (Y1 ?_);obtain⟨a7,al,b⟩:=bO b;refine Sc rfl rfl (sK al) ?_;obtain⟨a8,ao,b⟩:=bO b;refine S (bX ao) ?_;obtain⟨ap,aq,b⟩:=bO b;refine S (bX aq) (Y2 ?_);exact B _ ap wA b
       refine ag.skip ?_;exact B _ ah wA b
      rintro a9 b;unfold wL at b;refine Y4 ?_;obtain⟨C,au,b⟩:=bO b;refine SH (am aG (TK rfl) rfl (TK rfl) (TK rfl) au) ?_;refine hq (tS (tS H g 1 C) k 1 v) (Y2 ?_);exact J _ C (cC.toFA (by(intro av a_ w); (have aw:av≠k:=fun ax=>by rw [ax] at w; simp [af.set,q,K] at w); (rw [<- w]); (simp only [af.set,if_neg aw]); (first|done|rfl))) b
     rintro aB b;unfold zb at b;refine Y5 ?_;exact F _ (p,aB,(j+1)) wA b (nS _)
    refine ag.exit ?_;exact E _ m wA b
 rintro a' b;unfold wK at b;refine Y2 ?_;obtain⟨ba,aC,b⟩:=bO b;refine Sc rfl rfl (sK aC) (Y2 ?_);refine ry ?_;obtain rfl:=oJ b;refine bU.cH H rfl ⟨rfl,rfl⟩ ?_;exact sy
def qJ (b:aA):List bT->(Sl Bs)->Option ((Sl Bs))
 | [],f=>some f
 | g::j,f=>on (b) fun s=>on (g) fun k=>(a_ k.aa ([58,32]:Bs)).bind fun l=>on (b) fun t=>on (g) fun m=>(Bp m.gr).bind fun p=>(a_ l p).bind fun q=>(bh 16 f (⟨false,[q]⟩:Sl Bs)).bind fun r=>qJ b (j) r
theorem Q6 {a0:Sl aA}{q:Sl Bs}{m:Nat}{r:(Sl Bs)->Nat->Option Bs}{k:aA}(p:a0.l[m]?=some k) (s:((Sl Bs))->Option Bs) (v:∀(f:Nat) (g:(Sl Bs)) (j:Nat),wM a0 q m r g=s g):∀(f:Nat) (g:(Sl Bs)) (j:Nat),(0<f/\k.ay.l.length<j+f)->wN a0 q m r f g j=Option.bind (qJ k (k.ay.l.drop j) g) s:=by
 intro f;induction f with
 | zero=>intro g j hn; exact absurd hn.1 (by omega)
 | succ f w =>
  intro g j hn;rw [wN];refine Q.preB p fun y z=>?_;subst z;by_cases bn:j<y.ay.l.length
  ·obtain⟨B,b⟩:=Qa bn;rw [Q.mz b,qJ];refine QT bn ?_;refine Q.lP p fun C t=>?_;refine Q.lP (by first|exact b|(simp only [t]; exact b)|(simp only [t] at b ⊢; exact b)) fun E F=>?_;refine Q.kK rfl fun G=>?_;refine Q.lP p fun H u=>?_;refine Q.lP (by first|exact b|(simp only [u]; exact b)|(simp only [u] at b ⊢; exact b)) fun I J=>?_
   refine Q.kK rfl fun K=>?_;refine Q.kK rfl fun L=>?_;refine Q.kK rfl fun M=>?_;all_goals exact w _ _ ⟨by omega,by omega⟩
  rw [dL (by omega),qJ];refine QF bn ?_;exact v f g j
def qK :List aA->(Sl Bs)->Option ((Sl Bs))
 | [],b=>some b
 | f::k,b=>Option.bind (qJ f f.ay.l (Sl.nil:Sl Bs)) fun m=>on (m) fun g=>on (f) fun p=>(a_ ([64]:Bs) p.aa).bind fun j=>Option.bind (bif (decide ((0:Int)<((g.l.length:Nat):Int))) then((a_ j ([40]:Bs)).bind fun q=>(i_ g ([44,32]:Bs)).bind fun r=>(a_ q r).bind fun s=>(a_ s ([41]:Bs)).bind fun t=>some t) else(some j)) fun u=>(bh 16 b (⟨false,[u]⟩:Sl Bs)).bind fun v=>on (v) fun w=>qK  (k) w
theorem Q7 {a0:Sl aA}(q:((Sl Bs))->Option Bs) (s:∀(b:Nat) (g:(Sl Bs)) (f:Nat),wK   g=q g):∀(b:Nat) (g:(Sl Bs)) (f:Nat),(0<b/\a0.l.length<f+b)->lQ a0 b g f=Option.bind (qK  (a0.l.drop f) g) q:=by
 intro b;induction b with
 | zero=>intro g f hn; exact absurd hn.1 (by omega)
 | succ b t =>
  intro g f hn;rw [lQ];by_cases bn:f<a0.l.length
  ·obtain⟨H,j⟩:=Qa bn;rw [Q.mz j,qK];refine QT bn ?_;refine Q.uO fun u v=>?_;refine Q6 j u ?_ _ _ _ ⟨by rw [j]; exact Nat.succ_pos _,by rw [j]; simp only [Option.elim]; omega⟩;intro I J K;refine Qe (v _) ?_;refine Q.uN fun w y=>?_;have z:∀(k:(Sl Bs)),wM a0 g f (lQ a0 b) k=w k:=by
    intro k;refine Qe (y _) ?_;unfold wM;refine Q.lP j fun L M=>?_;refine Q.kK rfl fun N=>?_;refine Q.uO fun B C=>?_;have r:∀(m:Bs),wL g f (lQ a0 b) m=B m:=by
     intro m;refine Qe (C _) ?_;unfold wL;refine Q.kK rfl fun O=>?_;refine Q.uN fun E F=>?_;have G:∀(p:(Sl Bs)),zb f (lQ a0 b) p=E p:=by
      intro p;refine Qe (F _) ?_;unfold zb;all_goals exact t _ _ ⟨by omega,by omega⟩
     all_goals exact G _
    refine Q.qw ?_ ?_
    ·refine Q.kK rfl fun P=>?_;refine Q.kK rfl fun R=>?_;refine Q.kK rfl fun S=>?_;refine Q.kK rfl fun U=>?_;all_goals exact r _
    all_goals exact r _
   all_goals exact z _
  rw [dL (by omega),qK];refine QF bn ?_;exact s b g f
def Bt (a0:(Sl aA)):Option Bs:=Option.bind (qK  a0.l (Sl.nil:Sl Bs)) fun b=>on (b) fun f=>(i_ f ([32]:Bs)).bind fun g=>some g
theorem Q8 (a0:(Sl aA)):Br a0=Bt a0:=by
 unfold Br Bt;refine Qs ?_;refine Q.uO fun f g=>?_;refine Q7  f ?_ _ _ _ ⟨Nat.succ_pos _,by omega⟩;intro m p q;refine Qe (g _) ?_;refine Q.uN fun j k=>?_;have l:∀(b:(Sl Bs)),wK  b=j b:=by
  intro b;refine Qe (k _) ?_;unfold wK;refine Q.kK rfl fun r=>?_;all_goals rfl
 all_goals exact l _
def qL (a0:(Sl aA)):Option Bs:=bif (decide (((a0.l.length:Nat):Int)=(0:Int))) then(some ([]:Bs)) else((Bt a0).bind fun b=>(a_ ([32]:Bs) b).bind fun f=>some f)
theorem Bu {a0 w0 r}(b:qL a0=some r) (H:af) :At 144 [.d (Sl.d 2 aA.c w0 a0)] H (RT (.a (.d (.str r))) H):=by
 unfold qL at b;refine AC.oW 9 [.tmp 2] Tryz.call144 Tryz.func144 ?_;refine Y3 ?_;refine ar fun l f=>Y2 ?_;refine aU aA.c a0 fun m=>Y2 ?_;refine cE b (fun g b=>?_) (fun g b=>?_)
 ·refine Y3 ?_;exact rt b
 refine sk f (Y2 ?_);obtain⟨p,j,b⟩:=qT (Q8 _) b;refine Sc rfl rfl (Q5 j) ?_;obtain⟨q,k,b⟩:=aX b;refine S (bX k) (Y2 ?_);exact rt b
def nV:Nat->aL->Option Bs
 | 0,_=>none
 | n+1,a0=>on (iz a0) fun b=>bif b then((pH a0).bind fun x7=>((nV n) x7).bind fun f=>(a_ f ([33]:Bs)).bind fun g=>some g) else(bif (decide ((0:Int)<((a0.aH.l.length:Nat):Int))) then((pH a0).bind fun j=>((nV n) j).bind fun k=>(a_ ([91]:Bs) k).bind fun m=>(a_ m ([93]:Bs)).bind fun p=>some p) else(some a0.aa))
def Ek (n:Nat):Prop:=∀{a0:aL}   {r:Bs},nV n a0=some r->∀(H:af),At 204 [.agg (aL.c a0)] H (RT (.a (.d (.str r))) H)
theorem Q9 (n:Nat) (f:Ek (au:=au) n):Ek (au:=au) (n+1):=by
 intro a0   r b H;rw [nV] at b;refine AC.oW 20 [.tmp 2] Tryz.call204 Tryz.func204 ?_;refine Y4 ?_;refine ar fun y g=>Y2 ?_;obtain⟨z,j,b⟩:=dQ b;refine Sc rfl rfl (sM j) (Y1 ?_);refine cE b (fun k b=>?_) (fun k b=>?_)
 ·refine Y2 ?_;obtain⟨x7,l,b⟩:=aX b;refine Sc rfl rfl (Bv l) ?_;obtain⟨B,m,b⟩:=aX b;refine Sc rfl rfl (f m) ?_;obtain⟨C,p,b⟩:=aX b;refine S (bX p) (Y2 ?_);exact rt b
 refine sk g (ar fun E q=>Y3 ?_);refine aU (bL .i64) a0.aH fun F=>Y2 ?_;refine cE b (fun s b=>?_) (fun s b=>?_)
 ·refine Y2 ?_;obtain⟨G,t,b⟩:=aX b;refine Sc rfl rfl (Bv t) ?_;obtain⟨I,u,b⟩:=aX b;refine Sc rfl rfl (f u) ?_;obtain⟨J,v,b⟩:=aX b;refine S (bX v) ?_;obtain⟨K,w,b⟩:=aX b;refine S (bX w) (Y2 ?_);exact rt b
 refine sk q (Y5 ?_);exact rt b
theorem IT:∀(n:Nat),(Ek (au:=au) n)
 | 0=>fun b=>by first|cases b|(rw [nV] at b; cases b)
 | n+1=>Q9 n (IT n)
def Q_ (a0:aL):Option Bs:=nV F0 a0
theorem IU {a0 r}(b:Q_ a0=some r) (H:af) :At 204 [.agg (aL.c a0)] H (RT (.a (.d (.str r))) H):=(IT F0) b H 
def IV (a0:aL):Option Bs:=nV F0 a0
def pI (a0:Z7):Option Bs:=(a_ a0.aa ([58,32]:Bs)).bind fun x3=>(IV a0.av).bind fun b=>(a_ x3 b).bind fun x5=>Option.bind (bif a0.ck then((a_ x5 ([32,61,32]:Bs)).bind fun f=>(Bp a0.cR).bind fun g=>(a_ f g).bind fun j=>some j) else(some x5)) fun k=>(qL a0.bf).bind fun l=>(a_ k l).bind fun m=>some m
theorem IW {a0 r}(b:pI a0=some r) (H:af) :At 181 [.agg (Z7.c a0)] H (RT (.a (.d (.str r))) H):=by
 unfold pI at b;refine AC.oW 24 [.tmp 2] Tryz.call181 Tryz.func181 ?_;refine Y7 ?_;obtain⟨x3,g,b⟩:=aX b;refine aN.s0 (jL rfl rfl g) rfl ?_;refine Y2 ?_;obtain⟨y,j,b⟩:=aX b;refine cF rfl rfl (IU j) ?_;obtain⟨x5,k,b⟩:=aX b;refine aN.s0 (jL rfl rfl k) rfl ?_;refine Y2 ?_;obtain⟨l,m,b⟩:=bZ b
 refine aO (tl [1]) (fun(z:Bs)=>[(3,.a (.d (.str z)))]) (fun z=>H) (fun z=>l z=some r) ?_ ?_
 ·intro B f;refine Y4 ?_;refine cO b (fun p b=>?_) (fun p b=>?_)
  ·refine Y2 ?_;obtain⟨C,q,b⟩:=aJ b;refine S (bX q) (Y2 ?_);obtain⟨E,s,b⟩:=aJ b;refine Sc rfl rfl (IS s) ?_;obtain⟨t,u,b⟩:=aJ b;refine S (bX u) (Y2 ?_);exact f _ t wA b
  refine ag.skip ?_;exact f _ x5 wA b
 rintro F b;have b:=ku m b;refine Y4 ?_;obtain⟨G,v,b⟩:=aX b;refine Sc rfl rfl (Bu v) ?_;obtain⟨I,w,b⟩:=aX b;refine S (bX w) (Y2 ?_);exact rt b
def wO :List Z7->(Sl Bs)->Option ((Sl Bs))
 | [],b=>some b
 | f::g,b=>on (f) fun j=>(pI j).bind fun k=>(bh 16 b (⟨false,[k]⟩:Sl Bs)).bind fun l=>wO  (g) l
def El (a0:Z6):Option Bs:=Option.bind (bif (decide ((0:Int)<((a0.ay.l.length:Nat):Int))) then(Option.bind (wO  a0.ay.l (Sl.nil:Sl Bs)) fun b=>on (b) fun f=>(a_ a0.aa ([40]:Bs)).bind fun g=>(i_ f ([44,32]:Bs)).bind fun j=>(a_ g j).bind fun k=>(a_ k ([41]:Bs)).bind fun m=>some m) else(some a0.aa)) fun p=>(a_ p ([58,32]:Bs)).bind fun q=>(IV a0.av).bind fun x7=>(a_ q x7).bind fun r=>(qL a0.bf).bind fun s=>(a_ r s).bind fun t=>some t
theorem Ra {a0 r}(b:El a0=some r) (H:af) :At 180 [.agg (Z6.c a0)] H (RT (.a (.d (.str r))) H):=by
 unfold El at b;refine AC.oW 44 [.tmp 2] Tryz.call180 Tryz.func180 ?_;refine ag.tok 1 fun f q=>?_;refine Y9 ?_;obtain⟨s,F,b⟩:=bZ b;refine aO (tl [1]) (fun(z:Bs)=>[(3,.a (.d (.str z)))]) (fun z=>H) (fun z=>s z=some r) ?_ ?_
 ·intro ak t;refine Y3 ?_;refine aU Z7.c a0.ay fun al=>Y2 ?_;refine cO b (fun G b=>?_) (fun G b=>?_)
  ·refine Y3 ?_;refine ag.fe 4 1 f rfl az ?_;refine aO (tl [1,3]) (fun(z:(Sl Bs))=>[(4,.a (.d (Sl.d 1 aG (some f) z)))]) (fun z=>(tS H f 1 z)) (fun z=>Option.bind ((a_ a0.aa ([40]:Bs)).bind fun u=>(i_ z ([44,32]:Bs)).bind fun v=>(a_ u v).bind fun w=>(a_ w ([41]:Bs)).bind fun j=>some j) s=some r) ?_ ?_
   ·intro ao I;refine Y4 ?_;obtain⟨y,J,b⟩:=dA b;refine bz (tl [1,3]) (fun(z:(Sl Bs)×Nat)=>[(4,.a (.d (Sl.d 1 aG (some f) z.1))),(5,vi z.2)]) (fun z=>(tS H f 1 z.1)) (fun z=>a0.ay.l.length-z.2) (fun z=>Option.bind (wO  (a0.ay.l.drop z.2) z.1) y=some r) ((Sl.nil:Sl Bs),0) b wA ?_;rintro ⟨B,C⟩ b ap K;refine ar fun aq L=>Y4 ?_;refine aU Z7.c a0.ay fun au=>Y2 ?_
    refine ag.bJ (fun l=>Option.bind (wO  l B) y=some r) b rfl (fun av E M b=>?_) (fun M b=>?_)
    ·rw [wO] at b;refine sk L (ar fun aw N=>Y6 ?_);obtain⟨ax,O,b⟩:=vO E b;refine S (ix Z7.c C O) (Y1 ?_);obtain⟨aA,P,b⟩:=aJ b;refine Sc rfl rfl (IW P) (Y1 ?_);obtain⟨Q,R,b⟩:=aJ b;refine SH (am aG (TK rfl) rfl (TK rfl) (TK rfl) R) ?_;refine Y2 ?_;refine N _ ?_;refine Y5 ?_;exact K _ (Q,(C+1)) wA b (dl E)
    rw [wO] at b;have b:=ku J b;refine ag.exit ?_;obtain⟨aB,U,b⟩:=iy b;exact I _ B wA (ku U b:)
   rintro aC b;refine Y2 ?_;obtain⟨u,W,b⟩:=aJ b;refine S (bX W) (Y1 ?_);obtain⟨v,X,b⟩:=aJ b;refine Sc rfl rfl (sK X) ?_;obtain⟨w,Y,b⟩:=aJ b;refine S (bX Y) ?_;obtain⟨j,Z,b⟩:=aJ b;refine S (bX Z) (Y2 ?_)
   exact t _ j (cC.toFA (by(intro k ab g); (have m:k≠f:=fun p=>by rw [p] at g; simp [af.set,q] at g); (rw [<- g]); (simp only [af.set,if_neg m]); (first|done|rfl))) b
  refine ag.skip ?_;exact t _ a0.aa (cC.toFA (by(intro k ab g); (have m:k≠f:=fun p=>by rw [p] at g; simp [af.set,q] at g); (rw [<- g]); (simp only [af.set,if_neg m]); (first|done|rfl))) b
 rintro aD b;have b:=ku F b;refine Y2 ?_;obtain⟨aE,ad,b⟩:=aX b;refine aN.s0 (jL rfl rfl ad) rfl ?_;refine Y2 ?_;obtain⟨x7,ae,b⟩:=aX b;refine cF rfl rfl (IU ae) ?_;obtain⟨aF,ah,b⟩:=aX b;refine aN.s0 (jL rfl rfl ah) rfl ?_;refine Y2 ?_;obtain⟨aH,ai,b⟩:=aX b;refine cF rfl rfl (Bu ai) ?_;obtain⟨aI,aj,b⟩:=aX b;refine aN.s0 (jL rfl rfl aj) rfl ?_
 refine Y2 ?_;exact rt b
def wP :List Z6->Bs->Option (Bs)
 | [],b=>some b
 | f::g,b=>(a_ b ([32,32]:Bs)).bind fun j=>on (f) fun k=>(El k).bind fun l=>(a_ j l).bind fun m=>(a_ m ([10]:Bs)).bind fun p=>wP  (g) p
def wQ :List Z8->Bs->Option (Bs)
 | [],b=>some b
 | f::g,b=>(a_ b ([32,32]:Bs)).bind fun j=>on (f) fun k=>(a_ j k.aa).bind fun l=>on (f) fun m=>(qL m.bf).bind fun p=>(a_ l p).bind fun q=>(a_ q ([10]:Bs)).bind fun r=>wQ  (g) r
def wR :List Z7->Bs->Option (Bs)
 | [],b=>some b
 | f::g,b=>(a_ b ([32,32]:Bs)).bind fun j=>on (f) fun k=>(pI k).bind fun l=>(a_ j l).bind fun m=>(a_ m ([10]:Bs)).bind fun p=>wR  (g) p
def zc (a0:ah):Option Bs:=on (bif (decide (a0.ai=(1:Int))) then((decide (a0.ai=(1:Int)))) else((decide (a0.ai=(2:Int))))) fun b=>Option.bind (bif b then(Option.bind (wP  a0.aq.l ([]:Bs)) fun f=>some f) else(bif (decide (a0.ai=(4:Int))) then(Option.bind (wQ  a0.ax.l ([]:Bs)) fun g=>some g) else(bif (decide (a0.ai=(5:Int))) then(Option.bind (wR  a0.aF.l ([]:Bs)) fun j=>some j) else(some ([]:Bs))))) fun k=>some k
theorem Rb {a0 r}(b:zc a0=some r) (H:af) :At 145 [.agg (ah.c a0)] H (RT (.a (.d (.str r))) H):=by
 unfold zc at b;refine AC.oW 76 [.tmp 2] Tryz.call145 Tryz.func145 ?_;refine Y7 ?_;refine aO kN (fun(z:Bs)=>[(3,.a (.d (.str z)))]) (fun z=>H) (fun z=>(some z)=some r) ?_ ?_
 ·intro aM f;refine Y5 ?_;obtain⟨E,F,b⟩:=bW b;refine aO (tl [1,3,8]) (fun(z:Bool)=>[(9,.a (.d (.bool z)))]) (fun z=>H) (fun z=>E z=some r) ?_ ?_
  ·intro aP m;refine Y4 ?_;refine cP b (fun G b=>?_) (fun G b=>?_)
   ·refine ag.skip ?_;exact m _ (decide (a0.ai=(1:Int))) wA b
   refine Y4 ?_;exact m _ (decide (a0.ai=(2:Int))) wA b
  rintro aR b;have b:=ku F b;obtain⟨aS,g,b⟩:=bZ b;refine cO b (fun I b=>?_) (fun I b=>?_)
  ·refine Y4 ?_;obtain⟨p,J,b⟩:=dA b;refine bz (tl [1]) (fun(z:Bs×Nat)=>[(3,.a (.d (.str z.1))),(4,vi z.2)]) (fun z=>H) (fun z=>a0.aq.l.length-z.2) (fun z=>Option.bind (wP  (a0.aq.l.drop z.2) z.1) p=some r) (([]:Bs),0) b wA ?_;rintro ⟨q,s⟩ b aV K;refine ar fun aW L=>Y4 ?_;refine aU Z6.c a0.aq fun aX=>Y2 ?_
   refine ag.bJ (fun l=>Option.bind (wP  l q) p=some r) b rfl (fun aY t M b=>?_) (fun M b=>?_)
   ·rw [wP] at b;refine sk L (ar fun aZ N=>Y3 ?_);obtain⟨a1,O,b⟩:=aJ b;refine S (bX O) (Y3 ?_);obtain⟨a2,P,b⟩:=vO t b;refine S (ix Z6.c s P) (Y1 ?_);obtain⟨a3,Q,b⟩:=aJ b;refine Sc rfl rfl (Ra Q) ?_;obtain⟨a4,R,b⟩:=aJ b;refine S (bX R) ?_;obtain⟨U,W,b⟩:=aJ b;refine S (bX W) (Y2 ?_);refine N _ ?_;refine Y5 ?_
    exact K _ (U,(s+1)) wA b (dl t)
   rw [wP] at b;have b:=ku J b;refine ag.exit ?_;exact f _ q wA (ku g b:)
  refine Y4 ?_;refine cO b (fun X b=>?_) (fun X b=>?_)
  ·refine Y4 ?_;obtain⟨u,Y,b⟩:=dA b;refine bz (tl [1]) (fun(z:Bs×Nat)=>[(3,.a (.d (.str z.1))),(5,vi z.2)]) (fun z=>H) (fun z=>a0.ax.l.length-z.2) (fun z=>Option.bind (wQ  (a0.ax.l.drop z.2) z.1) u=some r) (([]:Bs),0) b wA ?_;rintro ⟨v,j⟩ b a5 Z;refine ar fun a6 aa=>Y4 ?_;refine aU Z8.c a0.ax fun a7=>Y2 ?_
   refine ag.bJ (fun l=>Option.bind (wQ  l v) u=some r) b rfl (fun a8 k ab b=>?_) (fun ab b=>?_)
   ·rw [wQ] at b;refine sk aa (ar fun a9 ad=>Y1 ?_);refine ag.draw rfl ?_;refine Y1 ?_;obtain⟨a_,ae,b⟩:=aJ b;refine aN.s0 (jL rfl rfl ae) rfl ?_;refine Y3 ?_;obtain⟨a',aj,b⟩:=vO k b;refine Sd (ix Z8.c j aj) (Y2 ?_);obtain⟨ba,ak,b⟩:=aJ b;refine aN.s0 (jL rfl rfl ak) rfl ?_;refine Y3 ?_;obtain⟨bb,al,b⟩:=vO k b;refine Sd (ix Z8.c j al) (Y2 ?_)
    obtain⟨bc,am,b⟩:=aJ b;refine cF rfl rfl (Bu am) ?_;obtain⟨bd,ao,b⟩:=aJ b;refine aN.s0 (jL rfl rfl ao) rfl ?_;obtain⟨ap,au,b⟩:=aJ b;refine aN.s0 (jL rfl rfl au) rfl ?_;refine Y2 ?_;refine ad _ ?_;refine Y5 ?_;exact Z _ (ap,(j+1)) wA b (dl k)
   rw [wQ] at b;have b:=ku Y b;refine ag.exit ?_;exact f _ v wA (ku g b:)
  refine Y4 ?_;refine cO b (fun av b=>?_) (fun av b=>?_)
  ·refine Y4 ?_;obtain⟨w,aw,b⟩:=dA b;refine bz (tl [1]) (fun(z:Bs×Nat)=>[(3,.a (.d (.str z.1))),(6,vi z.2)]) (fun z=>H) (fun z=>a0.aF.l.length-z.2) (fun z=>Option.bind (wR  (a0.aF.l.drop z.2) z.1) w=some r) (([]:Bs),0) b wA ?_;rintro ⟨y,B⟩ b be ay;refine ar fun bf aA=>Y4 ?_;refine aU Z7.c a0.aF fun bg=>Y2 ?_
   refine ag.bJ (fun l=>Option.bind (wR  l y) w=some r) b rfl (fun bh C aB b=>?_) (fun aB b=>?_)
   ·rw [wR] at b;refine sk aA (ar fun bi aC=>Y3 ?_);obtain⟨bj,aD,b⟩:=aJ b;refine S (bX aD) (Y3 ?_);obtain⟨bk,aE,b⟩:=vO C b;refine S (ix Z7.c B aE) (Y1 ?_);obtain⟨bl,aG,b⟩:=aJ b;refine Sc rfl rfl (IW aG) ?_;obtain⟨bm,aH,b⟩:=aJ b;refine S (bX aH) ?_;obtain⟨aI,aL,b⟩:=aJ b;refine S (bX aL) (Y2 ?_);refine aC _ ?_;refine Y5 ?_
    exact ay _ (aI,(B+1)) wA b (dl C)
   rw [wR] at b;have b:=ku aw b;refine ag.exit ?_;exact f _ y wA (ku g b:)
  refine ag.skip ?_;exact f _ ([]:Bs) wA (ku g b:)
 rintro bn b;refine Y4 ?_;exact rt b
def wS :List Z8->(Sl Bs)->Option ((Sl Bs))
 | [],b=>some b
 | f::g,b=>on (f) fun j=>(bh 16 b (⟨false,[j.aa]⟩:Sl Bs)).bind fun k=>wS  (g) k
def uU (a0:ah):Option Bs:=Option.bind (bif ((decide ((1:Int)<=a0.ai))&&(decide (a0.ai<=(5:Int)))) then((c_ (⟨false,[([]:Bs),([116,121,112,101,32]:Bs),([105,110,116,101,114,102,97,99,101,32]:Bs),([117,110,105,111,110,32]:Bs),([101,110,117,109,32]:Bs),([105,110,112,117,116,32]:Bs)]⟩:Sl Bs).l a0.ai).bind fun g=>(a_ g a0.aa).bind fun j=>some j) else(some a0.aa)) fun b=>Option.bind (bif ((decide (a0.ai=(1:Int)))&&(decide ((0:Int)<((a0.aM.l.length:Nat):Int)))) then((a_ b ([32,105,109,112,108,101,109,101,110,116,115,32]:Bs)).bind fun k=>(i_ a0.aM ([32,38,32]:Bs)).bind fun m=>(a_ k m).bind fun p=>some p) else(some b)) fun q=>(qL a0.bf).bind fun r=>(a_ q r).bind fun f=>bif (decide (a0.ai=(3:Int))) then(Option.bind (wS  a0.ax.l (Sl.nil:Sl Bs)) fun s=>on (s) fun t=>(a_ f ([32,61,32]:Bs)).bind fun u=>(i_ t ([32,124,32]:Bs)).bind fun v=>(a_ u v).bind fun w=>(a_ w ([10]:Bs)).bind fun y=>some y) else((a_ f ([32,123,10]:Bs)).bind fun z=>(zc a0).bind fun B=>(a_ z B).bind fun C=>(a_ C ([125,10]:Bs)).bind fun E=>some E)
theorem Rc {a0 r}(b:uU a0=some r) (H:af) :At 106 [.agg (ah.c a0)] H (RT (.a (.d (.str r))) H):=by
 unfold uU at b;refine AC.oW 76 [.tmp 2] Tryz.call106 Tryz.func106 ?_;refine ag.tok 1 fun g aC=>?_;refine D5 ?_;obtain⟨y,B,b⟩:=bZ b;refine aO (tl [1]) (fun(z:Bs)=>[(4,.a (.d (.str z)))]) (fun z=>(H.set g (some (.tok 1 0)))) (fun z=>y z=some r) ?_ ?_
 ·intro aD j;refine Y6 ?_;refine Gk 14 ?_;refine Gk 15 ?_;refine Y2 ?_;refine cO b (fun C b=>?_) (fun C b=>?_)
  ·refine Y4 ?_;obtain⟨aE,E,b⟩:=aJ b;refine s0 (iV (f:=aG) (TK rfl) rfl (TK rfl) rfl rfl rfl E) rfl ?_;refine Y2 ?_;obtain⟨F,G,b⟩:=aJ b;refine S (bX G) (Y2 ?_);exact j _ F wA b
  refine ag.skip ?_;exact j _ a0.aa wA b
 rintro I b;have b:=ku B b;obtain⟨J,K,b⟩:=bZ b;refine aO (tl [1]) (fun(z:Bs)=>[(4,.a (.d (.str z)))]) (fun z=>(H.set g (some (.tok 1 0)))) (fun z=>J z=some r) ?_ ?_
 ·intro aF k;refine Y6 ?_;refine Gk 29 ?_;refine bI 30 rfl (fun hC=>dG aG a0.aM) ?_;refine Gk 31 ?_;refine Y2 ?_;refine cO b (fun L b=>?_) (fun L b=>?_)
  ·refine Y2 ?_;obtain⟨aH,M,b⟩:=aJ b;refine S (bX M) (Y2 ?_);obtain⟨aI,N,b⟩:=aJ b;refine Sc rfl rfl (sK N) ?_;obtain⟨O,P,b⟩:=aJ b;refine S (bX P) (Y2 ?_);exact k _ O wA b
  refine ag.skip ?_;exact k _ I wA b
 rintro aL b;have b:=ku K b;refine Y4 ?_;obtain⟨aP,Q,b⟩:=aX b;refine Sc rfl rfl (Bu Q) ?_;obtain⟨R,U,b⟩:=aX b;refine S (bX U) (Y2 ?_);refine ar fun aR W=>Y5 ?_;refine cE b (fun X b=>?_) (fun X b=>?_)
 ·refine Y3 ?_;refine ag.fe 5 1 g rfl az ?_;refine aO (tl [4]) (fun(z:(Sl Bs))=>[(5,.a (.d (Sl.d 1 aG (some g) z)))]) (fun z=>(tS H g 1 z)) (fun z=>((a_ R ([32,61,32]:Bs)).bind fun m=>(i_ z ([32,124,32]:Bs)).bind fun p=>(a_ m p).bind fun q=>(a_ q ([10]:Bs)).bind fun s=>some s)=some r) ?_ ?_
  ·intro aS Y;refine Y4 ?_;obtain⟨t,Z,b⟩:=bZ b;refine bz (tl [1,4]) (fun(z:(Sl Bs)×Nat)=>[(5,.a (.d (Sl.d 1 aG (some g) z.1))),(6,vi z.2)]) (fun z=>(tS H g 1 z.1)) (fun z=>a0.ax.l.length-z.2) (fun z=>Option.bind (wS  (a0.ax.l.drop z.2) z.1) t=some r) ((Sl.nil:Sl Bs),0) b wA ?_;rintro ⟨u,v⟩ b aV ab;refine ar fun aW ad=>Y4 ?_
   refine aU Z8.c a0.ax fun aY=>Y2 ?_;refine ag.bJ (fun l=>Option.bind (wS  l u) t=some r) b rfl (fun aZ w ae b=>?_) (fun ae b=>?_)
   ·rw [wS] at b;refine sk ad (ar fun a1 ai=>Y6 ?_);obtain⟨a2,aj,b⟩:=vO w b;refine S (ix Z8.c v aj) (Y3 ?_);obtain⟨ak,al,b⟩:=aJ b;refine SH (am aG (TK rfl) rfl (TK rfl) (TK rfl) al) ?_;refine Y2 ?_;refine ai _ ?_;refine Y5 ?_;exact ab _ (ak,(v+1)) wA b (dl w)
   rw [wS] at b;have b:=ku Z b;refine ag.exit ?_;obtain⟨a3,ao,b⟩:=bW b;exact Y _ u wA (ku ao b:)
  rintro a4 b;refine Y2 ?_;obtain⟨m,ap,b⟩:=aX b;refine S (bX ap) (Y1 ?_);obtain⟨p,aq,b⟩:=aX b;refine Sc rfl rfl (sK aq) ?_;obtain⟨q,au,b⟩:=aX b;refine S (bX au) ?_;obtain⟨s,av,b⟩:=aX b;refine S (bX av) (Y2 ?_);refine ry ?_;obtain rfl:=oJ b;refine bU.cH H rfl ⟨rfl,rfl⟩ ?_;exact sy
 refine sk W (Y2 ?_);obtain⟨a5,aw,b⟩:=aX b;refine S (bX aw) (Y1 ?_);obtain⟨a6,ay,b⟩:=aX b;refine Sc rfl rfl (Rb ay) ?_;obtain⟨a7,aA,b⟩:=aX b;refine S (bX aA) ?_;obtain⟨a8,aB,b⟩:=aX b;refine S (bX aB) (Y2 ?_);refine ry ?_;obtain rfl:=oJ b;refine bU.cH H rfl ⟨rfl,rfl⟩ ?_;exact sy
def sN :List ah->(Sl Bs)->Option ((Sl Bs))
 | [],b=>some b
 | f::g,b=>on (f) fun j=>(uU j).bind fun k=>(bh 16 b (⟨false,[k]⟩:Sl Bs)).bind fun l=>sN  (g) l
def uV (a0:ak):Option Bs:=Option.bind (sN  a0.aj.l (Sl.nil:Sl Bs)) fun b=>on (b) fun f=>(i_ f ([10]:Bs)).bind fun g=>some g
theorem IX {a0 r}(b:uV a0=some r) (H:af) :At 62 [.agg (ak.c a0)] H (RT (.a (.d (.str r))) H):=by
 unfold uV at b;refine AC.oW 23 [.tmp 2] Tryz.call62 Tryz.func62 ?_;refine ag.tok 1 fun f I=>?_;refine Y7 ?_;refine ag.fe 3 1 f rfl az ?_;refine aO kN (fun(z:(Sl Bs))=>[(3,.a (.d (Sl.d 1 aG (some f) z)))]) (fun z=>(tS H f 1 z)) (fun z=>((i_ z ([10]:Bs)).bind fun g=>some g)=some r) ?_ ?_
 ·intro J q;refine Y4 ?_;obtain⟨j,s,b⟩:=bZ b;refine bz (tl [1]) (fun(z:(Sl Bs)×Nat)=>[(3,.a (.d (Sl.d 1 aG (some f) z.1))),(4,vi z.2)]) (fun z=>(tS H f 1 z.1)) (fun z=>a0.aj.l.length-z.2) (fun z=>Option.bind (sN  (a0.aj.l.drop z.2) z.1) j=some r) ((Sl.nil:Sl Bs),0) b wA ?_;rintro ⟨k,m⟩ b K t;refine ar fun L u=>Y4 ?_;refine aU ah.c a0.aj fun M=>Y2 ?_
  refine ag.bJ (fun l=>Option.bind (sN  l k) j=some r) b rfl (fun N p v b=>?_) (fun v b=>?_)
  ·rw [sN] at b;refine sk u (ar fun O w=>Y6 ?_);obtain⟨P,y,b⟩:=vO p b;refine S (ix ah.c m y) (Y1 ?_);obtain⟨Q,B,b⟩:=aJ b;refine Sc rfl rfl (Rc B) (Y1 ?_);obtain⟨C,E,b⟩:=aJ b;refine SH (am aG (TK rfl) rfl (TK rfl) (TK rfl) E) ?_;refine Y2 ?_;refine w _ ?_;refine Y5 ?_;exact t _ (C,(m+1)) wA b (dl p)
  rw [sN] at b;have b:=ku s b;refine ag.exit ?_;obtain⟨R,F,b⟩:=bW b;exact q _ k wA (ku F b:)
 rintro U b;refine Y2 ?_;obtain⟨g,G,b⟩:=aX b;refine Sc rfl rfl (sK G) (Y2 ?_);refine ry ?_;obtain rfl:=oJ b;refine bU.cH H rfl ⟨rfl,rfl⟩ ?_;exact sy
def sO (g:(Sl Z7)):List Z7->Option (Unit ⊕ Bool)
 | []=>some (Sum.inl ())
 | f::j=>on (f) fun k=>on (iZ g k.aa) fun b=>aZ (!(!b.2)) (uV (ak.mk (⟨false,[(ah.mk 5 [73] Sl.nil Sl.nil Sl.nil Sl.nil (⟨false,[b.1]⟩:Sl Z7))]⟩:Sl ah))) ([]:Bs) fun l=>on (bif !(!b.2) then f else Z7.zero) fun m=>aZ (!(!b.2)) (uV (ak.mk (⟨false,[(ah.mk 5 [73] Sl.nil Sl.nil Sl.nil Sl.nil (⟨false,[m]⟩:Sl Z7))]⟩:Sl ah))) ([]:Bs) fun p=>bif ((!b.2)||(!(l==p))) then(some (Sum.inr false)) else(sO g (j) )
def wT (a0:(Sl Z7)) (g:(Sl Z7)):Option Bool:=Option.bind (sO g a0.l ) fun b=>match b with|Sum.inl _=>(on (()) fun _=>some true)|Sum.inr f=>(some f)
theorem IY {a0 f w0 p r}(b:wT a0 f=some r) (H:af) :At 28 [.d (Sl.d 10 Z7.c w0 a0),.d (Sl.d 10 Z7.c p f)] H (RT (.a (.d (.bool r))) H):=by
 unfold wT at b;refine AC.oW 44 [.tmp 4] Tryz.call28 Tryz.func28 ?_;refine Y3 ?_;refine aO kN (fun(z:Unit)=>[]) (fun z=>H) (fun z=>(some true)=some r) ?_ ?_
 ·intro I q;refine Y4 ?_;obtain⟨k,m,b⟩:=bZ b;refine bz (tl [0,1]) (fun(z:Nat)=>[(5,vi z)]) (fun z=>H) (fun z=>a0.l.length-z) (fun z=>Option.bind (sO f (a0.l.drop z) ) k=some r) 0 b wA ?_;rintro g b J s;refine ar fun K t=>Y3 ?_;refine aU Z7.c a0 fun L=>Y2 ?_;refine ag.bJ (fun l=>Option.bind (sO f l ) k=some r) b rfl (fun M j u b=>?_) (fun u b=>?_)
  ·rw [sO] at b;refine sk t (ar fun N v=>Y5 ?_);obtain⟨O,w,b⟩:=vO j b;refine S (ix Z7.c g w) (Y2 ?_);obtain⟨P,y,b⟩:=eG b;refine Sc rfl rfl (y8 y) (Y7 ?_);refine bC 6 _ rfl (kl [0,1,5,7]) ?_;refine Y5 ?_;refine j9 27 rfl (fun hC=>buildSlice (TK rfl) rfl (TK rfl) rfl rfl rfl rfl rfl rfl) ?_;refine cm 28 ?_
   refine j9 29 rfl (fun hC=>buildSlice (TK rfl) rfl (TK rfl) rfl rfl rfl rfl rfl rfl) ?_;refine cm 30 ?_;obtain⟨Q,B,b⟩:=fz b;refine mB 31 rfl rfl rfl rfl rfl (fun hC=>IX (B hC)) ?_;refine Y2 ?_;obtain⟨R,C,b⟩:=ee (fun _=>j) b;refine gq 33 34 rfl rfl (fun hC=>ix Z7.c g (C hC)) ?_;refine cm 35 ?_
   refine j9 36 rfl (fun hC=>buildSlice (TK rfl) rfl (TK rfl) rfl rfl rfl rfl rfl rfl) ?_;refine cm 37 ?_;refine j9 38 rfl (fun hC=>buildSlice (TK rfl) rfl (TK rfl) rfl rfl rfl rfl rfl rfl) ?_;refine cm 39 ?_;obtain⟨U,E,b⟩:=fz b;refine mB 40 rfl rfl rfl rfl rfl (fun hC=>IX (E hC)) ?_;refine qx 32 41 rfl rfl BS ?_;refine Y2 ?_;refine cO b (fun F b=>?_) (fun F b=>?_)
   ·refine Y3 ?_;exact rs (ku m b:)
   refine sk v (Y5 ?_);exact s _ (g+1) wA b (dl j)
  rw [sO] at b;have b:=ku m b;refine ag.exit ?_;obtain⟨W,G,b⟩:=bW b;exact q _ () wA (ku G b:)
 rintro _ b;refine Y3 ?_;exact rt b
def sP (k:ah):List Z6->Option (Unit ⊕ Bool)
 | []=>some (Sum.inl ())
 | f::m=>on (f) fun p=>on (nQ k p.aa) fun b=>on (bif !(!b.2) then f else Z6.zero) fun g=>on (bif !((!b.2)||(!(b.1.av.aa==g.av.aa))) then f else Z6.zero) fun j=>on (bif !(((!b.2)||(!(b.1.av.aa==g.av.aa)))||(!decide (((b.1.av.aH.l.length:Nat):Int)=((j.av.aH.l.length:Nat):Int)))) then f else Z6.zero) fun q=>aZ (!(((!b.2)||(!(b.1.av.aa==g.av.aa)))||(!decide (((b.1.av.aH.l.length:Nat):Int)=((j.av.aH.l.length:Nat):Int))))) (wT q.ay b.1.ay) false fun r=>bif ((((!b.2)||(!(b.1.av.aa==g.av.aa)))||(!decide (((b.1.av.aH.l.length:Nat):Int)=((j.av.aH.l.length:Nat):Int))))||(!r)) then(some (Sum.inr false)) else(sP k (m) )
def qM (f:Z8):List Z8->Bool->Bool
 | [],b=>b
 | g::j,b=>on (bif !b then f else Z8.zero) fun k=>on (bif !b then g else Z8.zero) fun l=>qM f (j) (b||((k.aa==l.aa)))
def nW (b:ah):List Z8->Unit ⊕ Bool
 | []=>Sum.inl ()
 | f::g=>on (qM f b.ax.l false) fun j=>on (j) fun k=>bif (!k) then(Sum.inr false) else(on (()) fun _=>nW b (g) )
def qN (f:Bs):List Bs->Bool->Bool
 | [],b=>b
 | g::j,b=>on (bif !b then f else([]:Bs)) fun k=>on (bif !b then g else([]:Bs)) fun l=>qN f (j) (b||((k==l)))
def mH (b:ah):List Bs->Unit ⊕ Bool
 | []=>Sum.inl ()
 | f::g=>on (qN f b.aM.l false) fun j=>on (j) fun k=>bif (!k) then(Sum.inr false) else(on (()) fun _=>mH b (g) )
def zd (a0:ah) (b:ah):Option Bool:=aZ (!(!decide (a0.ai=b.ai))) (wT a0.aF b.aF) false fun f=>bif ((!decide (a0.ai=b.ai))||(!f)) then(some false) else(Option.bind (sP b a0.aq.l ) fun g=>match g with|Sum.inl _=>(on (()) fun _=>on (nW b a0.ax.l ) fun j=>match j with|Sum.inl _=>(on (()) fun _=>on (mH b a0.aM.l ) fun k=>match k with|Sum.inl _=>(on (()) fun _=>some true)|Sum.inr m=>(some m))|Sum.inr p=>(some p))|Sum.inr q=>(some q))
theorem Re {a0 f r}(b:zd a0 f=some r) (H:af) :At 13 [.agg (ah.c a0),.agg (ah.c f)] H (RT (.a (.d (.bool r))) H):=by
 unfold zd at b;refine AC.oW 149 [.tmp 4] Tryz.call13 Tryz.func13 ?_;refine Y5 ?_;refine ar fun bi P=>Y8 ?_;refine Gk 20 ?_;refine Y1 ?_;refine Gk 22 ?_;obtain⟨bj,Q,b⟩:=eB b;refine fS 21 23 rfl rfl rfl rfl rfl rfl (fun hC=>IY (Q hC)) ?_;refine Gk 24 ?_;refine Y2 ?_;refine cE b (fun R b=>?_) (fun R b=>?_)
 ·refine Y3 ?_;exact rt b
 refine sk P (aO (tl [2,3]) (fun(z:Unit)=>[]) (fun z=>H) (fun z=>(on (nW f a0.ax.l ) fun S=>match S with|Sum.inl _=>(on (()) fun _=>on (mH f a0.aM.l ) fun s=>match s with|Sum.inl _=>(on (()) fun _=>some true)|Sum.inr t=>(some t))|Sum.inr U=>(some U))=some r) ?_ ?_)
 ·intro bk W;refine Y4 ?_;obtain⟨w,y,b⟩:=bZ b;refine bz (tl [2,3]) (fun(z:Nat)=>[(5,vi z)]) (fun z=>H) (fun z=>a0.aq.l.length-z) (fun z=>Option.bind (sP f (a0.aq.l.drop z) ) w=some r) 0 b wA ?_;rintro g b bl X;refine ar fun bm Y=>Y4 ?_;refine aU Z6.c a0.aq fun bn=>Y2 ?_
  refine ag.bJ (fun l=>Option.bind (sP f l ) w=some r) b rfl (fun bo j Z b=>?_) (fun Z b=>?_)
  ·rw [sP] at b;refine sk Y (ar fun bp ab=>Y6 ?_);obtain⟨bq,ad,b⟩:=vO j b;refine Sd (ix Z6.c g ad) (Y2 ?_);obtain⟨ae,ai,b⟩:=eG b;refine cF rfl rfl (Ee ai) (Y7 ?_);refine bC 6 _ rfl (kl [2,3,5,7]) ?_;refine Y5 ?_;refine cm 48 ?_;refine cm 49 ?_;refine Y1 ?_;refine cm 51 ?_;refine Y1 ?_;obtain⟨br,aj,b⟩:=ee (fun _=>j) b
   refine gq 52 53 rfl rfl (fun hC=>ix Z6.c g (aj hC)) ?_;refine cm 54 ?_;refine cm 55 ?_;refine cm 56 ?_;refine qx 50 57 rfl rfl BS ?_;refine Y3 ?_;refine cm 61 ?_;refine cm 62 ?_;refine j9 63 rfl (fun hC=>dG (bL .i64) ae.1.av.aH) ?_;refine Y1 ?_;refine cm 65 ?_;refine Y1 ?_;obtain⟨ak,al,b⟩:=ee (fun _=>j) b;refine gq 66 67 rfl rfl (fun hC=>ix Z6.c g (al hC)) ?_
   refine cm 68 ?_;refine cm 69 ?_;refine cm 70 ?_;refine j9 71 rfl (fun hC=>dG (bL .i64) ak.av.aH) ?_;refine qx 64 72 rfl rfl BI ?_;refine Y3 ?_;refine cm 76 ?_;refine Y1 ?_;obtain⟨bs,am,b⟩:=ee (fun _=>j) b;refine gq 77 78 rfl rfl (fun hC=>ix Z6.c g (am hC)) ?_;refine cm 79 ?_;refine cm 80 ?_;refine Y1 ?_;refine cm 82 ?_;obtain⟨bt,ao,b⟩:=fz b
   refine sD 81 83 rfl rfl rfl rfl rfl rfl (fun hC=>IY (ao hC)) ?_;refine cm 84 ?_;refine Y2 ?_;refine cO b (fun ap b=>?_) (fun ap b=>?_)
   ·refine Y3 ?_;exact rs (ku y b:)
   refine sk ab (Y5 ?_);exact X _ (g+1) wA b (dl j)
  rw [sP] at b;have b:=ku y b;refine ag.exit ?_;obtain⟨bu,au,b⟩:=bW b;exact W _ () wA (ku au b:)
 rintro _ b;refine aO (tl [2,3]) (fun(z:Unit)=>[]) (fun z=>H) (fun z=>(on (mH f a0.aM.l ) fun s=>match s with|Sum.inl _=>(on (()) fun _=>some true)|Sum.inr t=>(some t))=some r) ?_ ?_
 ·intro bv aw;refine Y4 ?_;obtain⟨k,B,b⟩:=bW b;refine bz (tl [2,3]) (fun(z:Nat)=>[(8,vi z)]) (fun z=>H) (fun z=>a0.ax.l.length-z) (fun z=>k (nW f (a0.ax.l.drop z) )=some r) 0 b wA ?_;rintro m b bw ay;refine ar fun bx aA=>Y4 ?_;refine aU Z8.c a0.ax fun bA=>Y2 ?_
  refine ag.bJ (fun l=>k (nW f l )=some r) b rfl (fun C E aB b=>?_) (fun aB b=>?_)
  ·rw [nW] at b;refine sk aA (aO (tl [2,3,8]) (fun(z:Unit)=>[]) (fun z=>H) (fun z=>k (nW f (a0.ax.l.drop (m+1)) )=some r) ?_ ?_)
   ·intro bB aC;refine Y4 ?_;refine aO (tl [2,3,8]) (fun(z:Bool)=>[(9,.a (.d (.bool z)))]) (fun z=>H) (fun z=>k (bif (!z) then(Sum.inr false) else(on (()) fun _=>nW f (a0.ax.l.drop (m+1)) ))=some r) ?_ ?_
    ·intro bD aD;refine Y4 ?_;obtain⟨F,aE,b⟩:=dU b;refine bz (tl [2,3,8]) (fun(z:Bool×Nat)=>[(9,.a (.d (.bool z.1))),(10,vi z.2)]) (fun z=>H) (fun z=>f.ax.l.length-z.2) (fun z=>F (qM C (f.ax.l.drop z.2) z.1)=some r) (false,0) b wA ?_;rintro ⟨u,G⟩ b bF aF;refine ar fun bG aI=>Y4 ?_;refine aU Z8.c f.ax fun bH=>Y2 ?_
     refine ag.bJ (fun l=>F (qM C l u)=some r) b rfl (fun bI I aJ b=>?_) (fun aJ b=>?_)
     ·rw [qM] at b;refine sk aI (ar fun bK aL=>Y1 ?_);refine ag.draw rfl ?_;refine Y3 ?_;refine cm 103 ?_;refine Y1 ?_;obtain⟨aP,aR,b⟩:=iX (fun _=>E) b;refine gq 104 105 rfl rfl (fun hC=>ix Z8.c m (aR hC)) ?_;refine cm 106 ?_;refine cm 107 ?_;refine Y1 ?_;refine cm 109 ?_;refine Y1 ?_;obtain⟨aS,aV,b⟩:=iX (fun _=>I) b
      refine gq 110 111 rfl rfl (fun hC=>ix Z8.c G (aV hC)) ?_;refine cm 112 ?_;refine cm 113 ?_;refine qx 108 114 rfl rfl BS ?_;refine Y3 ?_;refine aL _ ?_;refine Y5 ?_;exact aF _ ((u||((aP.aa==aS.aa))),(G+1)) wA b (dl I)
     rw [qM] at b;have b:=ku aE b;refine ag.exit ?_;obtain⟨bM,aW,b⟩:=dU b;exact aD _ u wA (ku aW b:)
    rintro bN b;refine Y4 ?_;refine cP b (fun aX b=>?_) (fun aX b=>?_)
    ·refine Y3 ?_;exact rs (ku B b:)
    refine ag.skip ?_;obtain⟨bO,aY,b⟩:=dU b;exact aC _ () wA (ku aY b:)
   rintro _ b;refine Y5 ?_;exact ay _ (m+1) wA b (dl E)
  rw [nW] at b;have b:=ku B b;refine ag.exit ?_;obtain⟨bP,aZ,b⟩:=bW b;exact aw _ () wA (ku aZ b:)
 rintro _ b;refine aO kN (fun(z:Unit)=>[]) (fun z=>H) (fun z=>(some true)=some r) ?_ ?_
 ·intro bQ a1;refine Y4 ?_;obtain⟨p,J,b⟩:=bW b;refine bz (tl [2,3]) (fun(z:Nat)=>[(11,vi z)]) (fun z=>H) (fun z=>a0.aM.l.length-z) (fun z=>p (mH f (a0.aM.l.drop z) )=some r) 0 b wA ?_;rintro q b bR a2;refine ar fun bS a3=>Y4 ?_;refine aU aG a0.aM fun bT=>Y2 ?_
  refine ag.bJ (fun l=>p (mH f l )=some r) b rfl (fun K L a4 b=>?_) (fun a4 b=>?_)
  ·rw [mH] at b;refine sk a3 (aO (tl [2,3,11]) (fun(z:Unit)=>[]) (fun z=>H) (fun z=>p (mH f (a0.aM.l.drop (q+1)) )=some r) ?_ ?_)
   ·intro bV a5;refine Y4 ?_;refine aO (tl [2,3,11]) (fun(z:Bool)=>[(12,.a (.d (.bool z)))]) (fun z=>H) (fun z=>p (bif (!z) then(Sum.inr false) else(on (()) fun _=>mH f (a0.aM.l.drop (q+1)) ))=some r) ?_ ?_
    ·intro bX a6;refine Y4 ?_;obtain⟨M,a7,b⟩:=dU b;refine bz (tl [2,3,11]) (fun(z:Bool×Nat)=>[(12,.a (.d (.bool z.1))),(13,vi z.2)]) (fun z=>H) (fun z=>f.aM.l.length-z.2) (fun z=>M (qN K (f.aM.l.drop z.2) z.1)=some r) (false,0) b wA ?_;rintro ⟨v,N⟩ b bY a8;refine ar fun b0 a9=>Y4 ?_;refine aU aG f.aM fun b1=>Y2 ?_
     refine ag.bJ (fun l=>M (qN K l v)=some r) b rfl (fun b2 O a_ b=>?_) (fun a_ b=>?_)
     ·rw [qN] at b;refine sk a9 (ar fun b3 a'=>Y1 ?_);refine ag.draw rfl ?_;refine Y3 ?_;refine cm 135 ?_;refine Y1 ?_;obtain⟨ba,bb,b⟩:=iX (fun _=>L) b;refine gq 136 137 rfl rfl (fun hC=>ix aG q (bb hC)) ?_;refine cm 138 ?_;refine Y1 ?_;refine cm 140 ?_;refine Y1 ?_;obtain⟨bc,bd,b⟩:=iX (fun _=>O) b;refine gq 141 142 rfl rfl (fun hC=>ix aG N (bd hC)) ?_
      refine cm 143 ?_;refine qx 139 144 rfl rfl BS ?_;refine Y3 ?_;refine a' _ ?_;refine Y5 ?_;exact a8 _ ((v||((ba==bc))),(N+1)) wA b (dl O)
     rw [qN] at b;have b:=ku a7 b;refine ag.exit ?_;obtain⟨b4,be,b⟩:=dU b;exact a6 _ v wA (ku be b:)
    rintro b5 b;refine Y4 ?_;refine cP b (fun bf b=>?_) (fun bf b=>?_)
    ·refine Y3 ?_;exact rs (ku J b:)
    refine ag.skip ?_;obtain⟨b6,bg,b⟩:=dU b;exact a5 _ () wA (ku bg b:)
   rintro _ b;refine Y5 ?_;exact a2 _ (q+1) wA b (dl L)
  rw [mH] at b;have b:=ku J b;refine ag.exit ?_;obtain⟨b7,bh,b⟩:=bW b;exact a1 _ () wA (ku bh b:)
 rintro _ b;refine Y3 ?_;exact rt b
def sQ (a0:ak):List ah->Option (Unit ⊕ Bool)
 | []=>some (Sum.inl ())
 | f::g=>on (f) fun j=>on (eR a0 j.aa) fun b=>on (bif !(!b.2) then f else ah.zero) fun k=>aZ (!(!b.2)) (zd k b.1) false fun l=>bif ((!b.2)||(!l)) then(some (Sum.inr false)) else(sQ a0 (g) )
def ze (a0:ak) (g:(Sl Bs)) (j:(Sl Bs)):Option Bool:=(zf a0).bind fun m=>bif (((!m)||(decide ((20:Int)<((g.l.length:Nat):Int))))||(decide ((20:Int)<((j.l.length:Nat):Int)))) then((uW).bind fun x7=>some x7) else((zg a0 g j).bind fun b=>bif (decide ((0:Int)<((b.2.l.length:Nat):Int))) then(aZ ((decide (((b.1.aj.l.length:Nat):Int)=(0:Int)))) (uW) false fun p=>some ((decide (((b.1.aj.l.length:Nat):Int)=(0:Int)))&&p)) else((pJ b.1).bind fun q=>bif (decide ((0:Int)<((q.l.length:Nat):Int))) then(some false) else(Option.bind (sQ a0 b.1.aj.l ) fun r=>match r with|Sum.inl _=>(on (()) fun _=>(zg b.1 g j).bind fun f=>aZ ((decide (((f.2.l.length:Nat):Int)=(0:Int)))) (wU f.1 b.1) false fun k=>aZ (((decide (((f.2.l.length:Nat):Int)=(0:Int)))&&k)) (uW) false fun s=>some (((decide (((f.2.l.length:Nat):Int)=(0:Int)))&&k)&&s))|Sum.inr t=>(some t))))
def Em (a0:ak) (b:(Sl Bs)) (f:(Sl Bs)):Option Bool:=ze a0 b f
theorem Rf (a0:ak) (a1:(Sl Bs)) (a2:(Sl Bs)):Em a0 a1 a2=ze a0 a1 a2:=rfl
theorem Rg {a0 j k v w oT gT r}(b:Em a0 j k=some r) (H:af) (ai:H gT=some oT) (al:iw Tryz.prog oT):At 4 [.agg (ak.c a0),.d (Sl.d 1 aG v j),.d (Sl.d 1 aG w k)] H (RT (.a (.d (.bool r))) H):=by
 unfold Em ze at b;refine AC.oW 97 [.tmp 6] Tryz.call4 Tryz.func4 ?_;refine Y4 ?_;refine ar fun am y=>Y2 ?_;obtain⟨ao,B,b⟩:=aX b;refine Sc rfl rfl (Rh B) (Y3 ?_);refine bI 18 rfl (fun hC=>dG aG j) ?_;refine Gk 19 ?_;refine Y3 ?_;refine bI 23 rfl (fun hC=>dG aG k) ?_;refine Gk 24 ?_;refine Y2 ?_;refine cE b (fun C b=>?_) (fun C b=>?_)
 ·refine Y1 ?_;obtain⟨x7,E,b⟩:=aX b;refine s0 (eE rfl rfl (En (gT:=gT) (oT:=oT) E _ az (by assumption))) rfl ?_;refine Y2 ?_;exact rt b
 refine sk y (Y4 ?_);obtain⟨f,F,b⟩:=aX b;refine s0 (eE rfl rfl (Eo (gT:=gT) (oT:=oT) F _ az (by assumption))) rfl ?_;refine Y7 ?_;refine bC 7 _ rfl (kl [1,2,3,8]) ?_;refine ar fun ap G=>Y2 ?_;refine aU Z5.c f.2 fun aq=>Y2 ?_;refine cE b (fun I b=>?_) (fun I b=>?_)
 ·refine Y3 ?_;refine aU ah.c f.1.aj fun au=>Y2 ?_;obtain⟨av,J,b⟩:=eB b;refine gC rfl rfl (fun hC=>eE rfl rfl (En (gT:=gT) (oT:=oT) (J hC) _ az (by assumption))) rfl ?_;refine Y3 ?_;exact rt b
 refine sk G (ar fun aw K=>Y2 ?_);obtain⟨L,M,b⟩:=aX b;refine Sc rfl rfl (IZ M) (aU Z5.c L fun ax=>Y2 ?_);refine cE b (fun N b=>?_) (fun N b=>?_)
 ·refine Y3 ?_;exact rt b
 refine sk K (aO (tl [1,2,7]) (fun(z:Unit)=>[]) (fun z=>H) (fun z=>((zg f.1 j k).bind fun g=>aZ ((decide (((g.2.l.length:Nat):Int)=(0:Int)))) (wU g.1 f.1) false fun m=>aZ (((decide (((g.2.l.length:Nat):Int)=(0:Int)))&&m)) (uW) false fun s=>some (((decide (((g.2.l.length:Nat):Int)=(0:Int)))&&m)&&s))=some r) ?_ ?_)
 ·intro ay O;refine Y4 ?_;obtain⟨t,u,b⟩:=bZ b;refine bz (tl [1,2,3,7]) (fun(z:Nat)=>[(9,vi z)]) (fun z=>H) (fun z=>f.1.aj.l.length-z) (fun z=>Option.bind (sQ a0 (f.1.aj.l.drop z) ) t=some r) 0 b wA ?_;rintro p b aA P;refine ar fun aB Q=>Y4 ?_;refine aU ah.c f.1.aj fun aC=>Y2 ?_
  refine ag.bJ (fun l=>Option.bind (sQ a0 l ) t=some r) b rfl (fun aD q R b=>?_) (fun R b=>?_)
  ·rw [sQ] at b;refine sk Q (ar fun aE S=>Y6 ?_);obtain⟨aF,U,b⟩:=vO q b;refine Sd (ix ah.c p U) (Y2 ?_);obtain⟨aH,W,b⟩:=eG b;refine cF rfl rfl (mD W) (Y7 ?_);refine bC 10 _ rfl (kl [1,2,3,7,9,11]) ?_;refine Y5 ?_;refine cm 70 ?_;refine Y1 ?_;obtain⟨aI,X,b⟩:=ee (fun _=>q) b;refine gq 71 72 rfl rfl (fun hC=>ix ah.c p (X hC)) ?_
   refine cm 73 ?_;refine Y1 ?_;obtain⟨aJ,Y,b⟩:=fz b;refine sD 74 75 rfl rfl rfl rfl rfl rfl (fun hC=>Re (Y hC)) ?_;refine cm 76 ?_;refine Y2 ?_;refine cO b (fun Z b=>?_) (fun Z b=>?_)
   ·refine Y3 ?_;exact rs (ku u b:)
   refine sk S (Y5 ?_);exact P _ (p+1) wA b (dl q)
  rw [sQ] at b;have b:=ku u b;refine ag.exit ?_;obtain⟨aL,aa,b⟩:=bW b;exact O _ () wA (ku aa b:)
 rintro _ b;refine Y4 ?_;obtain⟨g,ab,b⟩:=aX b;refine s0 (eE rfl rfl (Eo (gT:=gT) (oT:=oT) ab _ az (by assumption))) rfl ?_;refine Y7 ?_;refine bC 12 _ rfl (kl [7,13]) ?_;refine Y2 ?_;refine aU Z5.c g.2 fun aM=>Y4 ?_;obtain⟨m,ad,b⟩:=eB b;refine fS 90 91 rfl rfl rfl rfl rfl rfl (fun hC=>Ri (ad hC)) ?_;refine Y2 ?_;obtain⟨s,ae,b⟩:=eB b
 refine gC rfl rfl (fun hC=>eE rfl rfl (En (gT:=gT) (oT:=oT) (ae hC) _ az (by assumption))) rfl ?_;refine Y3 ?_;exact rt b
end Go.Proofs
namespace Go.Proofs
open Go Go.Ab
theorem Rj (a:aL) (g:a.aH.l.length<=1048576) (l:List Int) (i:Nat) (h:i+l.length=a.aH.l.length):Ok (sS a l i):=by
 induction l generalizing i with
 | nil=>exact dY _
 | cons x r f =>
  simp only [List.length_cons] at h;have hr:=f (i+1) (by omega);rw [sS];simp only [on];refine gF (fun _=>dY _) fun _=>?_;by_cases hi:0<i
  ·have h1:decide ((0:Int)<((i:Nat):Int))=true:=by simpa using hi
   obtain⟨v,hv⟩:=P8 (l:=a.aH.l) (n:=(i:Int)-1) (by omega);simp only [h1,cond_true,Bool.true_and,Il (a:=(i:Int)) (b:=1) (by omega)];cases decide (x=1)<;>simp only [aZ,hv,if_true,oB,Bool.false_eq_true,if_false,Bool.false_and,cond_false]
   ·exact hr
   ·(repeat' (first|exact dY _|assumption|intro _|(with_reducible first|apply gQ|apply gU|apply gF|apply gV)|split))
  ·have h1:decide ((0:Int)<((i:Nat):Int))=false:=by simpa using hi
   simp only [h1,Bool.false_and,aZ,Bool.false_eq_true,if_false,cond_false];exact hr
theorem I1 (a:aL) (b:a.aH.l.length<=1048576):Ok (wV a):=by
 unfold wV
 (repeat' (first|exact dY _|assumption|intro _|(with_reducible first|apply gQ|apply gU|apply gF|apply gV)|split))
 exact Rj a b _ _ (by simp)
theorem Rk (k:Z9->Option Int) (l:List Z9) (s:Int) (hk:∀x∈l,∃r,k x=some r/\1<=r/\r<=x.sz) (m:0<=s) (b:s+((l.map Z9.sz).sum:Nat)<=1152921504606846976):∃r,sU k l s=some r/\s<=r/\r<=s+((l.map Z9.sz).sum:Nat):=by
 induction l generalizing s with
 | nil=>exact⟨s,rfl,by simp,by simp⟩
 | cons x r f =>
  obtain⟨v,h1,p,q⟩:=hk x List.mem_cons_self;simp only [List.map_cons,List.sum_cons] at b ⊢;rw [sU];simp only [on,h1,oB];rw [iL (by omega)];simp only [oB];obtain⟨w,g,t,u⟩:=f (s+v) (fun y j=>hk y (List.mem_cons_of_mem _ j)) (by omega) (by omega);exact⟨w,g,by omega,by omega⟩
theorem Z9.kQ {v x:Z9}(h:x∈v.aB.l):x.sz<v.sz:=by
 have h1:=v.bt; have b:=Sl.de (f:=Z9.sz) h; omega
theorem Z9.I2 (v:Z9):2+(v.aB.l.map Z9.sz).sum<=v.sz:=by
 have h1:=v.bt; have b:Sl.sz Z9.sz v.aB=1+(v.aB.l.map Z9.sz).sum:=rfl; omega
theorem Rm (n:Nat):∀v:Z9,v.sz<n->v.sz<=1073741824->∃r,nX n v=some r/\1<=r/\r<=v.sz:=by
 induction n with
 | zero=>intro v h; omega
 | succ n b =>
  intro v h g;have h0:=v.I2;obtain⟨w,f,j,k⟩:=Rk (nX n) v.aB.l 1 (fun x hx=>by have:=Z9.kQ hx; exact b x (by omega) (by omega)) (by omega) (by omega);rw [nX,f];exact⟨w,rfl,by omega,by omega⟩
theorem Rn (v:Z9) (h:v.sz<=1048576):∃r,I3 v=some r/\1<=r/\r<=v.sz:=Rm F0 v (by rw [fR]; omega) (by omega)
theorem Ro (k:Z9->Option Int) (l:List Z9) (s b:Int) (hk:∀x∈l,∃r,k x=some r/\1<=r/\r<=b) (j:0<=s/\s<=b):∃r,sV k l s=some r/\0<=r/\r<=b:=by
 induction l generalizing s with
 | nil=>exact⟨s,rfl,by omega,by omega⟩
 | cons x r f =>
  obtain⟨v,h1,m,p⟩:=hk x List.mem_cons_self;rw [sV];simp only [on,h1,oB];exact f _ (fun y g=>hk y (List.mem_cons_of_mem _ g)) (by split<;>omega)
theorem Rp (n:Nat):∀v:Z9,v.sz<n->v.sz<=1073741824->∃r,nY n v=some r/\1<=r/\r<=v.sz:=by
 induction n with
 | zero=>intro v h; omega
 | succ n b =>
  intro v h k;have h0:=v.I2;obtain⟨w,f,m,p⟩:=Ro (nY n) v.aB.l 0 (v.sz-1:Nat) (fun x hx=>by have:=Z9.kQ hx; obtain⟨r,g,j,q⟩:=b x (by omega) (by omega); exact⟨r,g,j,by omega⟩) (by omega);rw [nY,f];simp only [on,oB];rw [iL (by omega)];exact⟨w+1,rfl,by omega,by omega⟩
theorem Rq (v:Z9) (h:v.sz<=1048576):Ok (I4 v):=by
 obtain⟨r,hr,_⟩:=Rp F0 v (by rw [fR]; omega) (by omega); exact⟨r,hr⟩
theorem Rr (a:Sl Bs) (x:Bs) (m i:Nat) (h:i+m<=a.l.length):Ok (sW a x m i):=by
 induction m generalizing i with
 | zero=>exact dY _
 | succ m b =>
  rw [sW]
  (repeat' (first|exact dY _|assumption|intro _|(with_reducible first|apply gQ|apply gU|apply gF|apply gV)|split))
  ·exact P9 (by omega)
  ·exact b _ (by omega)
theorem Rs (a:Sl Bs) (l:List Bs) (i:Nat) (h:i+l.length=a.l.length):Ok (qP a l i):=by
 induction l generalizing i with
 | nil=>exact dY _
 | cons x r b =>
  simp only [List.length_cons] at h;rw [qP]
  (repeat' (first|exact dY _|assumption|intro _|(with_reducible first|apply gQ|apply gU|apply gF|apply gV)|split))
  ·exact Rr a x _ _ (by omega)
  ·exact b _ (by omega)
theorem Rt (a:Sl Bs):Ok (zh a):=by
 unfold zh
 (repeat' (first|exact dY _|assumption|intro _|(with_reducible first|apply gQ|apply gU|apply gF|apply gV)|split))
 exact Rs a _ _ (by simp)
theorem Ru (v:Z9) (b:Bool):Ok (sX v b):=by
 unfold sX
 (repeat' (first|exact dY _|assumption|intro _|(with_reducible first|apply gQ|apply gU|apply gF|apply gV)|split))
 exact Rt _
theorem Rv (b:Bool) (k:Z9->Bool->Option Bool) (l:List Z9) (hk:∀x∈l,Ok (k x b)):Ok (kR b k l):=by
 induction l with
 | nil=>exact dY _
 | cons x r f =>
  rw [kR]
  (repeat' (first|exact dY _|assumption|intro _|(with_reducible first|apply gQ|apply gU|apply gF|apply gV)|split))
  ·rename_i h; rw [h]; exact hk x List.mem_cons_self
  ·exact f fun y g=>hk y (List.mem_cons_of_mem _ g)
theorem Rx (n:Nat):∀(v:Z9) (b:Bool),v.sz<n->Ok (iA n v b):=by
 induction n with
 | zero=>intro v b h; omega
 | succ n f =>
  intro v b h;rw [iA]
  (repeat' (first|exact dY _|assumption|intro _|(with_reducible first|apply gQ|apply gU|apply gF|apply gV)|split))
  ·exact Ru _ _
  ·exact Rv b _ _ fun x hx=>f x b (by have:=Z9.kQ hx; omega)
theorem I5 (v:Z9) (h:v.sz<=1048576):Ok (gW v):=by
 unfold gW;obtain⟨r,hr,_⟩:=Rn v h
 (repeat' (first|exact dY _|assumption|intro _|(with_reducible first|apply gQ|apply gU|apply gF|apply gV)|split))
 ·exact⟨r,hr⟩
 ·exact Rq v h
 ·exact Rx F0 v true (by rw [fR]; omega)
theorem Ry (k:Z9->Option Bool) (l:List Z9) (hk:∀x∈l,Ok (k x)):Ok (sY k l):=by
 induction l with
 | nil=>exact dY _
 | cons x r b =>
  rw [sY]
  (repeat' (first|exact dY _|assumption|intro _|(with_reducible first|apply gQ|apply gU|apply gF|apply gV)|split))
  ·rename_i h; rw [h]; exact hk x List.mem_cons_self
  ·exact b fun y f=>hk y (List.mem_cons_of_mem _ f)
theorem Rz (n:Nat):∀(v:Z9),v.sz<n->Ok (pK n v):=by
 induction n with
 | zero=>intro v h; omega
 | succ n b =>
  intro v h;rw [pK]
  (repeat' (first|exact dY _|assumption|intro _|(with_reducible first|apply gQ|apply gU|apply gF|apply gV)|split))
  exact Ry _ _ fun x hx=>b x (by have:=Z9.kQ hx; omega)
theorem I6 (v:Z9) (h:v.sz<=1048576):Ok (Ep v):=Rz F0 v (by rw [fR]; omega)
theorem bT.RA (a:bT):a.gr.sz<=a.sz:=by have:=a.bt; omega
theorem aA.RB {x:aA}{a:bT}(h:a∈x.ay.l):a.sz<=x.sz:=by have:=x.bt; have:=Sl.de (f:=bT.sz) h; omega
theorem RC (b:aA) (l:List bT) (h:∀a∈l,a.sz<=1048576):Ok (uX b l):=by
 induction l with
 | nil=>exact dY _
 | cons x r f =>
  have h1:=h x List.mem_cons_self; have j:=x.RA;rw [uX]
  (repeat' (first|exact dY _|assumption|intro _|(with_reducible first|apply gQ|apply gU|apply gF|apply gV)|split))
  all_goals first|exact f fun y g=>h y (List.mem_cons_of_mem _ g)|(subst_vars; first|exact I5 _ (by omega)|exact I6 _ (by omega))
theorem RD (l:List aA) (h:∀a∈l,a.sz<=1048576):Ok (uY l):=by
 induction l with
 | nil=>exact dY _
 | cons x r b =>
  have h1:=h x List.mem_cons_self;rw [uY]
  (repeat' (first|exact dY _|assumption|intro _|(with_reducible first|apply gQ|apply gU|apply gF|apply gV)|split))
  ·exact RC x _ fun a f=>by have:=aA.RB f; omega
  ·exact b fun y g=>h y (List.mem_cons_of_mem _ g)
theorem Bw (s:Sl aA) (h:Sl.sz aA.sz s<=1048576):Ok (sZ s):=by
 unfold sZ
 (repeat' (first|exact dY _|assumption|intro _|(with_reducible first|apply gQ|apply gU|apply gF|apply gV)|split))
 exact RD _ fun a b=>by have:=Sl.de (f:=aA.sz) b; omega
theorem aL.s_ (r:aL):r.aH.l.length<=r.sz:=by have:=r.bt; have:=Sl.eV (f:=fun _:Int=>1) r.aH (fun _=>Nat.le_refl _); omega
theorem RE (l:List Z7) (h:∀a∈l,a.sz<=1048576):Ok (mI l):=by
 induction l with
 | nil=>exact dY _
 | cons x r b =>
  have h1:=h x List.mem_cons_self; have g:=x.bt; have j:=x.av.s_;rw [mI]
  (repeat' (first|exact dY _|assumption|intro _|(with_reducible first|apply gQ|apply gU|apply gF|apply gV)|split))
  all_goals first|exact b fun y f=>h y (List.mem_cons_of_mem _ f)|(subst_vars; first|exact I1 _ (by omega)|exact Bw _ (by omega)|exact I5 _ (by omega)|exact I6 _ (by omega))
theorem I7 (s:Sl Z7) (h:Sl.sz Z7.sz s<=1048576):Ok (qQ s):=by
 unfold qQ
 (repeat' (first|exact dY _|assumption|intro _|(with_reducible first|apply gQ|apply gU|apply gF|apply gV)|split))
 exact RE _ fun a b=>by have:=Sl.de (f:=Z7.sz) b; omega
theorem RG (l:List Z6) (h:∀a∈l,a.sz<=1048576):Ok (mJ l):=by
 induction l with
 | nil=>exact dY _
 | cons x r b =>
  have h1:=h x List.mem_cons_self; have s:=x.bt; have t:=x.av.s_;have hz:Z6.zero.av.aH.l.length<=1048576:=by decide
  rw [mJ];simp only [on];cases eW x.aa<;>simp only [Bool.not_true,Bool.not_false,cond_true,cond_false,Bool.or_false,Bool.or_true,Bool.true_or,Bool.false_or]
  ·simp [aZ]; exact dY _
  ·obtain⟨f,g⟩:=I7 x.ay (by omega);obtain⟨j,k⟩:=I1 x.av (by omega);obtain⟨m,p⟩:=Bw x.bf (by omega);have hr:=b fun y q=>h y (List.mem_cons_of_mem _ q);cases f<;>cases j<;>cases m<;>simp [aZ,g,k,p]<;>first|exact dY _|exact hr
theorem RH (s:Sl Z6) (h:Sl.sz Z6.sz s<=1048576):Ok (pL s):=by
 unfold pL
 (repeat' (first|exact dY _|assumption|intro _|(with_reducible first|apply gQ|apply gU|apply gF|apply gV)|split))
 exact RG _ fun a b=>by have:=Sl.de (f:=Z6.sz) b; omega
theorem RI (b:Bool) (l:List Z8) (h:∀a∈l,a.sz<=1048576):Ok (tc b l):=by
 induction l with
 | nil=>exact dY _
 | cons x r f =>
  have h1:=h x List.mem_cons_self; have k:=x.bt;rw [tc];simp only [on];cases eW x.aa<;>simp only [Bool.not_true,Bool.not_false,cond_true,cond_false,Bool.or_false,Bool.or_true,Bool.true_or,Bool.false_or]
  ·simp [aZ]; exact dY _
  ·obtain⟨m,g⟩:=Bw x.bf (by omega);have hr:=f fun y j=>h y (List.mem_cons_of_mem _ j);simp only [aZ,g,if_true,oB]
   (repeat' (first|exact dY _|assumption|intro _|(with_reducible first|apply gQ|apply gU|apply gF|apply gV)|split))
theorem RJ (s:Sl Z8) (b:Bool) (h:Sl.sz Z8.sz s<=1048576):Ok (td s b):=by
 unfold td
 (repeat' (first|exact dY _|assumption|intro _|(with_reducible first|apply gQ|apply gU|apply gF|apply gV)|split))
 exact RI _ _ fun a g=>by have:=Sl.de (f:=Z8.sz) g; omega
theorem RK (x:ah) (h:x.sz<=1048576):Ok (lR x):=by
 have b:=x.bt;unfold lR
 (repeat' (first|exact dY _|assumption|intro _|(with_reducible first|apply gQ|apply gU|apply gF|apply gV)|split))
 all_goals first|exact Bw _ (by omega)|exact RH _ (by omega)|exact RJ _ _ (by omega)|exact I7 _ (by omega)
theorem RL (l:List ah) (h:∀a∈l,a.sz<=1048576):Ok (nZ l):=by
 induction l with
 | nil=>exact dY _
 | cons x r b =>
  rw [nZ]
  (repeat' (first|exact dY _|assumption|intro _|(with_reducible first|apply gQ|apply gU|apply gF|apply gV)|split))
  ·subst_vars; exact RK _ (h _ List.mem_cons_self)
  ·exact b fun y f=>h y (List.mem_cons_of_mem _ f)
theorem ak.Er {d:ak}{x:ah}(h:x∈d.aj.l):x.sz<=d.sz:=by have:=d.bt; have:=Sl.de (f:=ah.sz) h; omega
theorem RM (d:ak) (h:d.sz<=1048576):Ok (tf d):=by
 unfold tf
 (repeat' (first|exact dY _|assumption|intro _|(with_reducible first|apply gQ|apply gU|apply gF|apply gV)|split))
 exact RL _ fun a b=>by have:=ak.Er b; omega
theorem gm {α:Type}{c:Bool}{a b:Option α}{z:α}(h:cond c a b=some z):(c=true/\a=some z)\/(c=false/\b=some z):=by cases c; exact .inr ⟨rfl,h⟩; exact .inl ⟨rfl,h⟩
theorem fT {α β:Type}{c:Bool}{o:Option α}{d:α}{k:α->Option β}{z:β}(h:aZ c o d k=some z):(c=true/\∃v,o=some v/\k v=some z)\/(c=false/\k d=some z):=by
 cases c
 ·exact .inr ⟨rfl,h⟩
 ·cases b:o with
  | none=>rw [b] at h; cases h
  | some v=>rw [b] at h; exact .inl ⟨rfl,v,rfl,h⟩
theorem Es (l:List Bs) (y:Bool) (h:n9 l=Sum.inr y):y=false:=by
 induction l with
 | nil=>cases h
 | cons a r b =>
  rw [n9] at h;simp only [on] at h
  revert h
  cases (!eW a) with
  | true=>intro h; exact(Sum.inr.inj h).symm
  | false=>exact b
theorem RN (l:List ah) (z:Unit ⊕ Bool) (h:nZ l=some z):(z=Sum.inl ()/\∀x∈l,lR x=some true)\/z=Sum.inr false:=by
 induction l generalizing z with
 | nil=>rw [nZ] at h; exact .inl ⟨(oJ h).symm,fun a f=>by cases f⟩
 | cons a r j =>
  rw [nZ] at h;simp only [on] at h;obtain⟨x,g,h⟩:=bx h;cases x with
  | false=>simp at h; exact .inr h.symm
  | true =>
   simp only [Bool.not_true,cond_false] at h;rcases j z h with ⟨h1,k⟩|h1
   ·exact .inl ⟨h1,fun y b=>by rcases List.mem_cons.1 b with rfl|b; exact g; exact k y b⟩
   ·exact .inr h1
theorem RO {d:ak}(h:tf d=some true):∀x∈d.aj.l,lR x=some true:=by
 unfold tf at h;rcases gm h with ⟨_,h⟩|⟨_,h⟩
 ·cases h
 ·obtain⟨z,g,h⟩:=bx h;rcases RN _ _ g with ⟨_,h1⟩|rfl
  ·exact h1
  ·cases h
def Sm (x:ah):Prop:=x.aq.l.length<=1000/\x.ax.l.length<=1000/\x.aM.l.length<=1000/\x.aF.l.length<=1000/\∀f∈x.aq.l,f.ay.l.length<=1000
def eZ (w:List Int):Bool:=w.head?==some 1
def gX (w:List Int):Bool:=w.head?==some 2
def cr (s:Sl Int):Sl Int:=bif eZ s.l then⟨s.nl,s.l.drop 1⟩ else s
def lS (t:aL):aL:=⟨t.aa,cr t.aH⟩
def uZ (t:aL):aL:=⟨t.aa,⟨(cr t.aH).nl,(cr t.aH).l.drop 1⟩⟩
theorem I8 {s:Sl Int}(h:dZ s):pM s=some s:=by
 unfold pM;obtain⟨nl,l⟩:=s;cases nl with
 | true=>have:=h.1 rfl; simp only at this; subst this; rfl
 | false =>
  simp only [cond_false];rw [jk (by omega) (by have:=h.2; simp at this ⊢; omega)];simp
theorem wW (t:aL):jB t=eZ t.aH.l:=by
 unfold jB eZ on;cases t.aH.l with
 | nil=>rfl
 | cons a r=>simp; by_cases h:a=1<;>simp [h]
theorem Et {w:List Int}(h:eZ w=true):1<=w.length:=by cases w<;>simp [eZ] at h ⊢
theorem Eu {α:Type}{s:Sl α}(n:Nat) (h:dZ s):dZ ⟨s.nl,s.l.drop n⟩:=⟨fun e=>by simp [h.1 e],by have:=h.2; simp; omega⟩
theorem Bx {s:Sl Int}(h:dZ s):dZ (cr s):=by
 unfold cr;cases eZ s.l with
 | true=>exact Eu 1 h
 | false=>exact h
theorem Ev {t:aL}(h:dZ t.aH):dZ (uZ t).aH:=Eu 1 (Bx h)
theorem By {t:aL}(h:dZ t.aH):qR t=some (lS t):=by
 unfold qR lS cr on;simp only [wW];cases hn:eZ t.aH.l with
 | true =>
  simp only [cond_true];rw [Bc (Et hn)];simp only [oB];rw [I8 (Eu 1 h)]; rfl
 | false =>
  simp only [cond_false,oB];rw [I8 h]; rfl
theorem RP {t:aL}(h:dZ t.aH):zi t=some (gX (cr t.aH).l):=by
 unfold zi;rw [By h];simp only [oB,on,lS,gX];cases (cr t.aH).l with
 | nil=>rfl
 | cons a r=>simp; by_cases h:a=2<;>simp [h]
theorem Bz {w:List Int}(h:gX w=true):1<=w.length:=by cases w<;>simp [gX] at h ⊢
theorem Ew {t:aL}(h:dZ t.aH):th t=some (bif gX (cr t.aH).l then(uZ t,true) else(⟨[],Sl.nil⟩,false)):=by
 unfold th;rw [RP h];simp only [oB];cases hl:gX (cr t.aH).l with
 | false=>rfl
 | true =>
  simp only [Bool.not_true,cond_false,cond_true];rw [By h];simp only [oB,lS];rw [Bc (Bz hl)];rfl
theorem BA {t:aL}(h:gX (cr t.aH).l=true):(uZ t).aH.l.length<t.aH.l.length:=by
 have h1:=Bz h;have b:(cr t.aH).l.length<=t.aH.l.length:=by
  unfold cr; cases eZ t.aH.l<;>simp
 simp [uZ]; omega
theorem findAux (l:List ah) (s:Bs):lT s l=(match l.find? (fun t=>t.aa==s) with|some t=>Sum.inr (t,true)|none=>Sum.inl ()):=by
 induction l with
 | nil=>rfl
 | cons a r b =>
  rw [lT,List.find?_cons];simp only [on,b];cases a.aa==s<;>rfl
def bl (l:List ah) (s:Bs):ah×Bool:=match l.find? (fun t=>t.aa==s) with|some t=>(t,true)|none=>(ah.zero,false)
theorem kf (d:ak) (s:Bs):fA d s=bl d.aj.l s:=by
 unfold fA bl on;rw [findAux];cases d.aj.l.find? (fun t=>t.aa==s)<;>rfl
theorem zj (l:List ah) (s:Bs):(bl l s).1=ah.zero\/(bl l s).1∈l:=by
 unfold bl;cases h:l.find? (fun t=>t.aa==s) with
 | none=>exact .inl rfl
 | some t=>exact .inr (List.mem_of_find?_eq_some h)
theorem RQ (l:List Z6) (s:Bs):tj s l=(match l.find? (fun t=>t.aa==s) with|some t=>Sum.inr (t,true)|none=>Sum.inl ()):=by
 induction l with
 | nil=>rfl
 | cons a r b =>
  rw [tj,List.find?_cons];simp only [on,b];cases a.aa==s<;>rfl
def eS (l:List Z6) (s:Bs):Z6×Bool:=match l.find? (fun t=>t.aa==s) with|some t=>(t,true)|none=>(Z6.zero,false)
theorem RR (t:ah) (s:Bs):zk t s=eS t.aq.l s:=by
 unfold zk eS on;rw [RQ];cases t.aq.l.find? (fun t=>t.aa==s)<;>rfl
theorem RS (l:List Z7) (s:Bs):pN s l=(match l.find? (fun t=>t.aa==s) with|some t=>Sum.inr (t,true)|none=>Sum.inl ()):=by
 induction l with
 | nil=>rfl
 | cons a r b =>
  rw [pN,List.find?_cons];simp only [on,b];cases a.aa==s<;>rfl
def dw (l:List Z7) (s:Bs):Z7×Bool:=match l.find? (fun t=>t.aa==s) with|some t=>(t,true)|none=>(Z7.zero,false)
theorem zl (t:Sl Z7) (s:Bs):pO t s=dw t.l s:=by
 unfold pO dw on;rw [RS];cases t.l.find? (fun t=>t.aa==s)<;>rfl
def RU (d:ak):Prop:=∀x∈d.aj.l,x.aq.l.length<=1048576/\x.aF.l.length<=1048576/\(∀f∈x.aq.l,dZ f.av.aH/\f.ay.l.length<=1048576/\∀i∈f.ay.l,dZ i.av.aH)/\∀i∈x.aF.l,dZ i.av.aH
theorem aL.zm {r:aL}(h:r.sz<=1048576) (hw:r.wf):dZ r.aH:=⟨hw.2.1.1,by have:=r.bt; have:=Sl.eV (f:=fun _:Int=>1) r.aH (fun _=>Nat.le_refl _); omega⟩
theorem Z7.zm {r:Z7}(h:r.sz<=1048576) (hw:r.wf):dZ r.av.aH:=aL.zm (by have:=r.bt; omega) (Z7.ww hw)
theorem RV {d:ak}(h:d.sz<=1048576) (hw:d.wf):RU d:=by
 intro x hx;have h1:=x.bt; have g:=d.bt; have j:=Sl.de (f:=ah.sz) hx;have k:=Sl.iY (f:=Z6.sz) x.aq Z6.pos; have l:=Sl.iY (f:=Z7.sz) x.aF Z7.pos;have w:x.wf:=(ak.Eb hw).2.2 x hx;refine⟨by omega,by omega,fun f b=>?_,fun i hi=>?_⟩
 ·have m:=Sl.de (f:=Z6.sz) b; have p:=f.bt; have q:=Sl.iY (f:=Z7.sz) f.ay Z7.pos;have wf:f.wf:=(ah.qB w).2.2 f b;exact⟨aL.zm (by omega) (Z6.ww wf),by omega,fun i hi=>Z7.zm (by have:=Sl.de (f:=Z7.sz) hi; omega) ((Z6.kO wf).2.2 i hi)⟩
 ·exact Z7.zm (by have:=Sl.de (f:=Z7.sz) hi; omega) ((ah.uR w).2.2 i hi)
theorem RW (a:Bs):yX a=some (kg a):=by
 unfold yX kg BB BC on
 match a with
 | []=>rfl
 | [x]=>rfl
 | x::y::r =>
  have e:decide ((2:Int)<=(((x::y::r).length:Nat):Int))=true:=by simp; omega
  have f:decide (((([95,95]:Bs).length:Nat):Int)<=(((x::y::r).length:Nat):Int))=true:=by simp; omega
  have c:∀z:UInt8,decide (((z.toNat:Nat):Int)=95)=(z==95):=fun z=>by
   rw [show (z==95)=decide (z=95) from rfl]
   congr 1
   apply propext
   constructor
   ·intro h; apply UInt8.toNat_inj.1; simp at h ⊢; omega
   ·intro h; subst h; rfl
  have hl:(2:Int)<=(r.length:Nat)+1+1:=by omega
  have g:¬x=95->(x==95)=false:=fun h=>by simpa using h
  simp only [aZ,e,f,if_true,oB,List.getElem?_cons_zero,List.getElem?_cons_succ,c,Bool.true_and,cond_true,List.length_cons,List.length_nil,List.take_succ_cons,List.take_zero];by_cases hx:x=95
  ·subst hx;by_cases b:y=95
   ·subst b; simp [hl]
   ·simp [hl,b]
  ·simp [hl,hx]
theorem filter_le {α:Type}{p q:α->Bool}{l:List α}(h:∀x∈l,p x=true->q x=true):(l.filter p).length<=(l.filter q).length:=by
 induction l with
 | nil=>simp
 | cons a r b =>
  have:=b fun x hx=>h x (List.mem_cons_of_mem _ hx);have h1:=h a List.mem_cons_self;simp only [List.filter_cons];cases f:p a<;>cases hq:q a<;>simp_all<;>omega
theorem filter_lt {α:Type}{p q:α->Bool}{l:List α}{y:α}(h:∀x∈l,p x=true->q x=true) (b:y∈l) (h1:p y=false) (f:q y=true):(l.filter p).length<(l.filter q).length:=by
 induction l with
 | nil=>cases b
 | cons a r g =>
  have j:=filter_le (l:=r) (p:=p) (q:=q) fun x hx=>h x (List.mem_cons_of_mem _ hx);simp only [List.filter_cons];rcases List.mem_cons.1 b with rfl|b
  ·simp [h1,f]; omega
  ·have:=g (fun x hx=>h x (List.mem_cons_of_mem _ hx)) b;have k:=h a List.mem_cons_self;cases m:p a<;>cases hq:q a<;>simp_all<;>omega
theorem RX {l:List Bs}{s t:Bs}(h:t∈l):t∈cD l s:=by unfold cD; split<;>simp [h]
theorem RY (l:List Bs) (s:Bs):s∈cD l s:=by
 unfold cD; split
 ·rename_i h; simpa using h
 ·simp
theorem jY {α:Type}{c:Bool}{a b:Option α}{z:α}(h:cond c a b=some z):(c=true/\a=some z)\/(c=false/\b=some z):=by cases c; exact .inr ⟨rfl,h⟩; exact .inl ⟨rfl,h⟩
theorem Ba {α β:Type}{c:Bool}{o:Option α}{d:α}{k:α->Option β}{z:β}(h:aZ c o d k=some z):(c=true/\∃v,o=some v/\k v=some z)\/(c=false/\k d=some z):=by
 unfold aZ at h;cases c with
 | true=>obtain⟨v,e,h⟩:=bx (by simpa using h); exact .inl ⟨rfl,v,e,h⟩
 | false=>exact .inr ⟨rfl,by simpa using h⟩
theorem I9 (x:Int):((((decide ((97:Int)<=x)&&decide (x<=(122:Int)))||(decide ((65:Int)<=x)&&decide (x<=(90:Int))))||(decide ((48:Int)<=x)&&decide (x<=(57:Int))))||decide (x=(95:Int)))=(qC x||wz x):=by
 unfold qC wz;rw [Bool.eq_iff_iff];simp only [Bool.or_eq_true,Bool.and_eq_true,decide_eq_true_eq];constructor
 ·rintro (((h|h)|h)|h)
  ·exact .inl (.inl (.inr h))
  ·exact .inl (.inl (.inl h))
  ·exact .inr h
  ·exact .inl (.inr h)
 ·rintro (((h|h)|h)|h)
  ·exact .inl (.inl (.inr h))
  ·exact .inl (.inl (.inl h))
  ·exact .inr h
  ·exact .inl (.inr h)
theorem I_:∀(l:List UInt8) (i:Nat),0<i->qD l i=pP l
 | [],_,_=>rfl
 | h::r,i,hi=>by
  have h0:decide (((i:Nat):Int)=0)=false:=dF (by omega);rw [qD,pP,I_ r (i+1) (by omega)];simp only [on,h0,I9];cases qC ((h.toNat:Nat):Int)
  ·simp only [Bool.not_false,Bool.and_self,cond_true,Bool.true_and,Bool.false_or]
  ·rfl
theorem RZ (x:Int) (h:qC x=true):((decide ((48:Int)<=x))&&(decide (x<=(57:Int))))=false:=by
 unfold qC at h;rw [Bool.and_eq_false_iff];simp only [Bool.or_eq_true,Bool.and_eq_true,decide_eq_true_eq] at h;by_cases b:x<=57
 ·left; apply dF; omega
 ·right; exact dF b
theorem wX (s:Bs):u0 s=some (eW s):=by
 unfold u0 eW;cases s with
 | nil=>rfl
 | cons h r =>
  have j:((h::r:Bs)==[])=false:=rfl;have k:decide ((((h::r:Bs).length:Nat):Int)<1)=false:=dF (by simp only [List.length_cons]; omega);rw [j,k];simp only [Bool.false_or];cases decide ((64:Int)<(((h::r:Bs).length:Nat):Int))
  ·simp only [Bool.not_false,aZ,if_true,cond_false,Bool.true_and,Bool.false_or];rw [show ((h::r:Bs)[0]?)=some h from rfl];simp only [oB];rw [qD,pP,I_ r 1 (by omega)];simp only [on,I9];generalize ((h.toNat:Nat):Int)=x;cases hl:qC x
   ·have l:wz x=(decide ((48:Int)<=x)&&decide (x<=(57:Int))):=rfl;rw [l];cases f:decide ((48:Int)<=x)<;>cases b:decide (x<=(57:Int))<;>simp [b]
   ·have g:=RZ x hl;cases f:decide ((48:Int)<=x)<;>cases b:decide (x<=(57:Int))<;>rw [f,b] at g<;>simp [b] at g ⊢<;>(cases pP r<;>rfl)
  ·rfl
def Tk {C D:Type}(fx:C->D) (ln:C->Nat) (o:Option C) (c:C) (k:Nat):Prop:=∃c',o=some c'/\fx c'=fx c/\ln c'<=ln c+k
section
variable {C D:Type}{fx:C->D}{ln:C->Nat}{o:Option C}{c:C}{k m n:Nat}
theorem Tk.pure (c:C) (k:Nat):Tk fx ln (some c) c k:=⟨c,rfl,rfl,Nat.le_add_right _ _⟩
theorem Tk.map (h:Tk fx ln o c k):Tk fx ln (o.bind fun x=>some x) c k:=by
 obtain⟨c1,b,h1⟩:=h; exact⟨c1,by rw [b]; rfl,h1⟩
theorem Tk.cond {b:Bool}{x y:Option C}(h1:b=true->Tk fx ln x c k) (f:b=false->Tk fx ln y c k):Tk fx ln (bif b then x else y) c k:=by
 cases b
 ·exact f rfl
 ·exact h1 rfl
theorem Tk.guard {α:Type}{b:Bool}{p:Option α}{d:α}{f:α->Option C}(j:b=true->∃x,p=some x) (g:∀x,Tk fx ln (f x) c k):Tk fx ln (aZ b p d f) c k:=by
 cases b
 ·exact g d
 ·obtain⟨x,e⟩:=j rfl; rw [e]; exact g x
end
def tq (l:List Bs) (seen:List Bs):Nat:=(l.filter fun f=>!seen.contains f).length
theorem R1 {l a b:List Bs}(h:∀s∈a,s∈b):tq l b<=tq l a:=filter_le fun x _ f=>by
 simp at f ⊢; exact fun g=>f (h _ g)
theorem R2 {l a b:List Bs}(h:∀s∈a,s∈b){f:Bs}(k:f∈l) (h1:f∉a) (g:f∈b):tq l b<tq l a :=
 filter_lt (fun x _ j=>by simp at j ⊢; exact fun g=>j (h _ g)) k (by simpa using g) (by simpa using h1)
theorem Ja (s:Bs):∀l:List ah,lT s l=Sum.inl ()\/∃t∈l,lT s l=Sum.inr (t,true)/\t.aa=s
 | []=>.inl rfl
 | a::r=>by
  rw [lT];simp only [on];cases h:(a.aa==s)
  ·rw [cond_false];rcases Ja s r with h|⟨t,ht,e⟩
   ·exact .inl h
   ·exact .inr ⟨t,.tail _ ht,e⟩
  ·exact .inr ⟨a,.head _,rfl,eq_of_beq h⟩
theorem R3 {d:ak}{s:Bs}(h:(fA d s).2=true):(fA d s).1∈d.aj.l:=by
 unfold fA at h ⊢;simp only [on] at h ⊢;rcases Ja s d.aj.l with e|⟨t,ht,e,-⟩
 ·rw [e] at h; cases h
 ·rw [e]; exact ht
theorem Jb (a1:ah) (c:Z4):∀(n:Nat) (a0:ah) (s:List Bs),tq (c.Fd.aj.l.map ah.aa) s<n->∃b f,kS n a0 a1 c s=some (b,f)/\∀x∈s,x∈f
 | 0,_,_,h=>by omega
 | n+1,a0,s,hn=>by
  have loop:∀(l:List Z7) (s:List Bs),tq (c.Fd.aj.l.map ah.aa) s<=n->∃r,jO a1 c (kS n) l s=some r/\match r with|Sum.inl f=>∀x∈s,x∈f|Sum.inr e=>∀x∈s,x∈e.2:=by
   intro l;induction l with
   | nil=>intro s _; exact⟨_,rfl,fun _ h=>h⟩
   | cons h r k =>
    intro s u;rw [jO];simp only [on];have hg:∃x:Int,aZ (!(!decide (((h.av.aH.l.length:Nat):Int)=(1:Int)))) (h.av.aH.l[0]?) (0:Int) (fun x=>some x)=some x:=by
     by_cases h1:h.av.aH.l.length=1
     ·rw [show decide (((h.av.aH.l.length:Nat):Int)=(1:Int))=true from dT (by omega)];simp only [aZ,Bool.not_true,Bool.not_false,if_true];rw [List.getElem?_eq_getElem (show 0<h.av.aH.l.length by omega)];exact⟨_,rfl⟩
     ·rw [show decide (((h.av.aH.l.length:Nat):Int)=(1:Int))=false from dF (by omega)];exact⟨_,rfl⟩
    have B:∀{K:Int->Option (List Bs ⊕ (Bool×List Bs))},(∀x,∃q,K x=some q/\match q with|Sum.inl f=>∀x∈s,x∈f|Sum.inr e=>∀x∈s,x∈e.2)->∃q,aZ (!(!decide (((h.av.aH.l.length:Nat):Int)=(1:Int)))) (h.av.aH.l[0]?) (0:Int) K=some q/\match q with|Sum.inl f=>∀x∈s,x∈f|Sum.inr e=>∀x∈s,x∈e.2:=by
     intro K v;obtain⟨x,hx⟩:=hg;generalize h.av.aH.l[0]?=p at hx ⊢;generalize (!(!decide (((h.av.aH.l.length:Nat):Int)=(1:Int))))=b at hx ⊢;cases b
     ·exact v 0
     ·cases p with
      | none=>cases hx
      | some y=>exact v y
    refine B fun C=>?_;cases (!decide (((h.av.aH.l.length:Nat):Int)=(1:Int))||!decide (C=(1:Int)))
    ·rw [cond_false];cases (h.av.aa==a1.aa)
     ·rw [cond_false];cases hc:((fA c.Fd h.av.aa).2&&decide ((fA c.Fd h.av.aa).1.ai=(5:Int)))&&!(s.contains (fA c.Fd h.av.aa).1.aa)
      ·rw [cond_false]; exact k s u
      ·rw [cond_true];simp only [Bool.and_eq_true,Bool.not_eq_true'] at hc;obtain⟨⟨E,-⟩,w⟩:=hc;have hm:=R3 E;generalize (fA c.Fd h.av.aa).1=t at hm w ⊢;have g:∀x∈s,x∈cD s t.aa:=fun x hx=>RX hx;have bn:=R2 (l:=c.Fd.aj.l.map ah.aa) g (List.mem_map_of_mem hm) (by simpa using w) (RY s t.aa);obtain⟨b,f,e,j⟩:=Jb a1 c n t (cD s t.aa) (by omega)
       rw [e,oB];cases b
       ·rw [cond_false];have hle:=R1 (l:=c.Fd.aj.l.map ah.aa) (a:=s) (b:=f) fun x hx=>j x (g x hx);obtain⟨q,hq,z⟩:=k f (by omega);refine⟨q,hq, ?_⟩;cases q with
        | inl F=>exact fun x hx=>z x (j x (g x hx))
        | inr m=>exact fun x hx=>z x (j x (g x hx))
       ·exact⟨_,rfl,fun x hx=>j x (g x hx)⟩
     ·exact⟨_,rfl,fun _ h=>h⟩
    ·rw [cond_true]; exact k s u
  rw [kS];obtain⟨q,e,hq⟩:=loop a0.aF.l s (by omega);rw [e,oB];cases q with
  | inl f=>exact⟨false,f,rfl,hq⟩
  | inr m=>exact⟨m.1,m.2,rfl,hq⟩
theorem Jc (c:Z4) (a1:ah) (h:c.Fd.aj.l.length<=1048576):∃b,tr c a1=some b:=by
 have hu:tq (c.Fd.aj.l.map ah.aa) []<=c.Fd.aj.l.length:=by
  have:=List.length_filter_le (fun f=>!([]:List Bs).contains f) (c.Fd.aj.l.map ah.aa)
  simpa [tq] using this
 obtain⟨b,g,e,-⟩:=Jb a1 c F0 a1 [] (by rw [fR]; omega);unfold tr Ex;rw [e];exact⟨b,rfl⟩
abbrev SK (o:Option Z4) (c:Z4) (k:Nat):Prop:=Tk Z4.Fd (fun c=>c.bK.l.length) o c k
theorem kj {o:Option Z4}{c:Z4}{k:Nat}(h:SK o c k):∃c',o=some c'/\c'.Fd=c.Fd/\c'.bK.l.length<=c.bK.l.length+k:=h
theorem lU {c:Z4}(h:c.bK.l.length<=1000000000) (b:Bool) (e:Int) (s:Bs):SK (fU c b e s) c 1:=by
 unfold fU;refine Tk.cond (fun _=>?_) fun _=>Tk.pure c 1;rw [jk (by decide) (by simp; omega),oB];exact⟨_,rfl,rfl,by simp⟩
theorem Jd {c:Z4}(h:c.bK.l.length<=900000000) (n a:Bs) (m:List Bs):∃c',tt c n a m=some (c',cD m n)/\c'.Fd=c.Fd/\c'.bK.l.length<=c.bK.l.length+2:=by
 unfold tt;rw [wX,oB];simp only [on];obtain⟨c1,b,f1,g⟩:=kj (lU (c:=c) (by omega) ((!eW n)||bif !(!eW n) then kg n else false) 6 a);rw [b,oB];obtain⟨c2,f,f2,j⟩:=kj (lU (c:=c1) (by omega) (m.contains n) 7 a);rw [f];exact⟨c2,rfl,f2.trans f1,by omega⟩
theorem Je {c:Z4}(h:c.bK.l.length<=900000000) (n a:Bs) (k:Int):SK (tu c n a k) c 1:=by
 unfold tu;simp only [on];exact Tk.cond (fun _=>(lU (by omega) _ _ _).map) fun _=>Tk.cond (fun _=>(lU (by omega) _ _ _).map) fun _=>(lU (by omega) _ _ _).map
theorem Jf (a2 a3:Bs) (b:a2.length<=4000000) (f:a3.length<=4000000):∀(l:List Z7) (c:Z4) (m:List Bs),(∀x∈l,x.sz<=1048576)->c.bK.l.length+3*l.length<=900000000->SK (oa a2 a3 l c m) c (3*l.length)
 | [],c,_,_,_=>Tk.pure c _
 | x::r,c,m,hx,g=>by
  have s:=x.bt;have hz:=hx x (.head _);have hn:Bs.sz x.aa=x.aa.length+1:=rfl;simp only [List.length_cons] at g ⊢;rw [oa];simp only [on];rw [cI (by omega),oB,cI (by simp; omega),oB];obtain⟨c1,j,f1,t⟩:=Jd (c:=c) (by omega) x.aa ((a2++x.aa)++a3) m;rw [j,oB];obtain⟨c2,k,f2,u⟩:=kj (Je (c:=c1) (by omega) x.av.aa ((a2++x.aa)++a3) 1)
  rw [k,oB];obtain⟨c3,p,f3,v⟩:=kj (Jf a2 a3 b f r c2 (cD m x.aa) (fun y q=>hx y (.tail _ q)) (by omega));exact⟨c3,p,f3.trans (f2.trans f1),by show c3.bK.l.length<=c.bK.l.length+_; omega⟩
end Go.Proofs
namespace Go.Proofs
open Go Go.Ab
theorem Jg (c:Z4) (l:Sl Z7) (a2 a3:Bs) (b:a2.length<=4000000) (f:a3.length<=4000000) (hx:∀x∈l.l,x.sz<=1048576) (g:c.bK.l.length+3*l.l.length<=900000000):SK (pQ c l a2 a3) c (3*l.l.length):=by
 unfold pQ;exact(Jf a2 a3 b f l.l c [] hx g).map
theorem Jh (a1:ah) (h1:a1.aa.length<=1048576):∀(l:List Z6) (c:Z4) (m:List Bs),(∀x∈l,x.sz<=1048576)->c.bK.l.length+3*(l.map Z6.sz).sum<=900000000->SK (oc a1 l c m) c (3*(l.map Z6.sz).sum)
 | [],c,_,_,_=>Tk.pure c _
 | x::r,c,m,hx,j=>by
  have t:=x.bt;have hz:=hx x (.head _);have hn:Bs.sz x.aa=x.aa.length+1:=rfl;have hl:=Sl.iY (f:=Z7.sz) x.ay Z7.pos;simp only [List.map_cons,List.sum_cons] at j ⊢;rw [oc];simp only [on];rw [cI (by simp; omega),oB,cI (by simp; omega),oB];generalize bQ:a1.aa++([46]:Bs)++x.aa=at_;have u:at_.length<=2097154:=by rw [<- bQ]; simp; omega
  obtain⟨c1,k,f1,v⟩:=Jd (c:=c) (by omega) x.aa at_ m;rw [k,oB];obtain⟨c2,p,f2,w⟩:=kj (Je (c:=c1) (by omega) x.av.aa at_ 0);rw [p,oB,cI (by simp; omega),oB];obtain⟨c3,q,f3,z⟩:=kj (Jg c2 x.ay (at_++([40]:Bs)) ([41]:Bs) (by simp; omega) (by simp) (fun y b=>by have:=Sl.de (f:=Z7.sz) b; omega) (by omega));rw [q,oB]
  obtain⟨g,s,f4,B⟩:=kj (Jh a1 h1 r c3 (cD m x.aa) (fun y b=>hx y (.tail _ b)) (by omega));exact⟨g,s,f4.trans (f3.trans (f2.trans f1)),by show g.bK.l.length<=c.bK.l.length+_; omega⟩
theorem Ji (a1:ah) (h1:a1.aa.length<=1048576):∀(l:List Z8) (c:Z4) (m:List Bs),(∀x∈l,x.sz<=1048576)->c.bK.l.length+2*l.length<=900000000->SK (mK a1 l c m) c (2*l.length)
 | [],c,_,_,_=>Tk.pure c _
 | x::r,c,m,hx,f=>by
  have q:=x.bt;have hz:=hx x (.head _);have hn:Bs.sz x.aa=x.aa.length+1:=rfl;simp only [List.length_cons] at f ⊢;rw [mK];simp only [on];rw [cI (by simp; omega),oB,cI (by simp; omega),oB];refine Tk.guard (fun _=>⟨_,wX _⟩) fun b=>?_;obtain⟨c1,g,f1,s⟩:=kj (lU (c:=c) (by omega) ((((((x.aa==([116,114,117,101]:Bs)))||((x.aa==([102,97,108,115,101]:Bs))))||((x.aa==([110,117,108,108]:Bs))))||(!b))||bif !(((((x.aa==([116,114,117,101]:Bs)))||((x.aa==([102,97,108,115,101]:Bs))))||((x.aa==([110,117,108,108]:Bs))))||(!b)) then kg x.aa else false) 6 (a1.aa++([46]:Bs)++x.aa))
  rw [g,oB];obtain⟨c2,j,f2,t⟩:=kj (lU (c:=c1) (by omega) (m.contains x.aa) 7 (a1.aa++([46]:Bs)++x.aa));rw [j,oB];obtain⟨c3,k,f3,u⟩:=kj (Ji a1 h1 r c2 (cD m x.aa) (fun y p=>hx y (.tail _ p)) (by omega));exact⟨c3,k,f3.trans (f2.trans f1),by show c3.bK.l.length<=c.bK.l.length+_; omega⟩
def gu (o:Option (Z4×List Bs)) (c:Z4) (k:Nat):Prop:=∃c' m',o=some (c',m')/\c'.Fd=c.Fd/\c'.bK.l.length<=c.bK.l.length+k
theorem gu.bind {o:Option Z4}{f:Z4->Option (Z4×List Bs)}{c:Z4}{k m n:Nat}(h:SK o c k) (hn:k+m<=n) (b:∀c',c'.Fd=c.Fd->c'.bK.l.length<=c.bK.l.length+k->gu (f c') c' m):gu (o.bind f) c n:=by
 obtain⟨c1,g,f1,j⟩:=kj h;obtain⟨c2,m2,p,f2,q⟩:=b c1 f1 j;exact⟨c2,m2,by rw [g]; exact p,f2.trans f1,by omega⟩
theorem gu.guard {α:Type}{b:Bool}{p:Option α}{d:α}{f:α->Option (Z4×List Bs)}{c:Z4}{k:Nat}(j:b=true->∃x,p=some x) (g:∀x,gu (f x) c k):gu (aZ b p d f) c k:=by
 cases b
 ·exact g d
 ·obtain⟨x,e⟩:=j rfl; rw [e]; exact g x
theorem gu.cond {b:Bool}{x y:Option (Z4×List Bs)}{c:Z4}{k:Nat}(h1:gu x c k) (f:gu y c k):gu (bif b then x else y) c k:=by
 cases b
 ·exact f
 ·exact h1
theorem gu.pair {o:Option Z4}{c:Z4}{k n:Nat}(h:SK o c k) (hn:k<=n) (M:List Bs):gu (o.bind fun x=>some (x,M)) c n:=by
 obtain⟨c1,b,f1,f⟩:=kj h;exact⟨c1,M,by rw [b]; rfl,f1,by omega⟩
theorem mL {α:Type}{l r:List α}{i:Nat}{x:α}(h:l.drop i=x::r):l.drop (i+1)=r/\l[i]?=some x:=by
 refine⟨?_,by have:=congrArg (fun t=>t[0]?) h; simpa using this⟩;have:=congrArg (List.drop 1) h
 simpa [List.drop_drop] using this
theorem R4 {d:ak}{t:ah}{i:Nat}(ht:d.aj.l[i]?=some t) (hz:t.sz<=1048576) (j:d.aj.l.length<=1048576) (c:Z4) (g:c.Fd=d) (m:List Bs) (r:c.bK.l.length+(5+3*t.sz)<=900000000):gu (u3 c (i:Int) m) c (5+3*t.sz):=by
 have s:=t.bt;have hn:Bs.sz t.aa=t.aa.length+1:=rfl;have u:(t.aq.l.map Z6.sz).sum+1=Sl.sz Z6.sz t.aq:=by unfold Sl.sz; omega
 have hm:=Sl.iY (f:=Z8.sz) t.ax Z8.pos;have hi:=Sl.iY (f:=Z7.sz) t.aF Z7.pos;unfold u3;have p:c_ c.Fd.aj.l (i:Int)=some t:=by rw [g]; unfold c_; rw [if_pos (by simp),Int.toNat_natCast,ht]
 rw [p,oB,wX,oB];simp only [on];refine gu.bind (k:=1) (m:=4+3*t.sz) (lU (by omega) _ _ _) (by omega) fun c1 f1 v=>?_;refine gu.bind (k:=1) (m:=3+3*t.sz) (lU (by omega) _ _ _) (by omega) fun c2 f2 w=>?_;refine gu.bind (k:=1) (m:=2+3*t.sz) (lU (by omega) _ _ _) (by omega) fun c3 f3 z=>?_;refine gu.bind (k:=1) (m:=1+3*t.sz) (lU (by omega) _ _ _) (by omega) fun q f4 B=>?_
 refine gu.guard (fun _=>Jc q t (by rw [f4,f3,f2,f1,g]; exact j)) fun C=>?_;refine gu.bind (k:=1) (m:=3*t.sz) (lU (by omega) _ _ _) (by omega) fun c5 f5 E=>?_;refine gu.cond ?_ (gu.cond ?_ (gu.cond ?_ ⟨c5,_,rfl,rfl,by omega⟩))
 ·refine gu.pair (k:=3*(t.aq.l.map Z6.sz).sum) ?_ (by omega) _;unfold u4;exact(Jh t (by omega) t.aq.l c5 [] (fun y b=>by have:=Sl.de (f:=Z6.sz) b; omega) (by omega)).map
 ·refine gu.pair (k:=2*t.ax.l.length) ?_ (by omega) _;unfold u6;exact(Ji t (by omega) t.ax.l c5 [] (fun y b=>by have:=Sl.de (f:=Z8.sz) b; omega) (by omega)).map
 ·rw [cI (by simp; omega),oB];exact gu.pair (Jg c5 t.aF _ _ (by simp; omega) (by simp) (fun y b=>by have:=Sl.de (f:=Z7.sz) b; omega) (by omega)) (by omega) _
theorem Jj {d:ak}(hz:∀t∈d.aj.l,t.sz<=1048576) (b:d.aj.l.length<=1048576):∀(l:List ah) (i:Nat) (c:Z4) (m:List Bs),d.aj.l.drop i=l->c.Fd=d->c.bK.l.length+(5*l.length+3*(l.map ah.sz).sum)<=900000000->SK (od l i c m) c (5*l.length+3*(l.map ah.sz).sum)
 | [],i,c,m,_,_,_=>Tk.pure c _
 | t::r,i,c,m,hl,f,g=>by
  obtain⟨t1,t2⟩:=mL hl;simp only [List.length_cons,List.map_cons,List.sum_cons] at g ⊢;rw [od];obtain⟨c1,m1,j,f1,p⟩:=R4 t2 (hz t (List.mem_of_getElem? t2)) b c f m (by omega);rw [j,oB];obtain⟨c2,k,f2,q⟩:=kj (Jj hz b r (i+1) c1 m1 t1 (f1.trans f) (by omega));exact⟨c2,k,f2.trans f1,by show c2.bK.l.length<=c.bK.l.length+_; omega⟩
def tw (t:aL):Bool:=decide (((t.aH.l.length:Nat):Int)=1)&&decide (t.aH.l.headD 0=1)
def gd (d:ak) (own:Bs) (x:Z7):Bool:=tw x.av&&(x.av.aa==own||((bl d.aj.l x.av.aa).2&&decide ((bl d.aj.l x.av.aa).1.ai=5)))
def jC (d:ak) (n:Bs):List Z7:=(bl d.aj.l n).1.aF.l
inductive fh (d:ak) (own:Bs) (t:List Z7):Bs->Prop where
 | here {x:Z7}(hx:x∈t) (hg:gd d own x=true):fh d own t x.av.aa
 | step {n:Bs}{x:Z7}(h:fh d own t n) (hx:x∈jC d n) (hg:gd d own x=true):fh d own t x.av.aa
theorem fh.via {d:ak}{own:Bs}{t:List Z7}{n:Bs}{e:Z7}(he:e∈t) (hg:gd d own e=true) (h:fh d own (jC d e.av.aa) n):fh d own t n:=by
 induction h with
 | here hx b=>exact .step (.here he hg) hx b
 | step _ hx b f=>exact .step f hx b
theorem fh.cons {d:ak}{own:Bs}{x:Z7}{t:List Z7}{n:Bs}(h:fh d own t n):fh d own (x::t) n:=by
 induction h with
 | here hx hg=>exact .here (.tail _ hx) hg
 | step _ hx hg b=>exact .step b hx hg
structure iN (d:ak) (own:Bs) (t:List Z7) (S S':List Bs):Prop where
 sub:∀n∈S,n∈S'
 BD:∀e∈t,gd d own e=true->e.av.aa≠own/\e.av.aa∈S'
 closed:∀n∈S',n∉S->∀e∈jC d n,gd d own e=true->e.av.aa≠own/\e.av.aa∈S'
theorem iN.nil {d:ak}{own:Bs}(S:List Bs):iN d own [] S S:=⟨fun _ h=>h,fun _ h=>(by cases h),fun _ h b=>absurd h b⟩
theorem iN.skip {d:ak}{own:Bs}{x:Z7}{S:List Bs}(h:gd d own x=true->x.av.aa≠own/\x.av.aa∈S):iN d own [x] S S :=
 ⟨fun _ h=>h,fun e he hg=>by rw [List.mem_singleton.1 he] at hg ⊢; exact h hg,fun _ h b=>absurd h b⟩
theorem iN.comp {d:ak}{own:Bs}{x:Z7}{r:List Z7}{S g j:List Bs}(h1:iN d own [x] S g) (f:iN d own r g j):iN d own (x::r) S j:=by
 refine⟨fun n hn=>f.sub n (h1.sub n hn),fun e he hg=>?_,fun n hn l e he hg=>?_⟩
 ·rcases List.mem_cons.1 he with rfl|he
  ·obtain⟨a,b⟩:=h1.BD e (.head _) hg; exact⟨a,f.sub _ b⟩
  ·exact f.BD e he hg
 ·by_cases k:n∈g
  ·obtain⟨a,b⟩:=h1.closed n k l e he hg; exact⟨a,f.sub _ b⟩
  ·exact f.closed n hn k e he hg
theorem u7 (l:List Bs) (s n:Bs):n∈cD l s↔n∈l\/n=s:=by
 unfold cD
 split
 ·rename_i h
  exact⟨fun h1=>.inl h1,fun h1=>by rcases h1 with h1|rfl; exact h1; simpa using h⟩
 ·simp [or_comm]
theorem iN.child {d:ak}{own:Bs}{x:Z7}{S f:List Bs}(j:x.av.aa≠own) (h:iN d own (jC d x.av.aa) (cD S x.av.aa) f):iN d own [x] S f:=by
 refine⟨fun n hn=>h.sub n ((u7 _ _ _).2 (.inl hn)),fun e he hg=>?_,fun n hn k e he hg=>?_⟩
 ·rw [List.mem_singleton.1 he]; exact⟨j,h.sub _ ((u7 _ _ _).2 (.inr rfl))⟩
 ·by_cases g:n=x.av.aa
  ·subst g; exact h.BD e he hg
  ·exact h.closed n hn (fun b=>by rcases (u7 _ _ _).1 b with b|b; exact k b; exact g b) e he hg
theorem iN.end {d:ak}{own:Bs}{t:List Z7}{S:List Bs}(h:iN d own t [] S):¬fh d own t own:=by
 have key:∀n,fh d own t n->n≠own/\n∈S:=by
  intro n hn;induction hn with
  | here hx hg=>exact h.BD _ hx hg
  | step _ hx hg b=>exact h.closed _ b.2 (by simp) _ hx hg
 exact fun hr=>(key _ hr).1 rfl
theorem u9 {l:List ah}{s:Bs}(h:(bl l s).2=true):(bl l s).1.aa=s:=by
 unfold bl at h ⊢;cases e:l.find? (fun t=>t.aa==s) with
 | none=>rw [e] at h; cases h
 | some t=>have:=List.find?_some e; simpa using this
def Jk (d:ak) (own:Bs) (k:ah->ah->Z4->List Bs->Option (Bool×List Bs)) (a1:ah) (c:Z4):Prop :=
 ∀y s z,k y a1 c s=some z->(z.1=true->fh d own y.aF.l own)/\(z.1=false->iN d own y.aF.l s z.2)
theorem Ey {d:ak}{a1:ah}{c:Z4}(q:c.Fd=d) {k} (hk:Jk d a1.aa k a1 c):∀(l:List Z7) (s:List Bs) (o),jO a1 c k l s=some o ->
  (∃f,o=.inl f/\iN d a1.aa l s f)\/∃f,o=.inr (true,f)/\fh d a1.aa l a1.aa
 | [],s,o,h=>by rw [jO] at h; cases h; exact .inl ⟨s,rfl,.nil s⟩
 | x::r,s,o,h=>by
  rw [jO] at h;simp only [on,q,kf] at h;have skip:(gd d a1.aa x=true->x.av.aa≠a1.aa/\x.av.aa∈s)->jO a1 c k r s=some o->(∃f,o=.inl f/\iN d a1.aa (x::r) s f)\/∃f,o=.inr (true,f)/\fh d a1.aa (x::r) a1.aa:=fun hg h=>by
   rcases Ey q hk r s o h with ⟨f,e,j⟩|⟨f,e,j⟩
   ·exact .inl ⟨f,e,iN.comp (.skip hg) j⟩
   ·exact .inr ⟨f,e,j.cons⟩
  have rest:∀w:Int,(tw x.av=(decide (((x.av.aH.l.length:Nat):Int)=1)&&decide (w=1))) ->
    (bif (!decide (((x.av.aH.l.length:Nat):Int)=(1:Int)))||(!decide (w=(1:Int))) then jO a1 c k r s else(bif ((x.av.aa==a1.aa)) then(some (Sum.inr (true,s))) else(bif (((bl d.aj.l x.av.aa).2&&(decide ((bl d.aj.l x.av.aa).1.ai=(5:Int))))&&(!(s.contains (bl d.aj.l x.av.aa).1.aa))) then((k (bl d.aj.l x.av.aa).1 a1 c (cD s (bl d.aj.l x.av.aa).1.aa)).bind fun u=>bif u.1 then(some (Sum.inr (true,u.2))) else(jO a1 c k r u.2)) else(jO a1 c k r s))))=some o ->
    (∃f,o=.inl f/\iN d a1.aa (x::r) s f)\/∃f,o=.inr (true,f)/\fh d a1.aa (x::r) a1.aa:=by
   intro w hw h;rcases jY h with ⟨h1,h⟩|⟨h1,h⟩
   ·refine skip (fun hg=>?_) h;unfold gd at hg;rw [hw] at hg;simp only [Bool.and_eq_true] at hg;rw [hg.1.1,hg.1.2] at h1; cases h1
   ·have B:tw x.av=true:=by
     rw [hw]; simp only [Bool.or_eq_false_iff,Bool.not_eq_false'] at h1; rw [h1.1,h1.2]; rfl
    rcases jY h with ⟨j,h⟩|⟨j,h⟩
    ·cases h;refine .inr ⟨s,rfl, ?_⟩;have he:x.av.aa=a1.aa:=by simpa using j
     have:=fh.here (d:=d) (own:=a1.aa) (t:=x::r) (x:=x) (.head _) (by unfold gd; rw [B,j]; rfl);rw [he] at this; exact this
    ·have v:x.av.aa≠a1.aa:=by simpa using j
     rcases jY h with ⟨m,h⟩|⟨m,h⟩
     ·simp only [Bool.and_eq_true] at m;have hn:=u9 m.1.1;have hg:gd d a1.aa x=true:=by unfold gd; rw [B,m.1.1,m.1.2]; simp
      obtain⟨z,C,h⟩:=bx h;obtain⟨E,F⟩:=hk _ _ _ C;rcases jY h with ⟨y,h⟩|⟨y,h⟩
      ·cases h; exact .inr ⟨_,rfl,fh.via (.head _) hg (E y)⟩
      ·have hc:iN d a1.aa [x] s z.2:=.child v (by have:=F y; rw [hn] at this; exact this);rcases Ey q hk r z.2 o h with ⟨f,e,g⟩|⟨f,e,g⟩
       ·exact .inl ⟨f,e,iN.comp hc g⟩
       ·exact .inr ⟨f,e,g.cons⟩
     ·refine skip (fun hg=>⟨v, ?_⟩) h;unfold gd at hg;simp only [Bool.and_eq_true,Bool.or_eq_true] at hg;rcases hg.2 with g|g
      ·exact absurd (by simpa using g) v
      ·have hn:=u9 g.1;rw [g.1,g.2,hn] at m
       simpa using m
  rcases Ba h with ⟨h1,w,p,h⟩|⟨h1,h⟩
  ·refine rest w ?_ h;unfold tw;cases hl:x.av.aH.l with
   | nil=>rw [hl] at p; cases p
   | cons a b=>rw [hl] at p; cases p; rfl
  ·refine rest 0 ?_ h;unfold tw;rw [show decide (((x.av.aH.l.length:Nat):Int)=1)=false from by simpa using h1]; rfl
theorem Jl {d:ak}{g:ah}{c:Z4}(f:c.Fd=d):∀n:Nat,Jk d g.aa (kS n) g c
 | 0=>fun _ _ _ h=>by cases h
 | n+1=>fun y s z h=>by
  rw [kS] at h;obtain⟨o,j,h⟩:=bx h;rcases Ey f (Jl f n) _ _ _ j with ⟨k,rfl,b⟩|⟨k,rfl,b⟩
  ·cases h; exact⟨fun h=>(by cases h),fun _=>b⟩
  ·cases h; exact⟨fun _=>b,fun h=>(by cases h)⟩
open Classical in
noncomputable def kT (d:ak) (t:ah):Bool:=decide (fh d t.aa t.aF.l t.aa)
open Classical in
theorem R5 {d:ak}{a1:ah}{c:Z4}(f:c.Fd=d) (hl:d.aj.l.length<=1048576):tr c a1=some (kT d a1):=by
 obtain⟨b,e⟩:=Jc c a1 (by rw [f]; exact hl);rw [e]
 congr 1
 unfold tr Ex at e;obtain⟨z,g,e⟩:=bx e;cases e;obtain⟨h1,j⟩:=Jl f _ _ _ _ g;unfold kT;cases hz:z.1
 ·exact(dF (j hz).end).symm
 ·exact(dT (h1 hz)).symm
end Go.Proofs
namespace Go.Proofs
open Go Go.Ab
def b_ (b:Bool) (e:Int) (at_:Bs):List Z5:=bif b then [Z5.mk e at_] else []
def fB (s:Bs):Bool:=eW s&&!kg s
def lV (d:ak) (n at_:Bs) (k:Int):List Z5 :=
 bif !(bl d.aj.l n).2&&!cV n then b_ true 8 at_ else bif decide (k=(0:Int)) then b_ (!cV n&&decide ((bl d.aj.l n).1.ai=(5:Int))) 10 at_ else b_ (!ja d n) 10 at_
def gY (d:ak) (a b:Bs):List Bs->List Z7->List Z5
 | _,[]=>[]
 | s,x::r=>(b_ (!fB x.aa) 6 (a++x.aa++b)++b_ (s.contains x.aa) 7 (a++x.aa++b))++(lV d x.av.aa (a++x.aa++b) 1++gY d a b (s++[x.aa]) r)
def kU (d:ak) (b:Bs):List Bs->List Z6->List Z5
 | _,[]=>[]
 | s,x::r=>(b_ (!fB x.aa) 6 (b++[46]++x.aa)++b_ (s.contains x.aa) 7 (b++[46]++x.aa))++(lV d x.av.aa (b++[46]++x.aa) 0++(gY d (b++[46]++x.aa++[40]) [41] [] x.ay.l++kU d b (s++[x.aa]) r))
def oe (s:Bs):Bool:=(((s==([116,114,117,101]:Bs)))||((s==([102,97,108,115,101]:Bs))))||((s==([110,117,108,108]:Bs)))
def kV (b:Bs):List Bs->List Z8->List Z5
 | _,[]=>[]
 | s,x::r=>(b_ (oe x.aa||!fB x.aa) 6 (b++[46]++x.aa)++b_ (s.contains x.aa) 7 (b++[46]++x.aa))++kV b (s++[x.aa]) r
def tA (t:ah):Bool:=bif (bif (decide (t.ai=(1:Int))) then((decide (t.ai=(1:Int)))) else((decide (t.ai=(2:Int))))) then((decide (((t.aq.l.length:Nat):Int)=(0:Int)))) else(bif (bif (decide (t.ai=(3:Int))) then((decide (t.ai=(3:Int)))) else((decide (t.ai=(4:Int))))) then((decide (((t.ax.l.length:Nat):Int)=(0:Int)))) else(bif (decide (t.ai=(5:Int))) then((decide (((t.aF.l.length:Nat):Int)=(0:Int)))) else(false)))
def wY (t:ah):Bool:=((((((t.aa==([81,117,101,114,121]:Bs)))||((t.aa==([77,117,116,97,116,105,111,110]:Bs))))||((t.aa==([83,117,98,115,99,114,105,112,116,105,111,110]:Bs))))&&(!decide (t.ai=(1:Int))))||(decide (t.ai<(1:Int))))||(decide ((5:Int)<t.ai))
def kW (d:ak) (t:ah):List Z5 :=
 bif (bif (decide (t.ai=(1:Int))) then((decide (t.ai=(1:Int)))) else((decide (t.ai=(2:Int))))) then kU d t.aa [] t.aq.l else bif decide (t.ai=(4:Int)) then kV t.aa [] t.ax.l else bif decide (t.ai=(5:Int)) then gY d (t.aa++[46]) [] [] t.aF.l else []
noncomputable def lW (d:ak) (s:List Bs) (t:ah):List Z5 :=
 (b_ (!fB t.aa) 6 t.aa++b_ (s.contains t.aa||cV t.aa) 7 t.aa)++(b_ (tA t) 8 t.aa++(b_ (wY t) 9 t.aa++b_ (decide (t.ai=(5:Int))&&kT d t) 5 t.aa))
noncomputable def jb (d:ak):List Bs->List ah->List Z5
 | _,[]=>[]
 | s,t::r=>lW d s t++(kW d t++jb d (s++[t.aa]) r)
noncomputable def gZ (d:ak) (b:Bool):List Z5:=jb d [] d.aj.l++b_ (b&&!(bl d.aj.l ([81,117,101,114,121]:Bs)).2) 30 ([81,117,101,114,121]:Bs)
def Ad (o:Option Z4) (c:Z4) (X:List Z5):Prop:=∀c',o=some c'->c'.Fd=c.Fd/\c'.bK.l=c.bK.l++X
theorem Ad.pure (c:Z4):Ad (some c) c []:=fun c' h=>by cases h; simp
theorem Ad.id {o:Option Z4}{c:Z4}{X:List Z5}(h:Ad o c X):Ad (o.bind fun x=>some x) c X:=fun c' e=>by
 obtain⟨c1,b,e⟩:=bx e; cases e; exact h _ b
theorem R6 {α:Type}{z:Nat}{s r u:Sl α}(h:bh z s r=some u):u.l=s.l++r.l:=by
 unfold bh at h; split at h
 ·cases h; rfl
 ·cases h
theorem tB {a b s:Bs}(h:a_ a b=some s):s=a++b:=by
 unfold a_ at h; split at h
 ·cases h; rfl
 ·cases h
theorem kX (c:Z4) (b:Bool) (e:Int) (s:Bs):Ad (fU c b e s) c (b_ b e s):=fun c' h=>by
 unfold fU at h;cases b
 ·cases h; exact⟨rfl,by simp [b_]⟩
 ·obtain⟨x,ex,h⟩:=bx h;cases h; exact⟨rfl,R6 ex⟩
theorem Jm {c:Z4}{n a:Bs}{m:List Bs}{z:Z4×List Bs}(h:tt c n a m=some z):z.2=cD m n/\z.1.Fd=c.Fd/\z.1.bK.l=c.bK.l++(b_ (!fB n) 6 a++b_ (m.contains n) 7 a):=by
 unfold tt at h;rw [wX,oB] at h;simp only [on] at h;have e:((!eW n)||bif !(!eW n) then kg n else false)=!fB n:=by unfold fB; cases eW n<;>cases kg n<;>rfl
 rw [e] at h;obtain⟨c1,b,h⟩:=bx h;obtain⟨c2,f,h⟩:=bx h;cases h;obtain⟨h1,g⟩:=kX _ _ _ _ _ b;obtain⟨j,k⟩:=kX _ _ _ _ _ f;exact⟨rfl,j.trans h1,by rw [k,g,List.append_assoc]⟩
theorem Jn (c:Z4) (n a:Bs) (k:Int):Ad (tu c n a k) c (lV c.Fd n a k):=by
 unfold tu lV;simp only [on,kf];cases b:(bl c.Fd.aj.l n).2<;>cases f:cV n<;>simp only [Bool.not_true,Bool.not_false,Bool.and_self,Bool.and_true,Bool.and_false,Bool.true_and,Bool.false_and,cond_true,cond_false]
 case false.false=>exact(kX _ _ _ _).id
 all_goals
  cases decide (k=(0:Int))<;>simp only [cond_true,cond_false]
  ·exact(kX _ _ _ _).id
  ·first
    | exact(kX _ _ _ _).id
    | (unfold pR; simp only [on,kf]; exact(kX _ _ _ _).id)
def mM (m s:List Bs):Prop:=∀n,m.contains n=s.contains n
theorem mM.nil:mM [] []:=fun _=>rfl
theorem mM.ins {m s:List Bs}(h:mM m s) (n:Bs):mM (cD m n) (s++[n]):=fun k=>by
 have h1:=h k;rw [Bool.eq_iff_iff] at h1 ⊢;simp only [List.contains_iff_mem,u7,List.mem_append,List.mem_singleton] at h1 ⊢;rw [h1]
theorem Jo (a b:Bs):∀(l:List Z7) (c:Z4) (m s:List Bs),mM m s->Ad (oa a b l c m) c (gY c.Fd a b s l)
 | [],c,m,s,_=>by rw [oa]; exact .pure c
 | x::r,c,m,s,hm=>fun c' h=>by
  rw [oa] at h;simp only [on] at h;obtain⟨s1,j,h⟩:=bx h;obtain⟨B,k,h⟩:=bx h;obtain rfl:=tB j;obtain rfl:=tB k;obtain⟨z,p,h⟩:=bx h;obtain⟨h1,f,q⟩:=Jm p;obtain⟨c2,t,h⟩:=bx h;obtain⟨u,v⟩:=Jn _ _ _ _ _ t;rw [h1] at h;obtain⟨w,y⟩:=Jo a b r c2 _ _ (hm.ins x.aa) _ h;have g:c2.Fd=c.Fd:=u.trans f;refine⟨w.trans g, ?_⟩;rw [y,v,q,g,f,gY,hm x.aa]
  simp only [List.append_assoc]
theorem Jp (c:Z4) (l:Sl Z7) (a b:Bs):Ad (pQ c l a b) c (gY c.Fd a b [] l.l):=by
 unfold pQ;exact(Jo a b l.l c [] [] .nil).id
theorem Jq (t:ah):∀(l:List Z6) (c:Z4) (m s:List Bs),mM m s->Ad (oc t l c m) c (kU c.Fd t.aa s l)
 | [],c,m,s,_=>by rw [oc]; exact .pure c
 | x::r,c,m,s,hm=>fun c' h=>by
  rw [oc] at h;simp only [on] at h;obtain⟨s1,j,h⟩:=bx h;obtain⟨H,k,h⟩:=bx h;obtain rfl:=tB j;obtain rfl:=tB k;obtain⟨z,p,h⟩:=bx h;obtain⟨h1,b,q⟩:=Jm p;obtain⟨c2,u,h⟩:=bx h;obtain⟨v,w⟩:=Jn _ _ _ _ _ u;obtain⟨I,y,h⟩:=bx h;obtain rfl:=tB y;obtain⟨c3,B,h⟩:=bx h;obtain⟨C,E⟩:=Jp _ _ _ _ _ B;rw [h1] at h
  obtain⟨F,G⟩:=Jq t r c3 _ _ (hm.ins x.aa) _ h;have f:c2.Fd=c.Fd:=v.trans b;have g:c3.Fd=c.Fd:=C.trans f;refine⟨F.trans g, ?_⟩;rw [G,E,w,q,g,f,b,kU,hm x.aa];simp only [List.append_assoc]
theorem Jr (t:ah):∀(l:List Z8) (c:Z4) (m s:List Bs),mM m s->Ad (mK t l c m) c (kV t.aa s l)
 | [],c,m,s,_=>by rw [mK]; exact .pure c
 | x::r,c,m,s,hm=>fun c' h=>by
  rw [mK] at h;simp only [on] at h;obtain⟨s1,f,h⟩:=bx h;obtain⟨F,j,h⟩:=bx h;obtain rfl:=tB f;obtain rfl:=tB j;have rest:∀b:Bool,b=(oe x.aa||!fB x.aa)->(fU c b (6:Int) (t.aa++[46]++x.aa)).bind (fun k=>(fU k (m.contains x.aa) (7:Int) (t.aa++[46]++x.aa)).bind fun p=>mK t r p (cD m x.aa))=some c'->c'.Fd=c.Fd/\c'.bK.l=c.bK.l++kV t.aa s (x::r):=by
   intro b q h;obtain⟨c1,u,h⟩:=bx h;obtain⟨c2,w,h⟩:=bx h;obtain⟨h1,y⟩:=kX _ _ _ _ _ u;obtain⟨z,B⟩:=kX _ _ _ _ _ w;obtain⟨C,E⟩:=Jr t r c2 _ _ (hm.ins x.aa) _ h;refine⟨C.trans (z.trans h1), ?_⟩;rw [E,B,y,q,kV,hm x.aa];simp only [List.append_assoc]
  rcases Ba h with ⟨g,v,ev,h⟩|⟨g,h⟩
  ·rw [wX] at ev; cases ev;refine rest _ ?_ h;have g:oe x.aa=false:=Bool.not_inj (show (!oe x.aa)=!false from g);unfold oe at g ⊢;rw [g]; unfold fB;cases eW x.aa<;>cases kg x.aa<;>rfl
  ·refine rest _ ?_ h;have g:oe x.aa=true:=Bool.not_inj (show (!oe x.aa)=!true from g);unfold oe at g ⊢;rw [g]; rfl
theorem R7 {d:ak}{t:ah}{i:Nat}(ht:d.aj.l[i]?=some t) (hl:d.aj.l.length<=1048576){c:Z4}(w:c.Fd=d){m s:List Bs}(hm:mM m s){z:Z4×List Bs}(h:u3 c (i:Int) m=some z) :
  z.1.Fd=d/\z.1.bK.l=c.bK.l++(lW d s t++kW d t)/\mM z.2 (s++[t.aa]):=by
 unfold u3 at h;have B:c_ c.Fd.aj.l (i:Int)=some t:=by rw [w]; unfold c_; rw [if_pos (by simp),Int.toNat_natCast,ht]
 rw [B,oB,wX,oB] at h;simp only [on] at h;have C:((!eW t.aa)||bif !(!eW t.aa) then kg t.aa else false)=!fB t.aa:=by unfold fB; cases eW t.aa<;>cases kg t.aa<;>rfl
 have E:(m.contains t.aa||bif !(m.contains t.aa) then cV t.aa else false)=(s.contains t.aa||cV t.aa):=by
  rw [<- hm]; cases m.contains t.aa<;>cases cV t.aa<;>rfl
 rw [C,E] at h;obtain⟨c1,F,h⟩:=bx h;obtain⟨c2,G,h⟩:=bx h;obtain⟨c3,H,h⟩:=bx h;obtain⟨u,I,h⟩:=bx h;obtain⟨a1,J⟩:=kX _ _ _ _ _ F;obtain⟨a2,K⟩:=kX _ _ _ _ _ G;obtain⟨a3,L⟩:=kX _ _ _ _ _ H;obtain⟨a4,M⟩:=kX _ _ _ _ _ I;have d4:u.Fd=d:=a4.trans (a3.trans (a2.trans (a1.trans w)));have N:u.bK.l=c.bK.l++((b_ (!fB t.aa) 6 t.aa++b_ (s.contains t.aa||cV t.aa) 7 t.aa)++(b_ (tA t) 8 t.aa++b_ (wY t) 9 t.aa)):=by
  rw [M,L,K,J]; simp only [List.append_assoc]; rfl
 have rest:∀b:Bool,(decide (t.ai=(5:Int))&&b)=(decide (t.ai=(5:Int))&&kT d t) ->
   ((fU u ((decide (t.ai=(5:Int)))&&b) (5:Int) t.aa).bind fun q=>bif (bif (decide (t.ai=(1:Int))) then((decide (t.ai=(1:Int)))) else((decide (t.ai=(2:Int))))) then((u4 q t).bind fun O=>some (O,(cD m t.aa))) else(bif (decide (t.ai=(4:Int))) then((u6 q t).bind fun P=>some (P,(cD m t.aa))) else(bif (decide (t.ai=(5:Int))) then((a_ t.aa ([46]:Bs)).bind fun Q=>(pQ q t.aF Q ([]:Bs)).bind fun R=>some (R,(cD m t.aa))) else(some (q,(cD m t.aa))))))=some z->z.1.Fd=d/\z.1.bK.l=c.bK.l++(lW d s t++kW d t)/\mM z.2 (s++[t.aa]):=by
  intro b S h;rw [S] at h;obtain⟨c5,U,h⟩:=bx h;obtain⟨a5,W⟩:=kX _ _ _ _ _ U;have d5:c5.Fd=d:=a5.trans d4;have r:c5.bK.l=c.bK.l++lW d s t:=by
   rw [W,N]; unfold lW; simp only [List.append_assoc]
  unfold kW;rcases jY h with ⟨k,h⟩|⟨k,h⟩<;>rw [k]
  ·obtain⟨y,f,h⟩:=bx h;cases h;unfold u4 at f;obtain⟨p,j⟩:=(Jq t t.aq.l c5 [] [] .nil).id _ f;rw [d5] at j;exact⟨p.trans d5,by rw [j,r,cond_true,List.append_assoc],hm.ins _⟩
  ·rw [cond_false];rcases jY h with ⟨k,h⟩|⟨k,h⟩<;>rw [k]
   ·obtain⟨y,f,h⟩:=bx h;cases h;unfold u6 at f;obtain⟨p,j⟩:=(Jr t t.ax.l c5 [] [] .nil).id _ f;exact⟨p.trans d5,by rw [j,r,cond_true,List.append_assoc],hm.ins _⟩
   ·rw [cond_false];rcases jY h with ⟨k,h⟩|⟨k,h⟩<;>rw [k]
    ·obtain⟨s1,es,h⟩:=bx h;obtain rfl:=tB es;obtain⟨y,f,h⟩:=bx h;cases h;obtain⟨p,j⟩:=Jp _ _ _ _ _ f;rw [d5] at j;exact⟨p.trans d5,by rw [j,r,cond_true,List.append_assoc],hm.ins _⟩
    ·cases h;exact⟨d5,by rw [r,cond_false,List.append_nil],hm.ins _⟩
 rcases Ba h with ⟨g,v,ev,h⟩|⟨g,h⟩
 ·rw [R5 d4 hl] at ev;cases ev;exact rest _ rfl h
 ·exact rest _ (by rw [g]; rfl) h
theorem Js {d:ak}(hl:d.aj.l.length<=1048576):∀(l:List ah) (i:Nat) (c c':Z4) (m s:List Bs),d.aj.l.drop i=l->c.Fd=d->mM m s->od l i c m=some c'->c'.Fd=d/\c'.bK.l=c.bK.l++jb d s l
 | [],i,c,c',m,s,_,f,_,h=>by rw [od] at h; cases h; exact⟨f,by simp [jb]⟩
 | t::r,i,c,c',m,s,g,f,hm,h=>by
  obtain⟨t1,t2⟩:=mL g;rw [od] at h;obtain⟨z,j,h⟩:=bx h;obtain⟨a,b,e⟩:=R7 t2 hl f hm j;obtain⟨a2,k⟩:=Js hl r (i+1) z.1 c' z.2 _ t1 a e h;exact⟨a2,by rw [k,b,jb]; simp only [List.append_assoc]⟩
theorem Jt {d:ak}(k:d.sz<=1048576) (b:Bool):∃l,zn d b=some l/\l.l=gZ d b/\l.l.length<=9000000:=by
 have h1:=d.bt;have m:Sl.sz ah.sz d.aj=1+(d.aj.l.map ah.sz).sum:=rfl;have p:=Sl.iY (f:=ah.sz) d.aj ah.pos;obtain⟨c,e,f,l⟩:=kj (Jj (d:=d) (fun t ht=>by have:=Sl.de (f:=ah.sz) ht; omega) (by omega) d.aj.l 0 (Z4.mk d Sl.nil) [] rfl rfl (by show 0+_<=_; omega));have l:c.bK.l.length<=0+(5*d.aj.l.length+3*(d.aj.l.map ah.sz).sum):=l;obtain⟨_,hc⟩:=Js (d:=d) (by omega) d.aj.l 0 (Z4.mk d Sl.nil) c [] [] rfl rfl .nil e
 have hc:c.bK.l=jb d [] d.aj.l:=hc;unfold zn;rw [e,oB];simp only [on,kf];unfold gZ;cases b&&!(bl d.aj.l ([81,117,101,114,121]:Bs)).2
 ·exact⟨_,rfl,by show c.bK.l=_; rw [hc]; simp [b_],by show c.bK.l.length<=_; omega⟩
 ·obtain⟨c2,g,_,q⟩:=kj (lU (c:=c) (by omega) true 30 ([81,117,101,114,121]:Bs));rw [cond_true,g];obtain⟨_,j⟩:=kX _ _ _ _ _ g;exact⟨_,rfl,by show c2.bK.l=_; rw [j,hc],by show c2.bK.l.length<=_; omega⟩
end Go.Proofs
