import Derived.Test.YtbbkbkhdciklaaaGreatDoorV5
set_option maxRecDepth 100000
set_option maxHeartbeats 2000000
set_option linter.unusedVariables false
set_option linter.unusedSimpArgs false
namespace Go.Proofs
open Go Go.Ab
open aI aq ag dR fO
attribute [local irreducible] aI aH ag aq
variable {ak:bP}
variable {gK:Nat}
def ww  :Option Int:=some (-1:Int)
def wx (f:(Sl bC)) (g:(bC->Option Bool)) :Nat->Nat->Option Int
 | 0,_=>none
 | j+1,b=>bif (decide (((b:Nat):Int)<((f.l.length:Nat):Int))) then((f.l[b]?).bind fun k=>(g k).bind fun m=>bif m then(some ((b:Nat):Int)) else((wx f g j) (b+1))) else(ww   )
def zz (b:(Sl bC)) (f:(bC->Option Bool)):Option Int:=wx b f (b.l.length+1) 0
theorem WE {f g w0 m r}(b:zz f g=some r) (H:ah) (s:∀p r,g p=some r->iL Tryz.prog m [.agg (bC.c p)] H (RT (.a (.d (.bool r))) H)):At 156 [.d (Sl.d 2 bC.c w0 f),.d m] H (RT (.a (.d (.int .i64 r))) H):=by
 unfold zz at b;refine AC.oW 19 [.tmp 4] Tryz.call156 Tryz.func156 ?_;refine Y3 ?_;refine aN kN (fun(z:Unit)=>[]) (fun z=>H) (fun z=>ww =some r) ?_ ?_
 ·intro E t;refine Y2 ?_;refine aV bC.c f fun F=>Y3 ?_;refine bx (tl [0,1,7]) (fun(z:Nat×Nat)=>[(8,vi z.2)]) (fun z=>H) (fun z=>z.1) (fun z=>wx f g z.1 z.2=some r) ((f.l.length+1),0) b wA ?_;rintro ⟨j,q⟩ b G u;try dsimp only at b
  cases j with
  | zero=>cases b
  | succ j =>
    rw [wx] at b;refine Y3 ?_;refine ar fun I v=>?_;refine cE b (fun k b=>?_) (fun k b=>?_)
    ·try dsimp only at k
     have J:=oD k;refine sk v (ar fun K w=>Y9 ?_);obtain⟨L,y,b⟩:=bO b;refine S (ix bC.c q y) (Y1 ?_);obtain⟨M,B,b⟩:=bO b;refine s0 (mA rfl rfl (s _ _ B)) rfl ?_;refine Y1 ?_;refine cE b (fun C b=>?_) (fun C b=>?_)
     ·refine Y4 ?_;exact rt b
     refine sk w (Y4 ?_);exact u _ (j,(q+1)) wA b (nS _)
    refine ag.exit ?_;exact t _ () wA b
 rintro _ b;try dsimp only at b
 unfold ww at b;refine Y3 ?_;exact rt b
def zA (f:(bC->Bool)):List bC->Nat->Unit ⊕ Int
 | [],b=>Sum.inl ()
 | g::j,b=>on (g) fun k=>on (f k) fun l=>bif l then(Sum.inr ((b:Nat):Int)) else(zA f (j) (b+1) )
theorem WG {g:Sl bC}{k:bC->Bool}(j:(Unit ⊕ Int)->Option Int) (p:∀(f:Nat) (b:Nat),ww   =j (Sum.inl ())) (q:∀e:Int,some e=j (Sum.inr e)):∀(f:Nat) (b:Nat),(0<f/\g.l.length<b+f)->wx g (fun r=>some (k r)) f b=j (zA k (g.l.drop b) b ):=by
 intro f;induction f with
 | zero=>intro b hn; exact absurd hn.1 (by omega)
 | succ f s =>
  intro b hn;rw [wx];by_cases aJ:b<g.l.length
  ·obtain⟨t,m⟩:=Qa aJ;rw [Q.gP m,zA];refine QT aJ ?_;refine Q.ii m fun u v=>?_;refine Q.ii rfl fun w y=>?_;refine Q.nO ?_ ?_
   ·all_goals exact q _
   all_goals exact s _ ⟨by omega,by omega⟩
  rw [dL (by omega),zA];refine QF aJ ?_;exact p f b
def Gz (j:(Sl bC)) (b:(bC->Bool)):Int:=on (zA b j.l 0 ) fun f=>match f with|Sum.inl _=>(on (()) fun _=>(-1:Int))|Sum.inr g=>(g)
theorem WH (a0:(Sl bC)) (b:(bC->Bool)):zz a0 (fun g=>some (b g))=some (Gz a0 b):=by
 unfold zz Gz;refine Q.jt fun j f=>?_;refine WG  j ?_ ?_ _ _ ⟨Nat.succ_pos _,by omega⟩
 ·intro p q;refine Qe (f _) ?_;try dsimp only
  refine Q.jt fun k l=>?_;have m:ww  =k ():=by
   refine Qe (l _) ?_;unfold ww;all_goals rfl
  all_goals exact m
 intro r;refine Qe (f _) ?_;try dsimp only
 all_goals rfl
def wy (g:(Sl bC)) (b:(bC->Option Bool)):Option Bool:=(zz g b).bind fun f=>some (decide ((0:Int)<=f))
theorem MR {k f w0 g r}(b:wy k f=some r) (H:ah) (l:∀j r,f j=some r->iL Tryz.prog g [.agg (bC.c j)] H (RT (.a (.d (.bool r))) H)):At 107 [.d (Sl.d 2 bC.c w0 k),.d g] H (RT (.a (.d (.bool r))) H):=by
 unfold wy at b;refine AC.oW 9 [.tmp 4] Tryz.call107 Tryz.func107 ?_;refine Y6 ?_;obtain⟨p,m,b⟩:=bO b;refine s0 (eV rfl rfl (WE m _ l)) rfl ?_;refine Y3 ?_;exact rt b
def CJ (g:(Sl bC)) (b:(bC->Bool)):Bool:=on (Gz g b) fun f=>(decide ((0:Int)<=f))
theorem MS (a0:(Sl bC)) (b:(bC->Bool)):wy a0 (fun f=>some (b f))=some (CJ a0 b):=by
 unfold wy CJ;refine Q.ii (WH _ _) fun g j=>?_;all_goals rfl
def oh (f:ax):Option (ax×Bool):=(sx f).bind fun g=>bif (!g) then(some ((ax.mk [] Sl.nil),false)) else((uS f).bind fun b=>(js b.av (some (1:Int)) none).bind fun j=>some ((ax.mk b.aa j),true))
def zB (b:ax):Option (ax×Bool):=oh b
theorem Lo (a0:ax):zB a0=oh a0:=rfl
theorem zC {g r}(b:zB g=some r) (H:ah) :At 181 [.agg (ax.c g)] H (RT (.b_ [.agg (ax.c r.1),.d (.bool r.2)]) H):=by
 unfold zB oh at b;refine AC.oW 15 [.cell 2 56,.tmp 3] Tryz.call181 Tryz.func181 ?_;refine Y1 ?_;refine sL (pX rfl) rfl ?_;refine Y3 ?_;refine ar fun s j=>Y2 ?_;obtain⟨t,k,b⟩:=bz b;refine Sc rfl rfl (MP k) (Y2 ?_);refine cE b (fun m b=>?_) (fun m b=>?_)
 ·refine Y5 ?_;exact rt b
 refine sk j (Y2 ?_);obtain⟨u,p,b⟩:=bz b;refine Sc rfl rfl (MO p) (Y5 ?_);obtain⟨v,q,b⟩:=bz b;refine s0 (jg (f:=(bM .i64)) (l:=(some (1:Int))) (r:=none) (TK rfl) rfl (TK rfl) rfl rfl rfl trivial q) rfl ?_;refine Y8 ?_;exact rt b
def wz  :Option Int:=some (-1:Int)
def wB (f:(Sl af)) (g:(af->Option Bool)) :Nat->Nat->Option Int
 | 0,_=>none
 | j+1,b=>bif (decide (((b:Nat):Int)<((f.l.length:Nat):Int))) then((f.l[b]?).bind fun k=>(g k).bind fun m=>bif m then(some ((b:Nat):Int)) else((wB f g j) (b+1))) else(wz   )
def zD (b:(Sl af)) (f:(af->Option Bool)):Option Int:=wB b f (b.l.length+1) 0
theorem WI {f g w0 m r}(b:zD f g=some r) (H:ah) (s:∀p r,g p=some r->iL Tryz.prog m [.agg (af.c p)] H (RT (.a (.d (.bool r))) H)):At 228 [.d (Sl.d 5 af.c w0 f),.d m] H (RT (.a (.d (.int .i64 r))) H):=by
 unfold zD at b;refine AC.oW 19 [.tmp 4] Tryz.call228 Tryz.func228 ?_;refine Y3 ?_;refine aN kN (fun(z:Unit)=>[]) (fun z=>H) (fun z=>wz =some r) ?_ ?_
 ·intro E t;refine Y2 ?_;refine aV af.c f fun F=>Y3 ?_;refine bx (tl [0,1,7]) (fun(z:Nat×Nat)=>[(8,vi z.2)]) (fun z=>H) (fun z=>z.1) (fun z=>wB f g z.1 z.2=some r) ((f.l.length+1),0) b wA ?_;rintro ⟨j,q⟩ b G u;try dsimp only at b
  cases j with
  | zero=>cases b
  | succ j =>
    rw [wB] at b;refine Y3 ?_;refine ar fun I v=>?_;refine cE b (fun k b=>?_) (fun k b=>?_)
    ·try dsimp only at k
     have J:=oD k;refine sk v (ar fun K w=>Y9 ?_);obtain⟨L,y,b⟩:=bO b;refine S (ix af.c q y) (Y1 ?_);obtain⟨M,B,b⟩:=bO b;refine s0 (mA rfl rfl (s _ _ B)) rfl ?_;refine Y1 ?_;refine cE b (fun C b=>?_) (fun C b=>?_)
     ·refine Y4 ?_;exact rt b
     refine sk w (Y4 ?_);exact u _ (j,(q+1)) wA b (nS _)
    refine ag.exit ?_;exact t _ () wA b
 rintro _ b;try dsimp only at b
 unfold wz at b;refine Y3 ?_;exact rt b
def sA (f:(af->Option Bool)):List af->Nat->Option (Unit ⊕ Int)
 | [],b=>some (Sum.inl ())
 | g::j,b=>on (g) fun k=>(f k).bind fun l=>bif l then(some (Sum.inr ((b:Nat):Int))) else(sA f (j) (b+1) )
theorem WJ {g:Sl af}{k:af->Option Bool}(j:(Unit ⊕ Int)->Option Int) (p:∀(f:Nat) (b:Nat),wz   =j (Sum.inl ())) (q:∀e:Int,some e=j (Sum.inr e)):∀(f:Nat) (b:Nat),(0<f/\g.l.length<b+f)->wB g k f b=Option.bind (sA k (g.l.drop b) b ) j:=by
 intro f;induction f with
 | zero=>intro b hn; exact absurd hn.1 (by omega)
 | succ f r =>
  intro b hn;rw [wB];by_cases aJ:b<g.l.length
  ·obtain⟨s,m⟩:=Qa aJ;rw [Q.gP m,sA];refine QT aJ ?_;refine Q.iB m fun t u=>?_;refine Q.ji rfl fun v=>?_;refine Q.kE ?_ ?_
   ·all_goals exact q _
   all_goals exact r _ ⟨by omega,by omega⟩
  rw [dL (by omega),sA];refine QF aJ ?_;exact p f b
def Bc (j:(Sl af)) (b:(af->Option Bool)):Option Int:=Option.bind (sA b j.l 0 ) fun f=>match f with|Sum.inl _=>(on (()) fun _=>some (-1:Int))|Sum.inr g=>(some g)
theorem WK (a0:(Sl af)) (b:(af->Option Bool)):zD a0 b=Bc a0 b:=by
 unfold zD Bc;refine Qs ?_;refine Q.kF fun g f=>?_;refine WJ  g ?_ ?_ _ _ ⟨Nat.succ_pos _,by omega⟩
 ·intro m p;refine Qe (f _) ?_;try dsimp only
  refine Q.lu fun j k=>?_;have l:wz  =j ():=by
   refine Qe (k _) ?_;unfold wz;all_goals rfl
  all_goals exact l
 intro q;refine Qe (f _) ?_;try dsimp only
 all_goals rfl
def zF (g:(Sl af)) (b:(af->Option Bool)):Option Bool:=(zD g b).bind fun f=>some (decide ((0:Int)<=f))
theorem WL {k f w0 g r}(b:zF k f=some r) (H:ah) (l:∀j r,f j=some r->iL Tryz.prog g [.agg (af.c j)] H (RT (.a (.d (.bool r))) H)):At 206 [.d (Sl.d 5 af.c w0 k),.d g] H (RT (.a (.d (.bool r))) H):=by
 unfold zF at b;refine AC.oW 9 [.tmp 4] Tryz.call206 Tryz.func206 ?_;refine Y6 ?_;obtain⟨p,m,b⟩:=bO b;refine s0 (eV rfl rfl (WI m _ l)) rfl ?_;refine Y3 ?_;exact rt b
def yf (g:(Sl af)) (b:(af->Option Bool)):Option Bool:=(Bc g b).bind fun f=>some (decide ((0:Int)<=f))
theorem WM (a0:(Sl af)) (b:(af->Option Bool)):zF a0 b=yf a0 b:=by
 unfold zF yf;refine Qs ?_;refine Q.ji (by simp only [WK]) fun f=>?_;all_goals rfl
def CK (f:bC) (b:af):Bool:=((f.aa==b.bK))
def CL (f:bC) (b:af):Option Bool:=some (CK f b)
theorem WN (a0:bC) (b:af):CL a0 b=some (CK a0 b):=rfl
theorem WO {g b r}(f:CL g b=some r) (H:ah) :At 208 [.agg (bC.c g),.d (.view (af.c b))] H (RT (.a (.d (.bool r))) H):=by
 unfold CL CK at f;refine AC.oW 9 [.tmp 3] Tryz.call208 Tryz.func208 ?_;refine kH ?_;exact rt f
def wC  :Option Int:=some (-1:Int)
def wD (f:(Sl az)) (g:(az->Option Bool)) :Nat->Nat->Option Int
 | 0,_=>none
 | j+1,b=>bif (decide (((b:Nat):Int)<((f.l.length:Nat):Int))) then((f.l[b]?).bind fun k=>(g k).bind fun m=>bif m then(some ((b:Nat):Int)) else((wD f g j) (b+1))) else(wC   )
def zG (b:(Sl az)) (f:(az->Option Bool)):Option Int:=wD b f (b.l.length+1) 0
theorem WQ {f g w0 m r}(b:zG f g=some r) (H:ah) (s:∀p r,g p=some r->iL Tryz.prog m [.agg (az.c p)] H (RT (.a (.d (.bool r))) H)):At 236 [.d (Sl.d 10 az.c w0 f),.d m] H (RT (.a (.d (.int .i64 r))) H):=by
 unfold zG at b;refine AC.oW 19 [.tmp 4] Tryz.call236 Tryz.func236 ?_;refine Y3 ?_;refine aN kN (fun(z:Unit)=>[]) (fun z=>H) (fun z=>wC =some r) ?_ ?_
 ·intro E t;refine Y2 ?_;refine aV az.c f fun F=>Y3 ?_;refine bx (tl [0,1,7]) (fun(z:Nat×Nat)=>[(8,vi z.2)]) (fun z=>H) (fun z=>z.1) (fun z=>wD f g z.1 z.2=some r) ((f.l.length+1),0) b wA ?_;rintro ⟨j,q⟩ b G u;try dsimp only at b
  cases j with
  | zero=>cases b
  | succ j =>
    rw [wD] at b;refine Y3 ?_;refine ar fun I v=>?_;refine cE b (fun k b=>?_) (fun k b=>?_)
    ·try dsimp only at k
     have J:=oD k;refine sk v (ar fun K w=>Y9 ?_);obtain⟨L,y,b⟩:=bO b;refine S (ix az.c q y) (Y1 ?_);obtain⟨M,B,b⟩:=bO b;refine s0 (mA rfl rfl (s _ _ B)) rfl ?_;refine Y1 ?_;refine cE b (fun C b=>?_) (fun C b=>?_)
     ·refine Y4 ?_;exact rt b
     refine sk w (Y4 ?_);exact u _ (j,(q+1)) wA b (nS _)
    refine ag.exit ?_;exact t _ () wA b
 rintro _ b;try dsimp only at b
 unfold wC at b;refine Y3 ?_;exact rt b
def zH (f:(az->Bool)):List az->Nat->Unit ⊕ Int
 | [],b=>Sum.inl ()
 | g::j,b=>on (g) fun k=>on (f k) fun l=>bif l then(Sum.inr ((b:Nat):Int)) else(zH f (j) (b+1) )
theorem WR {g:Sl az}{k:az->Bool}(j:(Unit ⊕ Int)->Option Int) (p:∀(f:Nat) (b:Nat),wC   =j (Sum.inl ())) (q:∀e:Int,some e=j (Sum.inr e)):∀(f:Nat) (b:Nat),(0<f/\g.l.length<b+f)->wD g (fun r=>some (k r)) f b=j (zH k (g.l.drop b) b ):=by
 intro f;induction f with
 | zero=>intro b hn; exact absurd hn.1 (by omega)
 | succ f s =>
  intro b hn;rw [wD];by_cases aJ:b<g.l.length
  ·obtain⟨t,m⟩:=Qa aJ;rw [Q.gP m,zH];refine QT aJ ?_;refine Q.ii m fun u v=>?_;refine Q.ii rfl fun w y=>?_;refine Q.nO ?_ ?_
   ·all_goals exact q _
   all_goals exact s _ ⟨by omega,by omega⟩
  rw [dL (by omega),zH];refine QF aJ ?_;exact p f b
def GA (j:(Sl az)) (b:(az->Bool)):Int:=on (zH b j.l 0 ) fun f=>match f with|Sum.inl _=>(on (()) fun _=>(-1:Int))|Sum.inr g=>(g)
theorem WS (a0:(Sl az)) (b:(az->Bool)):zG a0 (fun g=>some (b g))=some (GA a0 b):=by
 unfold zG GA;refine Q.jt fun j f=>?_;refine WR  j ?_ ?_ _ _ ⟨Nat.succ_pos _,by omega⟩
 ·intro p q;refine Qe (f _) ?_;try dsimp only
  refine Q.jt fun k l=>?_;have m:wC  =k ():=by
   refine Qe (l _) ?_;unfold wC;all_goals rfl
  all_goals exact m
 intro r;refine Qe (f _) ?_;try dsimp only
 all_goals rfl
def zI (g:(Sl az)) (b:(az->Option Bool)):Option Bool:=(zG g b).bind fun f=>some (decide ((0:Int)<=f))
theorem WT {k f w0 g r}(b:zI k f=some r) (H:ah) (l:∀j r,f j=some r->iL Tryz.prog g [.agg (az.c j)] H (RT (.a (.d (.bool r))) H)):At 229 [.d (Sl.d 10 az.c w0 k),.d g] H (RT (.a (.d (.bool r))) H):=by
 unfold zI at b;refine AC.oW 9 [.tmp 4] Tryz.call229 Tryz.func229 ?_;refine Y6 ?_;obtain⟨p,m,b⟩:=bO b;refine s0 (eV rfl rfl (WQ m _ l)) rfl ?_;refine Y3 ?_;exact rt b
def CM (g:(Sl az)) (b:(az->Bool)):Bool:=on (GA g b) fun f=>(decide ((0:Int)<=f))
theorem WU (a0:(Sl az)) (b:(az->Bool)):zI a0 (fun f=>some (b f))=some (CM a0 b):=by
 unfold zI CM;refine Q.ii (WS _ _) fun g j=>?_;all_goals rfl
def zJ (b:az) (g:af):Bool:=on (ij b.aM) fun f=>on (bif (f&&(!b.eC)) then jW g.aX b.aa else false) fun j=>((f&&(!b.eC))&&(!j))
def CN (f:az) (b:af):Option Bool:=some (zJ f b)
theorem WV (a0:az) (b:af):CN a0 b=some (zJ a0 b):=rfl
theorem WW {g f r}(b:CN g f=some r) (H:ah) :At 230 [.agg (az.c g),.d (.view (af.c f))] H (RT (.a (.d (.bool r))) H):=by
 unfold CN zJ at b;refine AC.oW 20 [.tmp 3] Tryz.call230 Tryz.func230 ?_;refine Y7 ?_;obtain⟨l,j,b⟩:=eL b;refine Sc rfl rfl (pI j) (Y2 ?_);refine Gk 8 ?_;refine Gk 9 ?_;refine Y3 ?_;refine Gk 13 ?_;refine Y1 ?_;refine Gk 15 ?_;obtain⟨m,k,b⟩:=lz (fun _=>rfl) b;refine fV 14 16 rfl rfl rfl rfl rfl rfl (fun hC=>tP (k hC)) ?_;refine Gk 17 ?_;refine Y3 ?_;exact rt b
def qx (m:an) (j:ay) (f:af) (k:an->ax->af->Option Bool):List Bs->Nat->Option (Unit ⊕ Bool)
 | [],b=>some (Sum.inl ())
 | p::q,b=>on (p) fun r=>on (iq j.bG r) fun g=>a_ (!((!g.2)||(decide (((f.aB.l.length:Nat):Int)<=((b:Nat):Int))))) (f.aB.l[b]?) af.zero fun s=>a_ (!((!g.2)||(decide (((f.aB.l.length:Nat):Int)<=((b:Nat):Int))))) (k m g.1.aM s) false fun t=>bif (((!g.2)||(decide (((f.aB.l.length:Nat):Int)<=((b:Nat):Int))))||(!t)) then(some (Sum.inr false)) else(qx m j f k (q) (b+1) )
mutual
def jP:Nat->an->ax->af->Option Bool
 | 0,_,_,_=>none
 | n+1,g,f,b=>bif (decide (b.aj=(7:Int))) then(some true) else(on (ni g f.aa) fun m=>bif (!m) then(some false) else(bif (decide (b.aj=(0:Int))) then(on (ij f) fun p=>some (!p)) else((oh f).bind fun j=>bif j.2 then(bif (!decide (b.aj=(5:Int))) then(((jP n) g j.1 b).bind fun q=>some q) else((yf b.aB (fun k=>(sC n) k g j.1)).bind fun r=>some (!r))) else(bif ((f.aa==([73,110,116]:Bs))) then(some (((decide (b.aj=(2:Int)))&&(decide ((-2147483648:Int)<=b.bL)))&&(decide (b.bL<(2147483648:Int))))) else(bif ((f.aa==([83,116,114,105,110,103]:Bs))) then(some (decide (b.aj=(3:Int)))) else(bif ((f.aa==([66,111,111,108,101,97,110]:Bs))) then(some (decide (b.aj=(1:Int)))) else(bif ((f.aa==([73,68]:Bs))) then(some ((decide (b.aj=(3:Int)))||(decide (b.aj=(2:Int))))) else(on (cL g f.aa) fun l=>bif (decide (l.1.aj=(4:Int))) then(on (bif (decide (b.aj=(4:Int))) then CJ l.1.bV (fun k=>CK k b) else false) fun s=>some ((decide (b.aj=(4:Int)))&&s)) else(a_ ((decide (b.aj=(6:Int)))) ((uT n) g l.1 b) false fun t=>some ((decide (b.aj=(6:Int)))&&t))))))))))
def sC:Nat->af->an->ax->Option Bool
 | 0,_,_,_=>none
 | n+1,g,b,j=>((jP n) b j g).bind fun f=>some (!f)
def uT:Nat->an->ay->af->Option Bool
 | 0,_,_,_=>none
 | n+1,p,f,b=>Option.bind (qx p f b (jP n) b.aX.l 0 ) fun g=>match g with|Sum.inl _=>(on (()) fun _=>on (CM f.bG (fun j=>zJ j b)) fun k=>some (!k))|Sum.inr m=>(some m)
end
def zK (n:Nat):Prop:=∀{a0:an}{b:ax}{a2:af}   {r:Bool},jP n a0 b a2=some r->∀(H:ah),At 172 [.agg (an.c a0),.agg (ax.c b),.agg (af.c a2)] H (RT (.a (.d (.bool r))) H)
def zL (n:Nat):Prop:=∀{a0:af}{b:an}{a2:ax}   {r:Bool},sC n a0 b a2=some r->∀(H:ah),At 207 [.agg (af.c a0),.d (.view (an.c b)),.d (.view (ax.c a2))] H (RT (.a (.d (.bool r))) H)
def zM (n:Nat):Prop:=∀{a0:an}{b:ay}{a2:af}   {r:Bool},uT n a0 b a2=some r->∀(H:ah),At 209 [.agg (an.c a0),.agg (ay.c b),.agg (af.c a2)] H (RT (.a (.d (.bool r))) H)
theorem WX (n:Nat) (j:zK (ak:=ak) n) (l:zL (ak:=ak) n) (m:zM (ak:=ak) n):zK (ak:=ak) (n+1):=by
 intro U W g   r b H;rw [jP] at b;refine AC.oW 111 [.tmp 6] Tryz.call172 Tryz.func172 ?_;refine Y6 ?_;refine ar fun X p=>Y7 ?_;refine cE b (fun q b=>?_) (fun q b=>?_)
 ·refine Y3 ?_;exact rt b
 refine Y4 ?_;obtain⟨Y,s,b⟩:=dD b;refine Sc rfl rfl (CI s) (Y3 ?_);refine cE b (fun t b=>?_) (fun t b=>?_)
 ·refine Y3 ?_;exact rt b
 refine Y6 ?_;refine cE b (fun u b=>?_) (fun u b=>?_)
 ·refine Y2 ?_;obtain⟨Z,v,b⟩:=dD b;refine Sc rfl rfl (pI v) (Y3 ?_);exact rt b
 refine sk p (ar fun aa w=>Y2 ?_);obtain⟨y,z,b⟩:=bz b;refine Sc rfl rfl (zC z) (Y7 ?_);refine bl 7 _ rfl (kl [3,4,5,8]) ?_;refine Y3 ?_;refine cE b (fun B b=>?_) (fun B b=>?_)
 ·refine ar fun ab C=>Y5 ?_;refine cE b (fun E b=>?_) (fun E b=>?_)
  ·refine Y4 ?_;obtain⟨ad,F,b⟩:=bz b;refine Sc rfl rfl (j F) (Y2 ?_);exact rt b
  refine sk C (Y2 ?_);refine s0 (cA (TK rfl) rfl rfl (af.dX _)) rfl ?_;refine s0 (makeFunc rfl) rfl ?_;obtain⟨ae,G,b⟩:=qT (o':=zF g.aB (fun f=>(sC n) f U y.1)) (by simp only [WM]) b;refine s0 (fT rfl rfl (fun H=>WL G H (fun _ _ hx=>l hx _))) rfl ?_;refine Y3 ?_;exact rt b
 refine sk w (ar fun ai I=>Y9 ?_);refine cE b (fun J b=>?_) (fun J b=>?_)
 ·refine Y6 ?_;refine Gk 54 ?_;refine Gk 55 ?_;refine Y3 ?_;refine Gk 59 ?_;refine Gk 60 ?_;refine Y3 ?_;exact rt b
 refine Y4 ?_;refine cE b (fun K b=>?_) (fun K b=>?_)
 ·refine Y6 ?_;exact rt b
 refine Y4 ?_;refine cE b (fun L b=>?_) (fun L b=>?_)
 ·refine Y6 ?_;exact rt b
 refine Y4 ?_;refine cE b (fun M b=>?_) (fun M b=>?_)
 ·refine Y6 ?_;refine Gk 79 ?_;refine Gk 80 ?_;refine Y3 ?_;exact rt b
 refine sk I (Y4 ?_);obtain⟨N,O,b⟩:=dD b;refine Sc rfl rfl (iM O) (Y7 ?_);refine bl 9 _ rfl (kl [3,5]) ?_;refine ar fun aj P=>Y5 ?_;refine cE b (fun Q b=>?_) (fun Q b=>?_)
 ·refine Y6 ?_;refine Gk 97 ?_;refine gC rfl rfl (fun hC=>makeFunc rfl) rfl ?_;obtain⟨al,R,b⟩:=jv (o:=wy N.1.bV (fun f=>CL f g)) (fun _=>(by simp only [WN,MS])) b;refine fc 98 99 rfl rfl (fun hC=>fT rfl rfl (fun H=>MR (R hC) H (fun _ _ hx=>WO hx _))) ?_;refine Y3 ?_;exact rt b
 refine sk P (Y8 ?_);obtain⟨am,S,b⟩:=dV b;refine gC rfl rfl (fun hC=>fm (k:=106) rfl (fm (k:=107) rfl (fm (k:=108) rfl (fT rfl rfl (fun H=>m (S hC) H))))) rfl ?_;refine Y3 ?_;exact rt b
theorem WY (n:Nat) (f:zK (ak:=ak) n) (j:zL (ak:=ak) n) (k:zM (ak:=ak) n):zL (ak:=ak) (n+1):=by
 intro p l q   r b H;rw [sC] at b;refine AC.oW 10 [.tmp 4] Tryz.call207 Tryz.func207 ?_;refine Y8 ?_;obtain⟨m,g,b⟩:=bz b;refine Sc rfl rfl (f g) (Y3 ?_);exact rt b
theorem WZ (n:Nat) (w:zK (ak:=ak) n) (N:zL (ak:=ak) n) (O:zM (ak:=ak) n):zM (ak:=ak) (n+1):=by
 intro v g f   r b H;rw [uT] at b;refine AC.oW 53 [.tmp 6] Tryz.call209 Tryz.func209 ?_;refine Y6 ?_;refine aN (tl [4,5]) (fun(z:Unit)=>[]) (fun z=>H) (fun z=>(on (CM g.bG (fun m=>zJ m f)) fun q=>some (!q))=some r) ?_ ?_
 ·intro P y;refine Y3 ?_;refine aV aW f.aX fun Q=>Y3 ?_;obtain⟨s,t,b⟩:=b5 b;refine bx (tl [3,4,5,12,13]) (fun(z:Nat)=>[(14,vi z)]) (fun z=>H) (fun z=>f.aX.l.length-z) (fun z=>Option.bind (qx v g f (jP n) (f.aX.l.drop z) z ) s=some r) 0 b wA ?_;rintro j b R B;try dsimp only at b
  refine Y3 ?_;refine ar fun U C=>?_;refine ag.bW (fun l=>Option.bind (qx v g f (jP n) l j ) s=some r) b rfl (fun W u p b=>?_) (fun p b=>?_)
  ·rw [qx] at b;try dsimp only at p
   have X:=oD p;refine sk C (ar fun Y E=>Y3 ?_);obtain⟨Z,F,b⟩:=vO u b;refine S (ix aW j F) (Y8 ?_);obtain⟨aa,G,b⟩:=dm b;refine Sc rfl rfl (wv G) (Y7 ?_);refine bl 9 _ rfl (kl [3,4,5,7,10,12,13,14]) ?_;refine Y6 ?_;refine fL 30 rfl (fun hC=>cA (TK rfl) rfl rfl (af.dX _)) ?_
   refine fL 31 rfl (fun hC=>dW af.c f.aB) ?_;refine D3 29 32 rfl rfl BI ?_;refine Y4 ?_;refine cG 37 ?_;refine Y1 ?_;refine fL 39 rfl (fun hC=>cA (TK rfl) rfl rfl (af.dX _)) ?_;refine Y1 ?_;obtain⟨ab,I,b⟩:=fG b;refine nQ 40 41 rfl rfl (fun hC=>ix af.c j (I hC)) ?_;refine cG 42 ?_;obtain⟨ad,J,b⟩:=fG b
   refine aH.gC rfl rfl (fun hC=>fm (k:=36) rfl (fm (k:=38) rfl (fm (k:=43) rfl (fT rfl rfl (fun H=>w (J hC) H))))) rfl ?_;refine cG 44 ?_;refine Y2 ?_;refine cO b (fun K b=>?_) (fun K b=>?_)
   ·refine Y3 ?_;exact rs (ku t b:)
   refine sk E (Y4 ?_);exact B _ (j+1) wA b (dl u)
  rw [qx] at b;have b:=ku t b;try dsimp only at b
  refine ag.exit ?_;obtain⟨ae,L,b⟩:=b8 b;exact y _ () wA (ku L b:)
 rintro _ b;try dsimp only at b
 refine Y3 ?_;refine s0 (makeFunc rfl) rfl ?_;obtain⟨q,M,b⟩:=vT (o:=zI g.bG (fun m=>CN m f)) (by simp only [WV,WU]) b;refine s0 (fT rfl rfl (fun H=>WT M H (fun _ _ hx=>WW hx _))) rfl ?_;refine Y3 ?_;exact rt b
theorem nw:∀(n:Nat),(zK (ak:=ak) n)/\(zL (ak:=ak) n)/\(zM (ak:=ak) n)
 | 0=>⟨fun b=>by first|cases b|(rw [jP] at b; cases b),fun b=>by first|cases b|(rw [sC] at b; cases b),fun b=>by first|cases b|(rw [uT] at b; cases b)⟩
 | n+1=>⟨WX n (nw n).1 (nw n).2.1 (nw n).2.2,WY n (nw n).1 (nw n).2.1 (nw n).2.2,WZ n (nw n).1 (nw n).2.1 (nw n).2.2⟩
def W0 (a0:an) (b:ax) (a2:af):Option Bool:=jP F0 a0 b a2
theorem W1 {f b g r}(j:W0 f b g=some r) (H:ah) :At 172 [.agg (an.c f),.agg (ax.c b),.agg (af.c g)] H (RT (.a (.d (.bool r))) H):=(nw F0).1 j H 
def Bd (f:an) (b:ax) (g:af):Option Bool:=jP F0 f b g
def oo (m:(Sl az)) (j:(Sl aO)) (q:Bool) (k:Bs):List aO->Nat->Z2->Option (Z2)
 | [],g,f=>some f
 | r::s,g,f=>on (r) fun b=>on (iq m b.aa) fun p=>on ((⟨j.nl,j.l.take g⟩:Sl aO)) fun t=>on (lR t b.aa) fun u=>Option.bind (bif ((!p.2)||u.2) then((ir f true (22:Int) k).bind fun v=>some v) else((Bd f.Fd p.1.aM b.dr).bind fun w=>(ir f ((!w)||(q&&(((decide (b.dr.aj=(7:Int)))||((decide (b.dr.aj=(3:Int)))&&((b.dr.bK==([]:Bs)))))||((decide (b.dr.aj=(2:Int)))&&(decide (b.dr.bL<(0:Int))))))) (23:Int) k).bind fun y=>some y)) fun z=>oo m j q k (s) (g+1) z
def qy (j:Z2) (f:(Sl az)) (b:(Sl aO)) (k:Bool) (m:Bs):Option Z2:=Option.bind (oo f b k m b.l 0 j) fun g=>some g
theorem MT {p q k s t G I j g r}(b:qy p q k s t=some r) (H:ah) (aa:H j=some (.cells (Z2.cg (some g) p))) (ab:H g=some (.tok 2 p.aC.l.length)):At 132 [.d (.ptr j 0),.d (Sl.d 10 az.c G q),.d (Sl.d 6 aO.c I k),.d (.bool s),.d (.str t)] H (RT (.b_ []) (((tS H g 2 r.aC).set j (some (.cells (Z2.cg (some g) r)))))):=by
 unfold qy at b;refine AC.oW 94 [] Tryz.call132 Tryz.func132 ?_;have ad:j≠g:=fun J=>by subst J; simp_all
 refine hz ((tS H g 2 p.aC).set j (some (.cells (Z2.cg (some g) p)))) (Y2 ?_);refine aV aO.c k fun ae=>Y3 ?_;obtain⟨u,K,b⟩:=b5 b;refine bx (tl [0,1,2,3,4,18,19]) (fun(z:Nat×Z2)=>[(20,vi z.1)]) (fun z=>((tS H g 2 z.2.aC).set j (some (.cells (Z2.cg (some g) z.2))))) (fun z=>k.l.length-z.1) (fun z=>Option.bind (oo q k s t (k.l.drop z.1) z.1 z.2) u=some r) (0,p) b wA ?_
 rintro ⟨m,v⟩ b af L;try dsimp only at b
 refine Y3 ?_;refine ar fun ai M=>?_;refine ag.bW (fun l=>Option.bind (oo q k s t l m v) u=some r) b rfl (fun aj C w b=>?_) (fun w b=>?_)
 ·rw [oo] at b;try dsimp only at w
  have ak:=oD w;refine sk M (aN (tl [0,1,2,3,4,18,19,20]) (fun(z:Z2)=>[]) (fun z=>((tS H g 2 z.aC).set j (some (.cells (Z2.cg (some g) z))))) (fun z=>Option.bind (oo q k s t (k.l.drop (m+1)) (m+1) z) u=some r) ?_ ?_)
  ·intro al E;refine Y3 ?_;obtain⟨am,N,b⟩:=vO C b;refine S (ix aO.c m N) (Y5 ?_);refine bl 11 _ rfl (kl [0,1,2,3,4,10,18,19,20]) ?_;refine Y4 ?_;obtain⟨an,O,b⟩:=dm b;refine Sc rfl rfl (wv O) (Y7 ?_);refine bl 12 _ rfl (kl [0,1,2,3,4,10,11,13,18,19,20]) ?_;refine Y3 ?_;obtain⟨ao,P,b⟩:=vO (Q.mB (by omega)) b
   refine aH.s0 (jg (f:=aO.c) (l:=none) (r:=(some ((m:Nat):Int))) (TK rfl) rfl (TK rfl) rfl rfl trivial rfl P) rfl ?_;refine Y2 ?_;obtain⟨ap,R,b⟩:=dm b;refine ck rfl rfl (Gy R) (Y7 ?_);refine bl 14 _ rfl (kl [0,1,2,3,4,11,12,13,15,18,19,20]) ?_;refine Y6 ?_;refine bl 16 _ rfl (kl [0,1,2,3,4,12,13,15,18,19,20]) ?_;refine Y6 ?_;refine Gk 47 ?_;refine Gk 48 ?_;refine Gk 49 ?_
   refine Y1 ?_;refine Gk 51 ?_;refine Gk 52 ?_;refine bE 50 rfl (fun hC=>f_ rfl rfl rfl) ?_;refine Y3 ?_;refine Gk 57 ?_;refine Gk 58 ?_;refine Gk 59 ?_;refine Y1 ?_;refine Gk 61 ?_;refine Gk 62 ?_;refine bE 60 rfl (fun hC=>f_ rfl rfl rfl) ?_;refine kH ?_;obtain⟨av,F,b⟩:=eB b;refine cO b (fun U b=>?_) (fun U b=>?_)
   ·refine Y3 ?_;obtain⟨y,W,b⟩:=aQ b;refine sH (bF rfl rfl (pH W _ au au)) rfl ?_;refine hq ((tS H g 2 y.aC).set j (some (.cells (Z2.cg (some g) y)))) (Y1 ?_);exact E _ y wA (ku F b:)
   refine ag.draw rfl ?_;refine Y8 ?_;obtain⟨aw,X,b⟩:=aQ b;refine ck rfl rfl (W1 X) (Y3 ?_);refine cG 77 ?_;refine Y1 ?_;refine fL 78 rfl (fun hC=>f_ rfl rfl rfl) ?_;refine Y2 ?_;obtain⟨B,Y,b⟩:=aQ b;refine aH.sH (bF rfl rfl (pH Y _ au au)) rfl ?_;refine aH.Dh ((tS H g 2 B.aC).set j (some (.cells (Z2.cg (some g) B)))) ?_;refine Y1 ?_
   exact E _ B wA (ku F b:)
  rintro Z b;try dsimp only at b
  refine Y4 ?_;exact L _ ((m+1),Z) wA b (dl C)
 rw [oo] at b;have b:=ku K b;refine ag.exit ?_;repeat (first|refine eS ?_|refine eR ?_|refine eP ?_)
 obtain rfl:=oJ b;refine bR.eX ((tS H g 2 v.aC).set j (some (.cells (Z2.cg (some g) v)))) (xs:=[]) rfl ⟨rfl,rfl⟩ ?_;exact(fun _ _ h=>h)
def oq (g:Bs) (f:aP):List az->Z2->Option (Z2)
 | [],b=>some b
 | j::k,b=>on (j) fun l=>on (lR f.aG l.aa) fun m=>(ir b (!m.2) (22:Int) g).bind fun p=>oq g f (k) p
def mS (f:ai) (q:ax) (p:Bool) (k:Bs):List aP->Nat->Z2->Option (Z2)
 | [],m,j=>some j
 | r::s,m,j=>on (r) fun b=>(yh b.aa ((!decide (f.aj=(2:Int)))&&(!decide (f.aj=(3:Int))))).bind fun t=>a_ ((((b.aa==([115,116,114,101,97,109]:Bs)))&&p)) (sx q) false fun u=>on (bif ((((b.aa==([115,116,114,101,97,109]:Bs)))&&p)&&(!u)) then((Sl.nil:Sl az)) else(t)) fun g=>on (bif !g.nl then(⟨f.bS.nl,f.bS.l.take m⟩:Sl aP) else(Sl.nil:Sl aP)) fun v=>on (bif !g.nl then yj v (fun w=>uV w b) else false) fun y=>Option.bind (bif (g.nl||y) then((ir j true (29:Int) k).bind fun z=>some z) else((qy j g b.aG (((b.aa==([100,101,102,101,114]:Bs)))||((b.aa==([115,116,114,101,97,109]:Bs)))) k).bind fun B=>Option.bind (oq k b g.l B) fun C=>some C)) fun E=>mS f q p k (s) (m+1) E
def mU (g:Z2) (b:ai) (j:ax) (k:Bool) (m:Bs):Option Z2:=Option.bind (mS b j k m b.bS.l 0 g) fun f=>some f
theorem GB {t j u v m k g r}(b:mU t j u v m=some r) (H:ah) (aL:H k=some (.cells (Z2.cg (some g) t))) (aM:H g=some (.tok 2 t.aC.l.length)):At 87 [.d (.ptr k 0),.agg (ai.c j),.agg (ax.c u),.d (.bool v),.d (.str m)] H (RT (.b_ []) (((tS H g 2 r.aC).set k (some (.cells (Z2.cg (some g) r)))))):=by
 unfold mU at b;refine AC.oW 97 [] Tryz.call87 Tryz.func87 ?_;have aO:k≠g:=fun Z=>by subst Z; simp_all
 refine hz ((tS H g 2 t.aC).set k (some (.cells (Z2.cg (some g) t)))) (Y7 ?_);refine aV aP.c j.bS fun aR=>Y3 ?_;obtain⟨B,ab,b⟩:=b5 b
 refine bx (tl [0,3,4,6,7,19,20]) (fun(z:Nat×Z2)=>[(21,vi z.1)]) (fun z=>((tS H g 2 z.2.aC).set k (some (.cells (Z2.cg (some g) z.2))))) (fun z=>j.bS.l.length-z.1) (fun z=>Option.bind (mS j u v m (j.bS.l.drop z.1) z.1 z.2) B=some r) (0,t) b wA ?_;rintro ⟨p,s⟩ b aS ad;try dsimp only at b
 refine Y3 ?_;refine ar fun aT ae=>?_;refine ag.bW (fun l=>Option.bind (mS j u v m l p s) B=some r) b rfl (fun aU M E b=>?_) (fun E b=>?_)
 ·rw [mS] at b;try dsimp only at E
  have aW:=oD E;refine sk ae (aN (tl [0,3,4,6,7,19,20,21]) (fun(z:Z2)=>[]) (fun z=>((tS H g 2 z.aC).set k (some (.cells (Z2.cg (some g) z))))) (fun z=>Option.bind (mS j u v m (j.bS.l.drop (p+1)) (p+1) z) B=some r) ?_ ?_)
  ·intro aX N;refine Y3 ?_;obtain⟨q,af,b⟩:=vO M b;refine S (ix aP.c p af) (Y5 ?_);refine bl 11 _ rfl (kl [0,3,4,6,7,10,19,20,21]) ?_;refine Y6 ?_;refine Gk 30 ?_;refine Gk 31 ?_;refine Y7 ?_;obtain⟨aj,ak,b⟩:=aQ b;refine Sc rfl rfl (Ww ak) (Y2 ?_)
   refine aN (tl [0,3,4,6,7,10,11,19,20,21]) (fun(z:(Sl az))=>[(13,.a (.d (Sl.d 10 az.c none z)))]) (fun z=>((tS H g 2 s.aC).set k (some (.cells (Z2.cg (some g) s))))) (fun z=>Option.bind (on (bif !z.nl then(⟨j.bS.nl,j.bS.l.take p⟩:Sl aP) else(Sl.nil:Sl aP)) fun F=>on (bif !z.nl then yj F (fun G=>uV G q) else false) fun O=>Option.bind (bif (z.nl||O) then((ir s true (29:Int) m).bind fun w=>some w) else((qy s z q.aG (((q.aa==([100,101,102,101,114]:Bs)))||((q.aa==([115,116,114,101,97,109]:Bs)))) m).bind fun y=>Option.bind (oq m q z.l y) fun C=>some C)) fun I=>mS j u v m (j.bS.l.drop (p+1)) (p+1) I) B=some r) ?_ ?_
   ·intro aY P;refine Y9 ?_;obtain⟨aZ,al,b⟩:=fG b;refine dx 45 rfl rfl rfl rfl rfl (fun hC=>MP (al hC)) ?_;refine Gk 46 ?_;refine Y2 ?_;obtain⟨a0,R,b⟩:=gB b;refine cP b (fun am b=>?_) (fun am b=>?_)
    ·refine Y1 ?_;refine s0 (dM (k':=10) rfl) rfl ?_;refine Y1 ?_;exact P _ (Sl.nil:Sl az) wA (ku R b:)
    refine ag.skip ?_;exact P _ aj wA (ku R b:)
   rintro J b;try dsimp only at b
   refine ar fun a1 an=>Y2 ?_;refine s0 (Aw (TK rfl) rfl rfl) rfl ?_;refine Y2 ?_;refine Gk 52 ?_;refine Y1 ?_;obtain⟨F,ao,b⟩:=fo (fun _=>(Q.mB (by omega))) b;refine fc 53 54 rfl rfl (fun hC=>jg (f:=aP.c) (l:=none) (r:=(some ((p:Nat):Int))) (TK rfl) rfl (TK rfl) rfl rfl trivial rfl (ao hC)) ?_;refine gC rfl rfl (fun hC=>makeFunc rfl) rfl ?_
   obtain⟨O,ap,b⟩:=fo (o:=zy F (fun G=>CH G q)) (fun _=>(by simp only [WC,WB])) b;refine fc 55 56 rfl rfl (fun hC=>fT rfl rfl (fun H=>WA (ap hC) H (fun _ _ hx=>WD hx _))) ?_;refine Y2 ?_;obtain⟨a2,U,b⟩:=eB b;refine cO b (fun av b=>?_) (fun av b=>?_)
   ·refine Y3 ?_;obtain⟨w,aw,b⟩:=aQ b;refine sH (bF rfl rfl (pH aw _ au au)) rfl ?_;refine hq ((tS H g 2 w.aC).set k (some (.cells (Z2.cg (some g) w)))) (Y1 ?_);refine ag.exit ?_;exact N _ w wA (ku U b:)
   refine sk an (jM ?_);refine Gk 70 ?_;refine Gk 71 ?_;refine Y2 ?_;obtain⟨y,ay,b⟩:=aQ b;refine sH (bF rfl rfl (MT ay _ au au)) rfl ?_;refine hq ((tS H g 2 y.aC).set k (some (.cells (Z2.cg (some g) y)))) (Y3 ?_);refine aV az.c J fun a3=>Y3 ?_;obtain⟨W,aA,b⟩:=eB b
   refine bx (tl [0,3,4,6,7,11,19,20,21,76,77]) (fun(z:Nat×Z2)=>[(78,vi z.1)]) (fun z=>((tS H g 2 z.2.aC).set k (some (.cells (Z2.cg (some g) z.2))))) (fun z=>J.l.length-z.1) (fun z=>Option.bind (oq m q (J.l.drop z.1) z.2) W=some r) (0,y) b wA ?_;rintro ⟨X,C⟩ b a4 aB;try dsimp only at b
   refine Y3 ?_;refine ar fun a5 aD=>?_;refine ag.bW (fun l=>Option.bind (oq m q l C) W=some r) b rfl (fun a6 Y K b=>?_) (fun K b=>?_)
   ·rw [oq] at b;try dsimp only at K
    have a7:=oD K;refine sk aD (ar fun a8 aE=>Y2 ?_);obtain⟨a9,aF,b⟩:=vO Y b;refine S (ix az.c X aF) (Y4 ?_);refine bl 15 _ rfl (kl [0,3,4,6,7,11,19,20,21,76,77,78]) ?_;refine Y5 ?_;obtain⟨a_,aJ,b⟩:=dm b;refine Sc rfl rfl (Gy aJ) (Y7 ?_);refine bl 16 _ rfl (kl [0,3,4,6,7,11,17,19,20,21,76,77,78]) ?_;refine Y5 ?_;obtain⟨L,aK,b⟩:=aQ b
    refine sH (bF rfl rfl (pH aK _ au au)) rfl ?_;refine hq ((tS H g 2 L.aC).set k (some (.cells (Z2.cg (some g) L)))) (Y1 ?_);refine aE _ ?_;refine Y4 ?_;exact aB _ ((X+1),L) wA b (dl Y)
   rw [oq] at b;have b:=ku aA b;refine ag.exit ?_;exact N _ C wA (ku U b:)
  rintro I b;try dsimp only at b
  refine Y4 ?_;exact ad _ ((p+1),I) wA b (dl M)
 rw [mS] at b;have b:=ku ab b;refine ag.exit ?_;repeat (first|refine eS ?_|refine eR ?_|refine eP ?_)
 obtain rfl:=oJ b;refine bR.eX ((tS H g 2 s.aC).set k (some (.cells (Z2.cg (some g) s)))) (xs:=[]) rfl ⟨rfl,rfl⟩ ?_;exact(fun _ _ h=>h)
def GC (f:Bs) (b:Bs):Bool:=on (bif (decide (((b.length:Nat):Int)<=((f.length:Nat):Int))) then(List.take (b.length) f) else([]:Bs)) fun g=>((decide (((b.length:Nat):Int)<=((f.length:Nat):Int)))&&((g==b)))
theorem W2 {g f r}(b:some (GC g f)=some r) (H:ah) :At 210 [.d (.str g),.d (.str f)] H (RT (.a (.d (.bool r))) H):=by
 unfold GC at b;refine AC.oW 18 [.tmp 4] Tryz.call210 Tryz.func210 ?_;refine Y5 ?_;refine uo (TK rfl) rfl rfl rfl rfl fun k=>?_;refine Y1 ?_;refine uo (TK rfl) rfl rfl rfl rfl fun m=>?_;refine Y4 ?_;refine bE 12 rfl (fun hC=>Ao (TK rfl) rfl rfl rfl) ?_;obtain⟨p,j,b⟩:=lz (fun hc=>Q.PK (by simp at hc; omega)) b
 refine fc 11 13 rfl rfl (fun hC=>OD (l:=none) (r:=(some ((f.length:Nat):Int))) (TK rfl) rfl rfl trivial rfl (by simp) (j hC)) ?_;refine Y1 ?_;refine G2 14 15 rfl rfl BS ?_;refine Y3 ?_;exact rt b
def GD (g:Bs) (b:Bs):Bool:=on (GC g b) fun f=>f
theorem W3 {g f r}(b:some (GD g f)=some r) (H:ah) :At 173 [.d (.str g),.d (.str f)] H (RT (.a (.d (.bool r))) H):=by
 unfold GD at b;refine AC.oW 8 [.tmp 4] Tryz.call173 Tryz.func173 ?_;refine Y6 ?_;obtain⟨k,j,b⟩:=eL b;refine Sc rfl rfl (W2 j) (Y2 ?_);exact rt b
def sK (f:Bs):Bool:=on (GD f ([95,95]:Bs)) fun b=>b
def Ev (b:Bs):Option Bool:=some (sK b)
theorem Ew {f r}(b:Ev f=some r) (H:ah) :At 134 [.d (.str f)] H (RT (.a (.d (.bool r))) H):=by
 unfold Ev sK at b;refine AC.oW 5 [.tmp 2] Tryz.call134 Tryz.func134 ?_;refine Y5 ?_;obtain⟨j,g,b⟩:=eL b;refine Sc rfl rfl (W3 g) (Y2 ?_);exact rt b
def sI (g:an) (f:Bs) (j:Bs):Option (ax×Bool):=on (fC g f) fun k=>bif (!k) then(some ((ax.mk [] Sl.nil),false)) else(bif ((j==([95,95,116,121,112,101,110,97,109,101]:Bs))) then(on (ov ([83,116,114,105,110,103]:Bs)) fun l=>(ou l).bind fun m=>some (m,true)) else(on (cL g f) fun p=>on (kM p.1 j) fun b=>bif (!b.2) then(some ((ax.mk [] Sl.nil),false)) else((mN b.1.aM.av).bind fun q=>some ((ax.mk b.1.aM.aa q),true))))
def zN (f:an) (b:Bs) (g:Bs):Option (ax×Bool):=sI f b g
theorem L0 (a0:an) (b:Bs) (a2:Bs):zN a0 b a2=sI a0 b a2:=rfl
theorem CO {g f j r}(b:zN g f j=some r) (H:ah) :At 135 [.agg (an.c g),.d (.str f),.d (.str j)] H (RT (.b_ [.agg (ax.c r.1),.d (.bool r.2)]) H):=by
 unfold zN sI at b;refine AC.oW 44 [.cell 6 56,.tmp 7] Tryz.call135 Tryz.func135 ?_;refine Y5 ?_;refine ar fun B k=>Y3 ?_;obtain⟨C,l,b⟩:=dD b;refine Sc rfl rfl (me l) (Y2 ?_);refine cE b (fun m b=>?_) (fun m b=>?_)
 ·refine Y5 ?_;exact rt b
 refine sk k (ar fun E p=>Y4 ?_);refine cE b (fun q b=>?_) (fun q b=>?_)
 ·refine Y1 ?_;obtain⟨F,s,b⟩:=dD b;refine Sc rfl rfl (Gw s) ?_;obtain⟨G,t,b⟩:=bz b;refine Sc rfl rfl (Gv t) (Y3 ?_);exact rt b
 refine sk p (Y3 ?_);obtain⟨I,u,b⟩:=dD b;refine Sc rfl rfl (iM u) (Y7 ?_);refine bl 8 _ rfl (kl [2,6]) ?_;refine Y3 ?_;obtain⟨J,v,b⟩:=dD b;refine Sc rfl rfl (CD v) (Y7 ?_);refine bl 10 _ rfl (kl [6,11]) ?_;refine ar fun K w=>Y4 ?_;refine cE b (fun y b=>?_) (fun y b=>?_)
 ·refine Y5 ?_;exact rt b
 refine sk w (Y7 ?_);obtain⟨L,z,b⟩:=bz b;refine ck rfl rfl (Gu z) (Y4 ?_);exact rt b
def ow (j:Bs) (g:Bs) (k:Z2->(Sl ai)->Bs->Bs->Option Z2) (l:Z2->ai->Bs->Bs->Option Z2):List ai->Z2->Option (Z2)
 | [],f=>some f
 | m::p,f=>on (m) fun b=>Option.bind (bif (decide (b.aj=(2:Int))) then((mU f b (ax.mk [] Sl.nil) false g).bind fun q=>some q) else(bif (decide (b.aj=(3:Int))) then((mU f b (ax.mk [] Sl.nil) false g).bind fun r=>on (bif (!(b.b9==([]:Bs))) then(b.b9) else(j)) fun s=>(k r b.aK s g).bind fun t=>some t) else((l f b j g).bind fun u=>some u))) fun v=>ow j g k l (p) v
def ot (g:ai) (j:Bs):List az->Z2->Option (Z2)
 | [],b=>some b
 | k::l,b=>on (k) fun f=>on (lR g.aG f.aa) fun m=>on (ij f.aM) fun p=>(ir b ((p&&(!f.eC))&&(!m.2)) (22:Int) j).bind fun q=>ot g j (l) q
mutual
def jU:Nat->Z2->(Sl ai)->Bs->Bs->Option Z2
 | 0,_,_,_,_=>none
 | n+1,g,b,j,k=>Option.bind (ow j k (jU n) (mW n) b.l g) fun f=>some f
def mW:Nat->Z2->ai->Bs->Bs->Option Z2
 | 0,_,_,_,_=>none
 | n+1,H,b,m,I=>on (bif ((b.cq==([]:Bs))) then(b.aa) else(b.cq)) fun s=>(cC ([47]:Bs) s).bind fun t=>(cC I t).bind fun g=>on (sK b.cq) fun u=>(ir H u (6:Int) g).bind fun k=>(sI k.Fd m b.aa).bind fun f=>on (bif (!f.2) then fC k.Fd m else false) fun v=>(ir k ((!f.2)&&v) (20:Int) g).bind fun j=>Option.bind (bif f.2 then(on (qB j.Fd f.1.aa) fun p=>on (bif !(p&&(decide ((0:Int)<((b.aK.l.length:Nat):Int)))) then fC j.Fd f.1.aa else false) fun w=>(ir j ((p&&(decide ((0:Int)<((b.aK.l.length:Nat):Int))))||(w&&(decide (((b.aK.l.length:Nat):Int)=(0:Int))))) (21:Int) g).bind fun q=>on (cL q.Fd m) fun y=>on (bif (!(b.aa==([95,95,116,121,112,101,110,97,109,101]:Bs))) then(on (kM y.1 b.aa) fun z=>z.1) else((aT.mk [] Sl.nil ax.zero Sl.nil))) fun r=>(qy q r.aG b.aG false g).bind fun B=>Option.bind (ot b g r.aG.l B) fun C=>some C) else(some j)) fun E=>(mU E b f.1 f.2 g).bind fun F=>((jU n) F b.aK f.1.aa g).bind fun G=>some G
end
def CP (n:Nat):Prop:=∀{a0:Z2}{g:(Sl ai)}{a2:Bs}{a3:Bs}{j:Option Nat}{f:Nat}{b:Nat}{r:Z2},jU n a0 g a2 a3=some r->∀(H:ah) (k:H f=some (.cells (Z2.cg (some b) a0))) (m:H b=some (.tok 2 a0.aC.l.length)),At 46 [.d (.ptr f 0),.d (Sl.d 7 ai.c j g),.d (.str a2),.d (.str a3)] H (RT (.b_ []) (((tS H b 2 r.aC).set f (some (.cells (Z2.cg (some b) r))))))
def CQ (n:Nat):Prop:=∀{a0:Z2}{g:ai}{a2:Bs}{a3:Bs}  {f:Nat}{b:Nat}{r:Z2},mW n a0 g a2 a3=some r->∀(H:ah) (j:H f=some (.cells (Z2.cg (some b) a0))) (k:H b=some (.tok 2 a0.aC.l.length)),At 88 [.d (.ptr f 0),.agg (ai.c g),.d (.str a2),.d (.str a3)] H (RT (.b_ []) (((tS H b 2 r.aC).set f (some (.cells (Z2.cg (some b) r))))))
theorem W4 (n:Nat) (I:CP (ak:=ak) n) (J:CQ (ak:=ak) n):CP (ak:=ak) (n+1):=by
 intro C j m E ae g f r b H af aj;rw [jU] at b;refine AC.oW 51 [] Tryz.call46 Tryz.func46 ?_;have al:g≠f:=fun K=>by subst K; simp_all
 refine hz ((tS H f 2 C.aC).set g (some (.cells (Z2.cg (some f) C)))) (Y2 ?_);refine aV ai.c j fun am=>Y3 ?_;obtain⟨p,L,b⟩:=b5 b
 refine bx (tl [0,2,3,11,12]) (fun(z:Nat×Z2)=>[(13,vi z.1)]) (fun z=>((tS H f 2 z.2.aC).set g (some (.cells (Z2.cg (some f) z.2))))) (fun z=>j.l.length-z.1) (fun z=>Option.bind (ow m E (jU n) (mW n) (j.l.drop z.1) z.2) p=some r) (0,C) b wA ?_;rintro ⟨q,s⟩ b an M;try dsimp only at b
 refine Y3 ?_;refine ar fun ao N=>?_;refine ag.bW (fun l=>Option.bind (ow m E (jU n) (mW n) l s) p=some r) b rfl (fun ap F t b=>?_) (fun t b=>?_)
 ·rw [ow] at b;try dsimp only at t
  have av:=oD t;refine sk N (aN (tl [0,2,3,11,12,13]) (fun(z:Z2)=>[]) (fun z=>((tS H f 2 z.aC).set g (some (.cells (Z2.cg (some f) z))))) (fun z=>Option.bind (ow m E (jU n) (mW n) (j.l.drop (q+1)) z) p=some r) ?_ ?_)
  ·intro aw u;refine Y2 ?_;obtain⟨O,P,b⟩:=vO F b;refine S (ix ai.c q P) (Y4 ?_);refine bl 9 _ rfl (kl [0,2,3,11,12,13]) ?_;refine Y9 ?_;obtain⟨ax,v,b⟩:=eB b;refine cO b (fun Q b=>?_) (fun Q b=>?_)
   ·refine Y5 ?_;obtain⟨w,R,b⟩:=aQ b;refine sH (bF rfl rfl (GB R _ au au)) rfl ?_;refine hq ((tS H f 2 w.aC).set g (some (.cells (Z2.cg (some f) w)))) (Y1 ?_);exact u _ w wA (ku v b:)
   refine Y4 ?_;refine cO b (fun U b=>?_) (fun U b=>?_)
   ·refine Y5 ?_;obtain⟨k,W,b⟩:=aQ b;refine sH (bF rfl rfl (GB W _ au au)) rfl ?_;refine hq ((tS H f 2 k.aC).set g (some (.cells (Z2.cg (some f) k)))) (Y5 ?_);obtain⟨X,Y,b⟩:=gB b;refine aN (tl [0,2,3,9,11,12,13]) (fun(z:Bs)=>[(10,.a (.d (.str z)))]) (fun z=>((tS H f 2 k.aC).set g (some (.cells (Z2.cg (some f) k))))) (fun z=>X z=some r) ?_ ?_
    ·intro ay G;refine Y5 ?_;refine cP b (fun Z b=>?_) (fun Z b=>?_)
     ·refine Y5 ?_;exact G _ O.b9 wA b
     refine ag.skip ?_;exact G _ m wA b
    rintro az b;try dsimp only at b
    have b:=ku Y b;refine Y3 ?_;refine s0 (cA (TK rfl) rfl rfl (congrArg (fun x=>some (A.d x)) (ai.gD _))) rfl ?_;refine Y2 ?_;obtain⟨y,aa,b⟩:=aQ b;refine sH (bF rfl rfl (I aa _ au au)) rfl ?_;refine hq ((tS H f 2 y.aC).set g (some (.cells (Z2.cg (some f) y)))) (Y1 ?_);exact u _ y wA (ku v b:)
   refine Y5 ?_;obtain⟨B,ab,b⟩:=aQ b;refine sH (bF rfl rfl (J ab _ au au)) rfl ?_;refine hq ((tS H f 2 B.aC).set g (some (.cells (Z2.cg (some f) B)))) (Y1 ?_);exact u _ B wA (ku v b:)
  rintro ad b;try dsimp only at b
  refine Y4 ?_;exact M _ ((q+1),ad) wA b (dl F)
 rw [ow] at b;have b:=ku L b;refine ag.exit ?_;repeat (first|refine eS ?_|refine eR ?_|refine eP ?_)
 obtain rfl:=oJ b;refine bR.eX ((tS H f 2 s.aC).set g (some (.cells (Z2.cg (some f) s)))) (xs:=[]) rfl ⟨rfl,rfl⟩ ?_;exact(fun _ _ h=>h)
theorem W5 (n:Nat) (L:CP (ak:=ak) n) (aR:CQ (ak:=ak) n):CQ (ak:=ak) (n+1):=by
 intro p j bg bh  g f r b H aS aU;rw [mW] at b;refine AC.oW 163 [] Tryz.call88 Tryz.func88 ?_;have aW:g≠f:=fun M=>by subst M; simp_all
 refine hz ((tS H f 2 p.aC).set g (some (.cells (Z2.cg (some f) p)))) (Y8 ?_);obtain⟨N,O,b⟩:=b8 b;refine aN (tl [0,2,3,5]) (fun(z:Bs)=>[(8,.a (.d (.str z)))]) (fun z=>((tS H f 2 p.aC).set g (some (.cells (Z2.cg (some f) p))))) (fun z=>N z=some r) ?_ ?_
 ·intro aX w;refine Y4 ?_;refine cP b (fun P b=>?_) (fun P b=>?_)
  ·refine Y5 ?_;exact w _ j.aa wA b
  refine ag.skip ?_;exact w _ j.cq wA b
 rintro aY b;try dsimp only at b
 have b:=ku O b;refine Y3 ?_;obtain⟨aZ,Q,b⟩:=bz b;refine S (eN Q) ?_;obtain⟨y,R,b⟩:=bz b;refine S (eN R) (Y6 ?_);obtain⟨a0,U,b⟩:=dD b;refine Sc rfl rfl (Ew U) (Y1 ?_);obtain⟨B,W,b⟩:=bz b;refine sH (bF rfl rfl (pH W _ au au)) rfl ?_;refine hq ((tS H f 2 B.aC).set g (some (.cells (Z2.cg (some f) B)))) (Y9 ?_)
 obtain⟨a1,X,b⟩:=bz b;refine ck rfl rfl (CO X) (Y7 ?_);refine bl 9 _ rfl (kl [0,2,3,5,10]) ?_;refine Y6 ?_;refine Gk 50 ?_;refine bE 51 rfl (fun hC=>iJ (TK rfl) rfl rfl (TK rfl) rfl rfl) ?_;refine bE 52 rfl (fun hC=>iI (TK rfl) rfl rfl au rfl) ?_;refine Y1 ?_;obtain⟨a2,Y,b⟩:=jv (fun _=>rfl) b;refine fV 53 54 rfl rfl rfl rfl rfl rfl (fun hC=>me (Y hC)) ?_;refine Y2 ?_
 obtain⟨q,Z,b⟩:=bz b;refine sH (bF rfl rfl (pH Z _ au au)) rfl ?_;refine hq ((tS H f 2 q.aC).set g (some (.cells (Z2.cg (some f) q)))) (Y1 ?_);obtain⟨ab,ad,b⟩:=b5 b;refine aN (tl [0,3,5,9,10]) (fun(z:Z2)=>[]) (fun z=>((tS H f 2 z.aC).set g (some (.cells (Z2.cg (some f) z))))) (fun z=>ab z=some r) ?_ ?_
 ·intro a3 C;refine Y3 ?_;refine cO b (fun ae b=>?_) (fun ae b=>?_)
  ·refine Y7 ?_;obtain⟨a4,af,b⟩:=dm b;refine ck rfl rfl (MQ af) (Y7 ?_);refine fL 70 rfl (fun hC=>cA (TK rfl) rfl rfl (congrArg (fun x=>some (A.d x)) (ai.gD _))) ?_;refine fL 71 rfl (fun hC=>dW ai.c j.aK) ?_;refine cG 72 ?_;refine Y3 ?_;refine cG 76 ?_;refine fL 77 rfl (fun hC=>iJ (TK rfl) rfl rfl (TK rfl) rfl rfl) ?_
   refine fL 78 rfl (fun hC=>iI (TK rfl) rfl rfl au rfl) ?_;refine Y1 ?_;refine cG 80 ?_;obtain⟨a5,aj,b⟩:=fo (fun _=>rfl) b;refine nP 79 81 rfl rfl rfl rfl rfl rfl (fun hC=>me (aj hC)) ?_;refine cG 82 ?_;refine Y1 ?_;refine fL 84 rfl (fun hC=>cA (TK rfl) rfl rfl (congrArg (fun x=>some (A.d x)) (ai.gD _))) ?_;refine fL 85 rfl (fun hC=>dW ai.c j.aK) ?_;refine cG 86 ?_
   refine fL 83 rfl (fun hC=>f_ rfl rfl rfl) ?_;refine Y2 ?_;obtain⟨k,al,b⟩:=aQ b;refine aH.sH (bF rfl rfl (pH al _ au au)) rfl ?_;refine aH.Dh ((tS H f 2 k.aC).set g (some (.cells (Z2.cg (some f) k)))) ?_;refine Y7 ?_;obtain⟨a6,am,b⟩:=dm b;refine Sc rfl rfl (iM am) (Y7 ?_);refine bl 12 _ rfl (kl [0,3,5,9,10]) ?_;refine Y5 ?_
   obtain⟨an,ao,b⟩:=gB b;refine fh (tl [0,3,5,9,10,14]) (fun(z:aT)=>[]) (fun z=>[aT.c z]) (fun z=>((tS H f 2 k.aC).set g (some (.cells (Z2.cg (some f) k))))) (fun z=>an z=some r) ?_ ?_
   ·intro a7 E;refine Y5 ?_;refine cP b (fun ap b=>?_) (fun ap b=>?_)
    ·refine Y4 ?_;obtain⟨av,aw,b⟩:=eL b;refine Sc rfl rfl (CD aw) (Y5 ?_);exact E _ av.1 wA b
    refine ag.skip ?_;exact E _ (aT.mk [] Sl.nil ax.zero Sl.nil) wA b
   rintro s b;try dsimp only at b
   have b:=ku ao b;refine Y7 ?_;obtain⟨t,ay,b⟩:=aQ b;refine sH (bF rfl rfl (MT ay _ au au)) rfl ?_;refine hq ((tS H f 2 t.aC).set g (some (.cells (Z2.cg (some f) t)))) (Y4 ?_);refine aV az.c s.aG fun a8=>Y3 ?_;obtain⟨F,aA,b⟩:=eB b
   refine bx (tl [0,3,5,9,10,120,121]) (fun(z:Nat×Z2)=>[(122,vi z.1)]) (fun z=>((tS H f 2 z.2.aC).set g (some (.cells (Z2.cg (some f) z.2))))) (fun z=>s.aG.l.length-z.1) (fun z=>Option.bind (ot j y (s.aG.l.drop z.1) z.2) F=some r) (0,t) b wA ?_;rintro ⟨G,I⟩ b a9 aB;try dsimp only at b
   refine Y3 ?_;refine ar fun a_ aD=>?_;refine ag.bW (fun l=>Option.bind (ot j y l I) F=some r) b rfl (fun a' J u b=>?_) (fun u b=>?_)
   ·rw [ot] at b;try dsimp only at u
    have ba:=oD u;refine sk aD (ar fun bb aE=>Y2 ?_);obtain⟨bc,aF,b⟩:=vO J b;refine S (ix az.c G aF) (Y4 ?_);refine bl 16 _ rfl (kl [0,3,5,9,10,120,121,122]) ?_;refine Y5 ?_;obtain⟨bd,aJ,b⟩:=dm b;refine Sc rfl rfl (Gy aJ) (Y7 ?_);refine bl 17 _ rfl (kl [0,3,5,9,10,16,18,120,121,122]) ?_;refine Y4 ?_;obtain⟨be,aL,b⟩:=dm b
    refine Sc rfl rfl (pI aL) (Y2 ?_);refine Gk 139 ?_;refine Gk 140 ?_;refine Y3 ?_;refine Gk 144 ?_;refine Y2 ?_;obtain⟨v,aM,b⟩:=aQ b;refine sH (bF rfl rfl (pH aM _ au au)) rfl ?_;refine hq ((tS H f 2 v.aC).set g (some (.cells (Z2.cg (some f) v)))) (Y1 ?_);refine aE _ ?_;refine Y4 ?_;exact aB _ ((G+1),v) wA b (dl J)
   rw [ot] at b;have b:=ku aA b;refine ag.exit ?_;exact C _ I wA b
  refine ag.skip ?_;exact C _ q wA b
 rintro bf b;try dsimp only at b
 have b:=ku ad b;refine Y6 ?_;obtain⟨K,aO,b⟩:=bz b;refine sH (bF rfl rfl (GB aO _ au au)) rfl ?_;refine hq ((tS H f 2 K.aC).set g (some (.cells (Z2.cg (some f) K)))) (Y4 ?_);refine s0 (cA (TK rfl) rfl rfl (congrArg (fun x=>some (A.d x)) (ai.gD _))) rfl ?_;refine Y3 ?_;obtain⟨m,aP,b⟩:=bz b;refine sH (bF rfl rfl (L aP _ au au)) rfl ?_
 refine hq ((tS H f 2 m.aC).set g (some (.cells (Z2.cg (some f) m)))) (Y1 ?_);repeat (first|refine eS ?_|refine eR ?_|refine eP ?_)
 obtain rfl:=oJ b;refine bR.eX ((tS H f 2 m.aC).set g (some (.cells (Z2.cg (some f) m)))) (xs:=[]) rfl ⟨rfl,rfl⟩ ?_;exact(fun _ _ h=>h)
theorem zO:∀(n:Nat),(CP (ak:=ak) n)/\(CQ (ak:=ak) n)
 | 0=>⟨fun b=>by first|cases b|(rw [jU] at b; cases b),fun b=>by first|cases b|(rw [mW] at b; cases b)⟩
 | n+1=>⟨W4 n (zO n).1 (zO n).2,W5 n (zO n).1 (zO n).2⟩
def W6 (a0:Z2) (b:(Sl ai)) (a2:Bs) (a3:Bs):Option Z2:=jU F0 a0 b a2 a3
theorem MU {g j k m p f b r}(q:W6 g j k m=some r) (H:ah) (s:H f=some (.cells (Z2.cg (some b) g))) (t:H b=some (.tok 2 g.aC.l.length)):At 46 [.d (.ptr f 0),.d (Sl.d 7 ai.c p j),.d (.str k),.d (.str m)] H (RT (.b_ []) (((tS H b 2 r.aC).set f (some (.cells (Z2.cg (some b) r)))))):=(zO F0).1 q H s t
def E3 (f:Z2) (b:(Sl ai)) (g:Bs) (j:Bs):Option Z2:=jU F0 f b g j
def ox (k:an):List bJ->Z2->Option (Z2)
 | [],f=>some f
 | l::m,f=>on (l) fun b=>on (gE b.aj) fun g=>on (cL k g) fun j=>(yo f b.aK ([]:List Bs) ([]:List Bs)).bind fun p=>(ir f (((!j.2)||(!decide (j.1.aj=(1:Int))))||((decide (b.aj=(3:Int)))&&(!decide ((((bg p.1).length:Nat):Int)=(1:Int))))) (30:Int) b.aa).bind fun q=>(E3 q b.aK g b.aa).bind fun r=>ox k (m) r
def mY :List aY->Z2->Option (Z2)
 | [],b=>some b
 | g::j,b=>on (g) fun f=>(E3 b f.aK f.b9 f.aa).bind fun k=>mY  (j) k
def uX (f:an) (b:aR):Option (Sl Z9):=Option.bind (ox f b.bw.l (Z2.mk f b Sl.nil)) fun g=>on (g) fun j=>Option.bind (mY  b.aL.l j) fun k=>on (k) fun m=>some m.aC
def CR (f:an) (b:aR):Option (Sl Z9):=uX f b
theorem UP (a0:an) (b:aR):CR a0 b=uX a0 b:=rfl
theorem W7 {u:an}{k:aR}{r:Sl Z9}(b:CR u k=some r) (H:ah){f:Nat}(aP:H f=some (.tok 2 0)):At 19 [.agg (an.c u),.agg (aR.c k)] H (RT (.a (.d (Sl.d 2 Z9.c (some f) r))) (H.set f (some (.tok 2 r.l.length)))):=by
 unfold CR uX at b;refine AC.oW 92 [.tmp 4] Tryz.call19 Tryz.func19 ?_;refine hz (H.set f (some (.tok 2 0))) (Y9 ?_);refine sE (dA.rN rfl) rfl (fun _ _ _ ⟨g,N,v,y,B⟩=>?_);subst v y B;obtain⟨aS,N⟩:=ah.dP N;refine aI.lp g _ au (fun j w cs hh hx=>tok_cell 3 2 2 hh (t:=f) au hx rfl) ?_
 refine hq ((H.set f (some (.tok 2 0))).set g (some (.cells (Z2.cg (some f) (Z2.mk u k Sl.nil))))) (Y2 ?_);refine aN (tl [3,5]) (fun(z:Z2)=>[]) (fun z=>((tS H f 2 z.aC).set g (some (.cells (Z2.cg (some f) z))))) (fun z=>(Option.bind (mY  k.aL.l z) fun G=>on (G) fun O=>some O.aC)=some r) ?_ ?_
 ·intro aT aa;refine Y3 ?_;refine aV bJ.c k.bw fun aU=>Y3 ?_;obtain⟨P,ab,b⟩:=b5 b;refine bx (tl [2,3,5,20,21]) (fun(z:Nat×Z2)=>[(22,vi z.1)]) (fun z=>((tS H f 2 z.2.aC).set g (some (.cells (Z2.cg (some f) z.2))))) (fun z=>k.bw.l.length-z.1) (fun z=>Option.bind (ox u (k.bw.l.drop z.1) z.2) P=some r) (0,(Z2.mk u k Sl.nil)) b wA ?_;rintro ⟨Q,m⟩ b aW ad
  try dsimp only at b
  refine Y3 ?_;refine ar fun aX ae=>?_;refine ag.bW (fun l=>Option.bind (ox u l m) P=some r) b rfl (fun aZ R I b=>?_) (fun I b=>?_)
  ·rw [ox] at b;try dsimp only at I
   have a0:=oD I;refine sk ae (ar fun a1 af=>Y2 ?_);obtain⟨a2,ai,b⟩:=vO R b;refine S (ix bJ.c Q ai) (Y4 ?_);refine bl 7 _ rfl (kl [2,3,5,20,21,22]) ?_;refine Y3 ?_;obtain⟨a3,aj,b⟩:=dm b;refine Sc rfl rfl (zk aj) (Y5 ?_);obtain⟨a4,ak,b⟩:=dm b;refine Sc rfl rfl (iM ak) (Y7 ?_);refine bl 9 _ rfl (kl [2,3,5,7,8,10,20,21,22]) ?_;refine Y1 ?_
   refine sE dA.makeMap rfl (fun _ _ _ ⟨q,C,v,y,B⟩=>?_);subst v y B;obtain⟨al,C⟩:=ah.dP C;obtain⟨am,C⟩:=ah.dP C;refine hq (((tS H f 2 m.aC).set g (some (.cells (Z2.cg (some f) m)))).set q (some (.map (bg ([]:List Bs))))) (Y7 ?_)
   refine sE dA.makeMap rfl (fun _ _ _ ⟨E,p,v,y,B⟩=>?_);subst v y B;obtain⟨a5,p⟩:=ah.dP p;obtain⟨ao,p⟩:=ah.dP p;obtain⟨ap,p⟩:=ah.dP p
   refine hq ((((tS H f 2 m.aC).set g (some (.cells (Z2.cg (some f) m)))).set q (some (.map (bg ([]:List Bs))))).set E (some (.map (bg ([]:List Bs))))) ?_;obtain⟨s,av,b⟩:=aQ b;refine sH (bF rfl rfl (Wt av _ au au au (by assumption))) rfl ?_
   refine hq ((((tS H f 2 m.aC).set g (some (.cells (Z2.cg (some f) m)))).set q (some (.map (bg s.1)))).set E (some (.map (bg s.2)))) (Y6 ?_);refine Gk 45 ?_;refine Gk 46 ?_;refine Y8 ?_;refine Gk 52 ?_;refine Gk 53 ?_;refine Gk 54 ?_;refine Y1 ?_;refine bE 56 rfl (fun hC=>Oa (TK rfl) rfl rfl rfl au) ?_;refine Gk 57 ?_
   refine bE 55 rfl (fun hC=>f_ rfl rfl rfl) ?_;refine Y3 ?_;obtain⟨U,aw,b⟩:=aQ b;refine sH (bF rfl rfl (pH aw _ au au)) rfl ?_;refine hq ((((tS H f 2 U.aC).set g (some (.cells (Z2.cg (some f) U)))).set q (some (.map (bg s.1)))).set E (some (.map (bg s.2)))) (Y8 ?_);obtain⟨J,ax,b⟩:=aQ b
   refine sH (bF rfl rfl (MU ax _ au au)) rfl ?_;refine hq ((((tS H f 2 J.aC).set g (some (.cells (Z2.cg (some f) J)))).set q (some (.map (bg s.1)))).set E (some (.map (bg s.2)))) (Y1 ?_);refine af _ ?_;refine Y4 ?_
   exact ad _ ((Q+1),J) (cI.toFA (by(intro W a6 F); (have ay:W≠q:=fun K=>by rw [K] at F; simp [ah.set,C,am,al] at F); (have az:W≠E:=fun K=>by rw [K] at F; simp [ah.set,p,ap,ao] at F); (rw [<- F]); (simp only [ah.set,if_neg ay,if_neg az]); (first|done|rfl))) b (dl R)
  rw [ox] at b;have b:=ku ab b;refine ag.exit ?_;obtain⟨a7,aA,b⟩:=b8 b;exact aa _ m wA (ku aA b:)
 rintro aB b;try dsimp only at b
 refine aN (tl [5]) (fun(z:Z2)=>[]) (fun z=>((tS H f 2 z.aC).set g (some (.cells (Z2.cg (some f) z))))) (fun z=>(some z.aC)=some r) ?_ ?_
 ·intro a8 aD;refine Y3 ?_;refine aV aY.c k.aL fun a9=>Y3 ?_;obtain⟨X,aE,b⟩:=b5 b;refine bx (tl [5,73,74]) (fun(z:Nat×Z2)=>[(75,vi z.1)]) (fun z=>((tS H f 2 z.2.aC).set g (some (.cells (Z2.cg (some f) z.2))))) (fun z=>k.aL.l.length-z.1) (fun z=>Option.bind (mY  (k.aL.l.drop z.1) z.2) X=some r) (0,aB) b wA ?_;rintro ⟨Y,G⟩ b a_ aF
  try dsimp only at b
  refine Y3 ?_;refine ar fun a' aG=>?_;refine ag.bW (fun l=>Option.bind (mY  l G) X=some r) b rfl (fun ba Z L b=>?_) (fun L b=>?_)
  ·rw [mY] at b;try dsimp only at L
   have bb:=oD L;refine sk aG (ar fun bc aJ=>Y2 ?_);obtain⟨bd,aK,b⟩:=vO Z b;refine S (ix aY.c Y aK) (Y4 ?_);refine bl 14 _ rfl (kl [5,73,74,75]) ?_;refine Y8 ?_;obtain⟨M,aM,b⟩:=aQ b;refine sH (bF rfl rfl (MU aM _ au au)) rfl ?_;refine hq ((tS H f 2 M.aC).set g (some (.cells (Z2.cg (some f) M)))) (Y1 ?_);refine aJ _ ?_;refine Y4 ?_
   exact aF _ ((Y+1),M) wA b (dl Z)
  rw [mY] at b;have b:=ku aE b;refine ag.exit ?_;obtain⟨be,aO,b⟩:=b8 b;exact aD _ G wA (ku aO b:)
 rintro O b;try dsimp only at b
 refine Y7 ?_;exact rs b
-- @uses
theorem W8 {a0:an}{b:aR}(H:ah):At 47 [.agg (an.c a0),.agg (aR.c b)] H fun v h'=>∃k,H k=none/\v=.a (.d (.view (Z5.c k ⟨a0,b,()⟩)))/\h'=H.set k (some gN):=by
 refine AC.oW 10 [.tmp 4] Tryz.call47 Tryz.func47 ?_;refine Y8 ?_;refine sE dA.makeMap rfl (fun _ _ _ ⟨k,hk,f,g,j⟩=>?_);subst f g j;refine Y4 ?_;refine ag.PD k (ah.cM _ _ _) ?_;refine ag.ur (h':=H.set k (some gN)) (ah.set_set _ _ _ _) ?_;refine ry ?_;exact bR.cK (H.set k (some gN)) rfl ⟨k,hk,rfl,rfl⟩ (fun _ _ h=>h)
def q9 (b:Bs):List aY->Unit ⊕ ((Sl ai))
 | []=>Sum.inl ()
 | f::g=>on (f) fun j=>bif ((j.aa==b)) then(on (f) fun k=>Sum.inr k.aK) else(q9 b (g) )
def yV (j:Z5) (b:Bs):(Sl ai):=on (q9 b j.dK.aL.l ) fun f=>match f with|Sum.inl _=>(on (()) fun _=>(Sl.nil:Sl ai))|Sum.inr g=>(g)
theorem W9 {f g r}(b:some (yV f g)=some r) (H:ah) :At 175 [.d (.view ((Z5.c gK) f)),.d (.str g)] H (RT (.a (.d (Sl.d 7 ai.c none r))) H):=by
 unfold yV at b;refine AC.oW 36 [.tmp 4] Tryz.call175 Tryz.func175 ?_;refine Y1 ?_;refine s0 (dM (k':=7) rfl) rfl ?_;refine Y1 ?_;refine aN kN (fun(z:Unit)=>[]) (fun z=>H) (fun z=>some ((Sl.nil:Sl ai))=some r) ?_ ?_
 ·intro E s;refine Y2 ?_;refine s0 (cW rfl) rfl ?_;refine Y3 ?_;refine aV aY.c f.dK.aL fun F=>Y3 ?_;obtain⟨p,q,b⟩:=eH b;refine bx (tl [0,1,11]) (fun(z:Nat)=>[(12,vi z)]) (fun z=>H) (fun z=>f.dK.aL.l.length-z) (fun z=>p (q9 g (f.dK.aL.l.drop z) )=some r) 0 b wA ?_;rintro j b G t;try dsimp only at b
  refine Y3 ?_;refine ar fun I u=>?_;refine ag.bW (fun l=>p (q9 g l )=some r) b rfl (fun J k m b=>?_) (fun m b=>?_)
  ·rw [q9] at b;try dsimp only at m
   have K:=oD m;refine sk u (ar fun L v=>Y7 ?_);refine s0 (cW rfl) rfl ?_;refine Y4 ?_;obtain⟨M,w,b⟩:=vP k b;refine S (ix aY.c j w) (Y5 ?_);refine cP b (fun y b=>?_) (fun y b=>?_)
   ·refine Y2 ?_;refine s0 (cW rfl) rfl ?_;refine Y4 ?_;obtain⟨N,B,b⟩:=vP k b;refine S (ix aY.c j B) (Y4 ?_);exact rs (ku q b:)
   refine sk v (Y4 ?_);exact t _ (j+1) wA b (dl k)
  rw [q9] at b;have b:=ku q b;try dsimp only at b
  refine ag.exit ?_;obtain⟨O,C,b⟩:=eH b;exact s _ () wA (ku C b:)
 rintro _ b;try dsimp only at b
 refine Y1 ?_;refine s0 (dM (k':=7) rfl) rfl ?_;refine Y1 ?_;exact rt b
end Go.Proofs
