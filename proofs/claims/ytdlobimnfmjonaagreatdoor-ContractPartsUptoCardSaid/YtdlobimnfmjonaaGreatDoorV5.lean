import Derived.Test.YtdlobimnfmjonaaGreatDoorV4
set_option maxRecDepth 100000
set_option maxHeartbeats 2000000
set_option linter.unusedVariables false
set_option linter.unusedSimpArgs false
namespace Go.Proofs
open Go Go.Ab
open aK an ag dJ fN
attribute [local irreducible] aK aN ag an
variable {au:bS}
def jO (m:ah) (p:Z4) (q:ah->ah->Z4->(List Bs)->Option (Bool×(List Bs))):List Z7->(List Bs)->Option (((List Bs)) ⊕ ((Bool×(List Bs))))
 | [],b=>some (Sum.inl b)
 | r::s,b=>on (r) fun f=>aZ (!(!decide (((f.av.aH.l.length:Nat):Int)=(1:Int)))) (f.av.aH.l[0]?) (0:Int) fun t=>on (fun(u:(List Bs))=>jO m p q (s) u) fun j=>bif ((!decide (((f.av.aH.l.length:Nat):Int)=(1:Int)))||(!decide (t=(1:Int)))) then(j b) else(bif ((f.av.aa==m.aa)) then(some (Sum.inr (true,b))) else(on (fA p.Fd f.av.aa) fun g=>bif ((g.2&&(decide (g.1.ai=(5:Int))))&&(!(b.contains g.1.aa))) then((q g.1 m p (cD b g.1.aa)).bind fun k=>bif k.1 then(some (Sum.inr (true,k.2))) else(j k.2)) else(j b)))
def kS:Nat->ah->ah->Z4->(List Bs)->Option (Bool×(List Bs))
 | 0,_,_,_,_=>none
 | n+1,a0,k,m,p=>Option.bind (jO k m (kS n) a0.aF.l p) fun b=>match b with|Sum.inl f=>(on (f) fun g=>some (false,g))|Sum.inr j=>(some j)
def Ga (n:Nat):Prop:=∀{a0:ah}{a1:ah}{a2:Z4}{a3:(List Bs)}{f:Option Nat}{c2:Nat}{c3:Nat}{b:Nat}{r:(Bool×(List Bs))},kS n a0 a1 a2 a3=some r->∀(H:af) (g:H c2=some (.cells (Z4.cg f a2))) (j:H c3=some (.map (bR a3))) (k:H b=some (.cells [.func 152 [.view (ah.c a1),.view [.ptr c2 0],.view [.map c3],.ptr b 0]])),At 152 [.agg (ah.c a0),.d (.view (ah.c a1)),.d (.view [.ptr c2 0]),.d (.view [.map c3]),.d (.ptr b 0)] H (RT (.a (.d (.bool r.1))) ((H.set c3 (some (.map (bR r.2))))))
theorem Wx (n:Nat) (v:Ga (au:=au) n):Ga (au:=au) (n+1):=by
 intro a0 q s u X c2 c3 w r b H Y Z aa;rw [kS] at b;refine AC.oW 68 [.tmp 6] Tryz.call152 Tryz.func152 ?_;have ab:c3≠c2:=fun g=>by subst g; simp_all
 have ad:w≠c3:=fun g=>by subst g; simp_all
 refine hz (H.set c3 (some (.map (bR u)))) (Y4 ?_);refine aO kN (fun(z:(List Bs))=>[]) (fun z=>(H.set c3 (some (.map (bR z))))) (fun z=>(some (false,z))=some r) ?_ ?_
 ·intro ae y;refine Y3 ?_;refine aU Z7.c a0.aF fun ah=>Y3 ?_;obtain⟨j,k,b⟩:=bZ b;refine bz (tl [1,2,3,4,12,13]) (fun(z:Nat×(List Bs))=>[(14,vi z.1)]) (fun z=>(H.set c3 (some (.map (bR z.2))))) (fun z=>a0.aF.l.length-z.1) (fun z=>Option.bind (jO q s (kS n) (a0.aF.l.drop z.1) z.2) j=some r) (0,u) b wA ?_;rintro ⟨m,f⟩ b ai B;refine Y3 ?_
  refine ar fun aj C=>?_;refine ag.bJ (fun l=>Option.bind (jO q s (kS n) l f) j=some r) b rfl (fun ak t E b=>?_) (fun E b=>?_)
  ·rw [jO] at b;refine sk C (aO (tl [1,2,3,4,12,13,14]) (fun(z:(List Bs))=>[]) (fun z=>(H.set c3 (some (.map (bR z))))) (fun z=>Option.bind (jO q s (kS n) (a0.aF.l.drop (m+1)) z) j=some r) ?_ ?_)
   ·intro al p;refine Y2 ?_;obtain⟨F,G,b⟩:=vO t b;refine S (ix Z7.c m G) (Y4 ?_);refine bC 8 _ rfl (kl [1,2,3,4,12,13,14]) ?_;refine ar fun am I=>Y4 ?_;refine aU (bL .i64) F.av.aH fun ao=>Y3 ?_;refine Gk 24 ?_;refine Gk 25 ?_;obtain⟨ap,J,b⟩:=fz b;refine bI 26 rfl (fun hC=>ix (bL .i64) 0 (J hC)) ?_;refine Gk 27 ?_;refine Gk 28 ?_;refine Y2 ?_
    obtain⟨_,rfl,b⟩:=mO b;refine cO b (fun K b=>?_) (fun K b=>?_)
    ·refine ag.exit ?_;exact p _ f wA b
    refine sk I (ar fun aq L=>Y8 ?_);refine cO b (fun M b=>?_) (fun M b=>?_)
    ·refine Y3 ?_;exact rs (ku k b:)
    refine sk L (Y8 ?_);obtain⟨aw,N,b⟩:=eG b;refine cF rfl rfl (oP N) (Y7 ?_);refine bC 9 _ rfl (kl [1,2,3,4,10,12,13,14]) ?_;refine Y4 ?_;refine Gk 50 ?_;refine Gk 51 ?_;refine Y4 ?_;refine Gk 56 ?_;refine fJ 55 57 rfl rfl (fun hC=>uH (TK rfl) rfl (TK rfl) (TK rfl) rfl rfl rfl rfl az) ?_;refine Gk 58 ?_;refine Y2 ?_;refine cO b (fun O b=>?_) (fun O b=>?_)
    ·refine Y4 ?_;refine dB (mapUpdate (TK rfl) rfl (TK rfl) rfl rfl rfl rfl az (sn _ _) rfl) rfl rfl ?_;refine Y4 ?_;obtain⟨P,Q,b⟩:=aJ b;refine sH (bV rfl rfl (v Q _ az az az)) rfl ?_;refine Y1 ?_;refine cO b (fun R b=>?_) (fun R b=>?_)
     ·refine Y3 ?_;exact rs (ku k b:)
     refine ag.skip ?_;exact p _ P.2 wA b
    refine ag.skip ?_;exact p _ f wA b
   rintro U b;refine Y4 ?_;exact B _ ((m+1),U) wA b (dl t)
  rw [jO] at b;have b:=ku k b;refine ag.exit ?_;obtain⟨ax,W,b⟩:=bW b;exact y _ f wA (ku W b:)
 rintro ay b;refine Y3 ?_;exact rt b
theorem M7:∀(n:Nat),(Ga (au:=au) n)
 | 0=>fun b=>by first|cases b|(rw [kS] at b; cases b)
 | n+1=>Wx n (M7 n)
def Wy (a0:ah) (b:ah) (f:Z4) (g:(List Bs)):Option (Bool×(List Bs)):=kS F0 a0 b f g
theorem Wz {a0 f g j k c2 c3 b r}(l:Wy a0 f g j=some r) (H:af) (m:H c2=some (.cells (Z4.cg k g))) (p:H c3=some (.map (bR j))) (q:H b=some (.cells [.func 152 [.view (ah.c f),.view [.ptr c2 0],.view [.map c3],.ptr b 0]])):At 152 [.agg (ah.c a0),.d (.view (ah.c f)),.d (.view [.ptr c2 0]),.d (.view [.map c3]),.d (.ptr b 0)] H (RT (.a (.d (.bool r.1))) ((H.set c3 (some (.map (bR r.2)))))):=(M7 F0) l H m p q
def Ex (a0:ah) (b:ah) (f:Z4) (g:(List Bs)):Option (Bool×(List Bs)):=kS F0 a0 b f g
def tr (a0:Z4) (b:ah):Option Bool:=(Ex b b a0 ([]:List Bs)).bind fun f=>some f.1
theorem WA {a0 j s c0 r}(g:tr a0 j=some r) (H:af) (b7:H c0=some (.cells (Z4.cg s a0))):At 124 [.d (.ptr c0 0),.agg (ah.c j)] H (RT (.a (.d (.bool r))) H):=by
 unfold tr at g;refine AC.oW 12 [.tmp 4] Tryz.call124 Tryz.func124 ?_;refine Y6 ?_;refine sE dm.makeMap rfl (fun _ _ _ ⟨b,v,k,l,m⟩=>?_);subst k l m;have w:b≠c0:=fun p=>by subst p; simp_all
 refine Y3 ?_;refine bC 5 _ rfl (kl [2,3]) ?_;refine Y1 ?_;refine sE (dm.AR (TK rfl) rfl) rfl (fun _ _ _ ⟨f,q,k,l,m⟩=>?_);subst k l m;obtain⟨y,q⟩:=af.eA q;have z:f≠c0:=fun p=>by subst p; simp_all
 refine Y2 ?_;refine s0 (makeFunc rfl) rfl ?_;refine dB (gw (TK rfl) rfl rfl az rfl (by repeat (first|exact bE.zero|apply bE.succ))) rfl rfl ?_;refine hq ((H.set b (some (.map (bR ([]:List Bs))))).set f (some (.cells [.func 152 [.view (ah.c j),.view [.ptr c0 0],.view [.map b],.ptr f 0]]))) (Y4 ?_);obtain⟨t,u,g⟩:=aX g
 refine sH (bV rfl rfl (Wz u _ az az az)) rfl ?_;refine hq ((H.set b (some (.map (bR t.2)))).set f (some (.cells [.func 152 [.view (ah.c j),.view [.ptr c0 0],.view [.map b],.ptr f 0]]))) (Y2 ?_);refine ag.ret ?_;repeat (first|refine yJ ?_|refine yK ?_)
 obtain rfl:=oJ g;refine bU.cH H rfl ⟨rfl,rfl⟩ ?_;exact sy
def tt (a0:Z4) (b:Bs) (g:Bs) (j:(List Bs)):Option (Z4×(List Bs)):=(u0 b).bind fun f=>on (bif !(!f) then kg b else false) fun x3=>(fU a0 ((!f)||x3) (6:Int) g).bind fun k=>(fU k (j.contains b) (7:Int) g).bind fun l=>some (l,(cD j b))
theorem M8 {a0 m p j c0 b c3 r}(f:tt a0 m p j=some r) (H:af) (b7:H c0=some (.cells (Z4.cg (some b) a0))) (v:H b=some (.tok 2 a0.bK.l.length)) (w:H c3=some (.map (bR j))):At 153 [.d (.ptr c0 0),.d (.str m),.d (.str p),.d (.map c3)] H (RT (.cL []) ((((tS H b 2 r.1.bK).set c0 (some (.cells (Z4.cg (some b) r.1)))).set c3 (some (.map (bR r.2)))))):=by
 unfold tt at f;refine AC.oW 26 [] Tryz.call153 Tryz.func153 ?_;have y:c0≠b:=fun g=>by subst g; simp_all
 have z:c3≠b:=fun g=>by subst g; simp_all
 have B:c3≠c0:=fun g=>by subst g; simp_all
 refine hz (((tS H b 2 a0.bK).set c0 (some (.cells (Z4.cg (some b) a0)))).set c3 (some (.map (bR j)))) (Y3 ?_);obtain⟨C,q,f⟩:=aX f;refine Sc rfl rfl (F9 q) (Y3 ?_);obtain⟨x3,s,f⟩:=nO (fun _=>rfl) f;refine dP 13 rfl rfl rfl rfl rfl (fun hC=>F_ (s hC)) ?_;refine Y2 ?_;obtain⟨E,t,f⟩:=aX f;refine sH (bV rfl rfl (mg t _ az az)) rfl ?_;refine Y5 ?_
 refine s0 (uH (TK rfl) rfl (TK rfl) (TK rfl) rfl rfl rfl rfl az) rfl ?_;refine Y1 ?_;obtain⟨k,u,f⟩:=aX f;refine sH (bV rfl rfl (mg u _ az az)) rfl ?_;refine Y4 ?_;refine dB (mapUpdate (TK rfl) rfl (TK rfl) rfl rfl rfl rfl az (sn _ _) rfl) rfl rfl ?_
 refine hq (((tS H b 2 k.bK).set c0 (some (.cells (Z4.cg (some b) k)))).set c3 (some (.map (bR (cD j m))))) (Y1 ?_);repeat (first|refine fQ ?_|refine fP ?_|refine fO ?_)
 obtain rfl:=oJ f;refine bU.gj (((tS H b 2 k.bK).set c0 (some (.cells (Z4.cg (some b) k)))).set c3 (some (.map (bR (cD j m))))) (xs:=[]) rfl ⟨rfl,rfl⟩ ?_;exact(fun _ _ h=>h)
def pR (a0:ak) (b:Bs):Int:=on (fA a0 b) fun x3=>x3.1.ai
theorem Gb {a0 f r}(b:some (pR a0 f)=some r) (H:af) :At 161 [.agg (ak.c a0),.d (.str f)] H (RT (.a (.d (.int .i64 r))) H):=by
 unfold pR at b;refine AC.oW 15 [.tmp 4] Tryz.call161 Tryz.func161 ?_;refine Y7 ?_;obtain⟨x3,g,b⟩:=ff b;refine Sc rfl rfl (oP g) (Y7 ?_);refine bC 5 _ rfl dJ.nil ?_;refine Y5 ?_;exact rt b
def qU (a0:ak) (b:Bs):Bool:=on (cV b) fun x3=>on (bif !x3 then pR a0 b else(0:Int)) fun f=>(x3||(decide (f=(4:Int))))
theorem WB {a0 f r}(b:some (qU a0 f)=some r) (H:af) :At 160 [.agg (ak.c a0),.d (.str f)] H (RT (.a (.d (.bool r))) H):=by
 unfold qU at b;refine AC.oW 13 [.tmp 4] Tryz.call160 Tryz.func160 ?_;refine Y6 ?_;obtain⟨x3,g,b⟩:=ff b;refine Sc rfl rfl (vE g) (Y3 ?_);obtain⟨k,j,b⟩:=iX (fun _=>rfl) b;refine fS 8 9 rfl rfl rfl rfl rfl rfl (fun hC=>Gb (j hC)) ?_;refine Gk 10 ?_;refine Y3 ?_;exact rt b
def ja (a0:ak) (b:Bs):Bool:=on (qU a0 b) fun x3=>on (bif !x3 then pR a0 b else(0:Int)) fun f=>(x3||(decide (f=(5:Int))))
theorem Gc {a0 f r}(b:some (ja a0 f)=some r) (H:af) :At 130 [.agg (ak.c a0),.d (.str f)] H (RT (.a (.d (.bool r))) H):=by
 unfold ja at b;refine AC.oW 14 [.tmp 4] Tryz.call130 Tryz.func130 ?_;refine Y7 ?_;obtain⟨x3,g,b⟩:=ff b;refine Sc rfl rfl (WB g) (Y3 ?_);obtain⟨k,j,b⟩:=iX (fun _=>rfl) b;refine fS 9 10 rfl rfl rfl rfl rfl rfl (fun hC=>Gb (j hC)) ?_;refine Gk 11 ?_;refine Y3 ?_;exact rt b
def tu (a0:Z4) (b:Bs) (f:Bs) (s:Int):Option Z4:=on (fA a0.Fd b) fun g=>on (bif (!g.2) then cV b else false) fun k=>bif ((!g.2)&&(!k)) then((fU a0 true (8:Int) f).bind fun l=>some l) else(bif (decide (s=(0:Int))) then(on (cV b) fun j=>on (bif (!j) then pR a0.Fd b else(0:Int)) fun m=>(fU a0 ((!j)&&(decide (m=(5:Int)))) (10:Int) f).bind fun p=>some p) else(on (ja a0.Fd b) fun q=>(fU a0 (!q) (10:Int) f).bind fun r=>some r))
theorem M9 {a0 m p q c0 f r}(b:tu a0 m p q=some r) (H:af) (b7:H c0=some (.cells (Z4.cg (some f) a0))) (G:H f=some (.tok 2 a0.bK.l.length)):At 154 [.d (.ptr c0 0),.d (.str m),.d (.str p),.d (.int .i64 q)] H (RT (.cL []) (((tS H f 2 r.bK).set c0 (some (.cells (Z4.cg (some f) r)))))):=by
 unfold tu at b;refine AC.oW 58 [] Tryz.call154 Tryz.func154 ?_;have I:c0≠f:=fun s=>by subst s; simp_all
 refine hz ((tS H f 2 a0.bK).set c0 (some (.cells (Z4.cg (some f) a0)))) (Y6 ?_);obtain⟨J,t,b⟩:=dQ b;refine Sc rfl rfl (oP t) (Y7 ?_);refine bC 8 _ rfl (kl [0,1,2,3,9]) ?_;refine Y6 ?_;obtain⟨K,u,b⟩:=nO (fun _=>rfl) b;refine dP 33 rfl rfl rfl rfl rfl (fun hC=>vE (u hC)) ?_;refine Gk 34 ?_;refine Y3 ?_;refine cE b (fun v b=>?_) (fun v b=>?_)
 ·refine Y3 ?_;obtain⟨g,w,b⟩:=aX b;refine sH (bV rfl rfl (mg w _ az az)) rfl ?_;refine hq ((tS H f 2 g.bK).set c0 (some (.cells (Z4.cg (some f) g)))) (Y1 ?_);repeat (first|refine fQ ?_|refine fP ?_|refine fO ?_)
  obtain rfl:=oJ b;refine bU.gj ((tS H f 2 g.bK).set c0 (some (.cells (Z4.cg (some f) g)))) (xs:=[]) rfl ⟨rfl,rfl⟩ ?_;exact(fun _ _ h=>h)
 refine Y5 ?_;refine cE b (fun y b=>?_) (fun y b=>?_)
 ·refine Y3 ?_;obtain⟨L,z,b⟩:=dQ b;refine Sc rfl rfl (vE z) (Y3 ?_);refine Gk 48 ?_;refine bI 49 rfl (fun hC=>iK (TK rfl) rfl rfl (TK rfl) rfl rfl) ?_;refine bI 50 rfl (fun hC=>eD (TK rfl) rfl rfl az rfl) ?_;refine Y1 ?_;obtain⟨M,B,b⟩:=nO (fun _=>rfl) b;refine fS 51 52 rfl rfl rfl rfl rfl rfl (fun hC=>Gb (B hC)) ?_;refine Gk 53 ?_;refine Y2 ?_;obtain⟨j,C,b⟩:=aX b
  refine sH (bV rfl rfl (mg C _ az az)) rfl ?_;refine hq ((tS H f 2 j.bK).set c0 (some (.cells (Z4.cg (some f) j)))) (Y1 ?_);repeat (first|refine fQ ?_|refine fP ?_|refine fO ?_)
  obtain rfl:=oJ b;refine bU.gj ((tS H f 2 j.bK).set c0 (some (.cells (Z4.cg (some f) j)))) (xs:=[]) rfl ⟨rfl,rfl⟩ ?_;exact(fun _ _ h=>h)
 refine Y7 ?_;obtain⟨N,E,b⟩:=dQ b;refine Sc rfl rfl (Gc E) (Y2 ?_);obtain⟨k,F,b⟩:=aX b;refine sH (bV rfl rfl (mg F _ az az)) rfl ?_;refine hq ((tS H f 2 k.bK).set c0 (some (.cells (Z4.cg (some f) k)))) (Y1 ?_);repeat (first|refine fQ ?_|refine fP ?_|refine fO ?_)
 obtain rfl:=oJ b;refine bU.gj ((tS H f 2 k.bK).set c0 (some (.cells (Z4.cg (some f) k)))) (xs:=[]) rfl ⟨rfl,rfl⟩ ?_;exact(fun _ _ h=>h)
def oa (l:Bs) (m:Bs):List Z7->Z4->(List Bs)->Option (Z4)
 | [],b,g=>some b
 | p::q,b,g=>on (p) fun f=>(a_ l f.aa).bind fun r=>(a_ r m).bind fun j=>(tt b f.aa j g).bind fun k=>(tu k.1 f.av.aa j (1:Int)).bind fun s=>oa l m (q) s k.2
def pQ (a0:Z4) (f:(Sl Z7)) (g:Bs) (j:Bs):Option Z4:=Option.bind (oa g j f.l a0 ([]:List Bs)) fun b=>some b
theorem M_ {a0 g k m u c0 f r}(b:pQ a0 g k m=some r) (H:af) (b7:H c0=some (.cells (Z4.cg (some f) a0))) (U:H f=some (.tok 2 a0.bK.l.length)):At 127 [.d (.ptr c0 0),.d (Sl.d 10 Z7.c u g),.d (.str k),.d (.str m)] H (RT (.cL []) (((tS H f 2 r.bK).set c0 (some (.cells (Z4.cg (some f) r)))))):=by
 unfold pQ at b;refine AC.oW 38 [] Tryz.call127 Tryz.func127 ?_;have W:c0≠f:=fun v=>by subst v; simp_all
 refine hz ((tS H f 2 a0.bK).set c0 (some (.cells (Z4.cg (some f) a0)))) (Y1 ?_);refine sE dm.makeMap rfl (fun _ _ _ ⟨w,j,y,B,C⟩=>?_);subst y B C;obtain⟨X,j⟩:=af.eA j;obtain⟨Y,j⟩:=af.eA j;refine Y4 ?_;refine aU Z7.c g fun Z=>Y3 ?_;obtain⟨q,E,b⟩:=bZ b
 refine bz (tl [0,2,3,8,13,14]) (fun(z:Nat×Z4×(List Bs))=>[(15,vi z.1)]) (fun z=>(((tS H f 2 z.2.1.bK).set c0 (some (.cells (Z4.cg (some f) z.2.1)))).set w (some (.map (bR z.2.2))))) (fun z=>g.l.length-z.1) (fun z=>Option.bind (oa k m (g.l.drop z.1) z.2.1 z.2.2) q=some r) (0,a0,([]:List Bs)) b wA ?_;rintro ⟨s,p,F⟩ b aa G;refine Y3 ?_;refine ar fun ab I=>?_
 refine ag.bJ (fun l=>Option.bind (oa k m l p F) q=some r) b rfl (fun ad t J b=>?_) (fun J b=>?_)
 ·rw [oa] at b;refine sk I (ar fun ae K=>Y2 ?_);obtain⟨ah,L,b⟩:=vO t b;refine S (ix Z7.c s L) (Y4 ?_);refine bC 10 _ rfl (kl [0,2,3,8,13,14,15]) ?_;refine Y4 ?_;obtain⟨ai,M,b⟩:=aJ b;refine S (bX M) (Y1 ?_);obtain⟨aj,N,b⟩:=aJ b;refine S (bX N) (Y8 ?_);obtain⟨O,P,b⟩:=aJ b;refine sH (bV rfl rfl (M8 P _ az az az)) rfl ?_;refine Y7 ?_
  obtain⟨Q,R,b⟩:=aJ b;refine sH (bV rfl rfl (M9 R _ az az)) rfl ?_;refine Y1 ?_;refine K _ ?_;refine Y4 ?_;exact G _ ((s+1),Q,O.2) wA b (dl t)
 rw [oa] at b;have b:=ku E b;refine ag.exit ?_;repeat (first|refine fQ ?_|refine fP ?_|refine fO ?_)
 obtain rfl:=oJ b;refine bU.gj ((tS H f 2 p.bK).set c0 (some (.cells (Z4.cg (some f) p)))) (xs:=[]) rfl ⟨rfl,rfl⟩ ?_;exact sy
def oc (l:ah):List Z6->Z4->(List Bs)->Option (Z4)
 | [],f,j=>some f
 | m::p,f,j=>on (m) fun b=>(a_ l.aa ([46]:Bs)).bind fun q=>(a_ q b.aa).bind fun g=>(tt f b.aa g j).bind fun k=>(tu k.1 b.av.aa g (0:Int)).bind fun r=>(a_ g ([40]:Bs)).bind fun s=>(pQ r b.ay s ([41]:Bs)).bind fun t=>oc l (p) t k.2
def u4 (a0:Z4) (b:ah):Option Z4:=Option.bind (oc b b.aq.l a0 ([]:List Bs)) fun f=>some f
theorem WC {a0 g c0 f r}(b:u4 a0 g=some r) (H:af) (b7:H c0=some (.cells (Z4.cg (some f) a0))) (R:H f=some (.tok 2 a0.bK.l.length)):At 125 [.d (.ptr c0 0),.agg (ah.c g)] H (RT (.cL []) (((tS H f 2 r.bK).set c0 (some (.cells (Z4.cg (some f) r)))))):=by
 unfold u4 at b;refine AC.oW 41 [] Tryz.call125 Tryz.func125 ?_;have U:c0≠f:=fun s=>by subst s; simp_all
 refine hz ((tS H f 2 a0.bK).set c0 (some (.cells (Z4.cg (some f) a0)))) (Y4 ?_);refine sE dm.makeMap rfl (fun _ _ _ ⟨t,j,u,v,w⟩=>?_);subst u v w;obtain⟨W,j⟩:=af.eA j;obtain⟨X,j⟩:=af.eA j;refine Y5 ?_;refine aU Z6.c g.aq fun Y=>Y3 ?_;obtain⟨m,y,b⟩:=bZ b
 refine bz (tl [0,3,4,10,11]) (fun(z:Nat×Z4×(List Bs))=>[(12,vi z.1)]) (fun z=>(((tS H f 2 z.2.1.bK).set c0 (some (.cells (Z4.cg (some f) z.2.1)))).set t (some (.map (bR z.2.2))))) (fun z=>g.aq.l.length-z.1) (fun z=>Option.bind (oc g (g.aq.l.drop z.1) z.2.1 z.2.2) m=some r) (0,a0,([]:List Bs)) b wA ?_;rintro ⟨p,k,B⟩ b Z C;refine Y3 ?_
 refine ar fun aa E=>?_;refine ag.bJ (fun l=>Option.bind (oc g l k B) m=some r) b rfl (fun ab q F b=>?_) (fun F b=>?_)
 ·rw [oc] at b;refine sk E (ar fun ad G=>Y2 ?_);obtain⟨ae,I,b⟩:=vO q b;refine S (ix Z6.c p I) (Y4 ?_);refine bC 6 _ rfl (kl [0,3,4,10,11,12]) ?_;refine Y3 ?_;obtain⟨ai,J,b⟩:=aJ b;refine S (bX J) (Y2 ?_);obtain⟨aj,K,b⟩:=aJ b;refine S (bX K) (Y8 ?_);obtain⟨L,M,b⟩:=aJ b;refine sH (bV rfl rfl (M8 M _ az az az)) rfl ?_;refine Y7 ?_
  obtain⟨ak,N,b⟩:=aJ b;refine sH (bV rfl rfl (M9 N _ az az)) rfl ?_;refine Y6 ?_;obtain⟨al,O,b⟩:=aJ b;refine S (bX O) ?_;obtain⟨P,Q,b⟩:=aJ b;refine sH (bV rfl rfl (M_ Q _ az az)) rfl ?_;refine Y1 ?_;refine G _ ?_;refine Y4 ?_;exact C _ ((p+1),P,L.2) wA b (dl q)
 rw [oc] at b;have b:=ku y b;refine ag.exit ?_;repeat (first|refine fQ ?_|refine fP ?_|refine fO ?_)
 obtain rfl:=oJ b;refine bU.gj ((tS H f 2 k.bK).set c0 (some (.cells (Z4.cg (some f) k)))) (xs:=[]) rfl ⟨rfl,rfl⟩ ?_;exact sy
def mK (l:ah):List Z8->Z4->(List Bs)->Option (Z4)
 | [],f,g=>some f
 | m::p,f,g=>on (m) fun b=>(a_ l.aa ([46]:Bs)).bind fun q=>(a_ q b.aa).bind fun j=>aZ (!((((b.aa==([116,114,117,101]:Bs)))||((b.aa==([102,97,108,115,101]:Bs))))||((b.aa==([110,117,108,108]:Bs))))) (u0 b.aa) false fun k=>on (bif !(((((b.aa==([116,114,117,101]:Bs)))||((b.aa==([102,97,108,115,101]:Bs))))||((b.aa==([110,117,108,108]:Bs))))||(!k)) then kg b.aa else false) fun r=>(fU f ((((((b.aa==([116,114,117,101]:Bs)))||((b.aa==([102,97,108,115,101]:Bs))))||((b.aa==([110,117,108,108]:Bs))))||(!k))||r) (6:Int) j).bind fun s=>(fU s (g.contains b.aa) (7:Int) j).bind fun t=>mK l (p) t (cD g b.aa)
def u6 (a0:Z4) (b:ah):Option Z4:=Option.bind (mK b b.ax.l a0 ([]:List Bs)) fun f=>some f
theorem WD {a0 g c0 f r}(b:u6 a0 g=some r) (H:af) (b7:H c0=some (.cells (Z4.cg (some f) a0))) (R:H f=some (.tok 2 a0.bK.l.length)):At 126 [.d (.ptr c0 0),.agg (ah.c g)] H (RT (.cL []) (((tS H f 2 r.bK).set c0 (some (.cells (Z4.cg (some f) r)))))):=by
 unfold u6 at b;refine AC.oW 62 [] Tryz.call126 Tryz.func126 ?_;have U:c0≠f:=fun t=>by subst t; simp_all
 refine hz ((tS H f 2 a0.bK).set c0 (some (.cells (Z4.cg (some f) a0)))) (Y4 ?_);refine sE dm.makeMap rfl (fun _ _ _ ⟨u,j,v,w,y⟩=>?_);subst v w y;obtain⟨W,j⟩:=af.eA j;obtain⟨X,j⟩:=af.eA j;refine Y5 ?_;refine aU Z8.c g.ax fun Y=>Y3 ?_;obtain⟨m,B,b⟩:=bZ b
 refine bz (tl [0,3,4,11,12]) (fun(z:Nat×Z4×(List Bs))=>[(13,vi z.1)]) (fun z=>(((tS H f 2 z.2.1.bK).set c0 (some (.cells (Z4.cg (some f) z.2.1)))).set u (some (.map (bR z.2.2))))) (fun z=>g.ax.l.length-z.1) (fun z=>Option.bind (mK g (g.ax.l.drop z.1) z.2.1 z.2.2) m=some r) (0,a0,([]:List Bs)) b wA ?_;rintro ⟨p,k,q⟩ b Z C;refine Y3 ?_
 refine ar fun ab E=>?_;refine ag.bJ (fun l=>Option.bind (mK g l k q) m=some r) b rfl (fun ad s F b=>?_) (fun F b=>?_)
 ·rw [mK] at b;refine sk E (ar fun ae G=>Y2 ?_);obtain⟨I,J,b⟩:=vO s b;refine S (ix Z8.c p J) (Y4 ?_);refine bC 6 _ rfl (kl [0,3,4,11,12,13]) ?_;refine Y3 ?_;obtain⟨ai,K,b⟩:=aJ b;refine S (bX K) (Y2 ?_);obtain⟨aj,L,b⟩:=aJ b;refine S (bX L) (Y8 ?_);refine Gk 27 ?_;refine Gk 28 ?_;refine Y3 ?_;refine Gk 32 ?_;refine Gk 33 ?_;refine Y8 ?_;refine Gk 39 ?_
  obtain⟨ak,M,b⟩:=fz b;refine dP 40 rfl rfl rfl rfl rfl (fun hC=>F9 (M hC)) ?_;refine Gk 41 ?_;refine Y3 ?_;refine Gk 45 ?_;obtain⟨al,N,b⟩:=ee (fun _=>rfl) b;refine dP 46 rfl rfl rfl rfl rfl (fun hC=>F_ (N hC)) ?_;refine Y2 ?_;obtain⟨am,O,b⟩:=aJ b;refine sH (bV rfl rfl (mg O _ az az)) rfl ?_;refine Y6 ?_
  refine s0 (uH (TK rfl) rfl (TK rfl) (TK rfl) rfl rfl rfl rfl az) rfl ?_;refine Y1 ?_;obtain⟨P,Q,b⟩:=aJ b;refine sH (bV rfl rfl (mg Q _ az az)) rfl ?_;refine Y5 ?_;refine dB (mapUpdate (TK rfl) rfl (TK rfl) rfl rfl rfl rfl az (sn _ _) rfl) rfl rfl ?_;refine Y1 ?_;refine G _ ?_;refine Y4 ?_;exact C _ ((p+1),P,(cD q I.aa)) wA b (dl s)
 rw [mK] at b;have b:=ku B b;refine ag.exit ?_;repeat (first|refine fQ ?_|refine fP ?_|refine fO ?_)
 obtain rfl:=oJ b;refine bU.gj ((tS H f 2 k.bK).set c0 (some (.cells (Z4.cg (some f) k)))) (xs:=[]) rfl ⟨rfl,rfl⟩ ?_;exact sy
def u3 (a0:Z4) (E:Int) (f:(List Bs)):Option (Z4×(List Bs)):=(c_ a0.Fd.aj.l E).bind fun b=>(u0 b.aa).bind fun j=>on (bif !(!j) then kg b.aa else false) fun x5=>(fU a0 ((!j)||x5) (6:Int) b.aa).bind fun m=>on (bif !(f.contains b.aa) then cV b.aa else false) fun p=>(fU m ((f.contains b.aa)||p) (7:Int) b.aa).bind fun q=>on (bif (decide (b.ai=(1:Int))) then((decide (b.ai=(1:Int)))) else((decide (b.ai=(2:Int))))) fun r=>on (bif r then((decide (((b.aq.l.length:Nat):Int)=(0:Int)))) else(on (bif (decide (b.ai=(3:Int))) then((decide (b.ai=(3:Int)))) else((decide (b.ai=(4:Int))))) fun s=>bif s then((decide (((b.ax.l.length:Nat):Int)=(0:Int)))) else(bif (decide (b.ai=(5:Int))) then((decide (((b.aF.l.length:Nat):Int)=(0:Int)))) else(false)))) fun t=>(fU q t (8:Int) b.aa).bind fun u=>(fU u (((((((b.aa==([81,117,101,114,121]:Bs)))||((b.aa==([77,117,116,97,116,105,111,110]:Bs))))||((b.aa==([83,117,98,115,99,114,105,112,116,105,111,110]:Bs))))&&(!decide (b.ai=(1:Int))))||(decide (b.ai<(1:Int))))||(decide ((5:Int)<b.ai))) (9:Int) b.aa).bind fun k=>aZ ((decide (b.ai=(5:Int)))) (tr k b) false fun v=>(fU k ((decide (b.ai=(5:Int)))&&v) (5:Int) b.aa).bind fun g=>on (bif (decide (b.ai=(1:Int))) then((decide (b.ai=(1:Int)))) else((decide (b.ai=(2:Int))))) fun w=>bif w then((u4 g b).bind fun y=>some (y,(cD f b.aa))) else(bif (decide (b.ai=(4:Int))) then((u6 g b).bind fun z=>some (z,(cD f b.aa))) else(bif (decide (b.ai=(5:Int))) then((a_ b.aa ([46]:Bs)).bind fun B=>(pQ g b.aF B ([]:Bs)).bind fun C=>some (C,(cD f b.aa))) else(some (g,(cD f b.aa)))))
theorem WE {a0 K k c0 j c2 r}(b:u3 a0 K k=some r) (H:af) (b7:H c0=some (.cells (Z4.cg (some j) a0))) (aD:H j=some (.tok 2 a0.bK.l.length)) (aE:H c2=some (.map (bR k))):At 78 [.d (.ptr c0 0),.d (.int .i64 K),.d (.map c2)] H (RT (.cL []) ((((tS H j 2 r.1.bK).set c0 (some (.cells (Z4.cg (some j) r.1)))).set c2 (some (.map (bR r.2)))))):=by
 unfold u3 at b;refine AC.oW 140 [] Tryz.call78 Tryz.func78 ?_;have aG:c0≠j:=fun u=>by subst u; simp_all
 have aH:c2≠j:=fun u=>by subst u; simp_all
 have aI:c2≠c0:=fun u=>by subst u; simp_all
 refine hz (((tS H j 2 a0.bK).set c0 (some (.cells (Z4.cg (some j) a0)))).set c2 (some (.map (bR k)))) (Y7 ?_);obtain⟨g,L,b⟩:=aX b;refine s0 (iV (f:=ah.c) (TK rfl) rfl (TK rfl) rfl rfl rfl L) rfl ?_;refine Y4 ?_;refine bC 6 _ rfl (kl [0,2]) ?_;refine Y4 ?_;obtain⟨aJ,M,b⟩:=aX b;refine cF rfl rfl (F9 M) (Y3 ?_);refine cm 23 ?_;obtain⟨x5,N,b⟩:=nO (fun _=>rfl) b
 refine mB 24 rfl rfl rfl rfl rfl (fun hC=>F_ (N hC)) ?_;refine Y3 ?_;obtain⟨aL,O,b⟩:=aX b;refine aN.sH (bV rfl rfl (mg O _ az az)) rfl ?_;refine Y6 ?_;refine aN.s0 (uH (TK rfl) rfl (TK rfl) (TK rfl) rfl rfl rfl rfl az) rfl ?_;refine Y2 ?_;refine cm 36 ?_;obtain⟨aM,P,b⟩:=nO (fun _=>rfl) b;refine mB 37 rfl rfl rfl rfl rfl (fun hC=>vE (P hC)) ?_;refine Y3 ?_
 obtain⟨p,Q,b⟩:=aX b;refine aN.sH (bV rfl rfl (mg Q _ az az)) rfl ?_;refine Y5 ?_;refine dB (mapUpdate (TK rfl) rfl (TK rfl) rfl rfl rfl rfl az (sn _ _) rfl) rfl rfl ?_;refine Y4 ?_
 refine aO (tl [0,6]) (fun(z:Bool)=>[(7,.a (.d (.bool z)))]) (fun z=>(((tS H j 2 p.bK).set c0 (some (.cells (Z4.cg (some j) p)))).set c2 (some (.map (bR (cD k g.aa)))))) (fun z=>((fU p z (8:Int) g.aa).bind fun B=>(fU B (((((((g.aa==([81,117,101,114,121]:Bs)))||((g.aa==([77,117,116,97,116,105,111,110]:Bs))))||((g.aa==([83,117,98,115,99,114,105,112,116,105,111,110]:Bs))))&&(!decide (g.ai=(1:Int))))||(decide (g.ai<(1:Int))))||(decide ((5:Int)<g.ai))) (9:Int) g.aa).bind fun y=>aZ ((decide (g.ai=(5:Int)))) (tr y g) false fun C=>(fU y ((decide (g.ai=(5:Int)))&&C) (5:Int) g.aa).bind fun m=>on (bif (decide (g.ai=(1:Int))) then((decide (g.ai=(1:Int)))) else((decide (g.ai=(2:Int))))) fun E=>bif E then((u4 m g).bind fun q=>some (q,(cD k g.aa))) else(bif (decide (g.ai=(4:Int))) then((u6 m g).bind fun s=>some (s,(cD k g.aa))) else(bif (decide (g.ai=(5:Int))) then((a_ g.aa ([46]:Bs)).bind fun F=>(pQ m g.aF F ([]:Bs)).bind fun t=>some (t,(cD k g.aa))) else(some (m,(cD k g.aa))))))=some r) ?_ ?_
 ·intro aP v;refine Y5 ?_;obtain⟨R,U,b⟩:=bW b;refine aO (tl [0,6,7,47]) (fun(z:Bool)=>[(48,.a (.d (.bool z)))]) (fun z=>(((tS H j 2 p.bK).set c0 (some (.cells (Z4.cg (some j) p)))).set c2 (some (.map (bR (cD k g.aa)))))) (fun z=>R z=some r) ?_ ?_
  ·intro aR G;refine Y4 ?_;refine cP b (fun W b=>?_) (fun W b=>?_)
   ·refine ag.skip ?_;exact G _ (decide (g.ai=(1:Int))) wA b
   refine Y4 ?_;exact G _ (decide (g.ai=(2:Int))) wA b
  rintro aS b;have b:=ku U b;obtain⟨aV,w,b⟩:=bW b;refine cP b (fun X b=>?_) (fun X b=>?_)
  ·refine Y3 ?_;refine aU Z6.c g.aq fun aW=>Y3 ?_;exact v _ (decide (((g.aq.l.length:Nat):Int)=(0:Int))) wA (ku w b:)
  obtain⟨Y,Z,b⟩:=dU b;refine aO (tl [0,6,7,47]) (fun(z:Bool)=>[(55,.a (.d (.bool z)))]) (fun z=>(((tS H j 2 p.bK).set c0 (some (.cells (Z4.cg (some j) p)))).set c2 (some (.map (bR (cD k g.aa)))))) (fun z=>Y z=some r) ?_ ?_
  ·intro aY I;refine Y4 ?_;refine cP b (fun ab b=>?_) (fun ab b=>?_)
   ·refine ag.skip ?_;exact I _ (decide (g.ai=(3:Int))) wA b
   refine Y4 ?_;exact I _ (decide (g.ai=(4:Int))) wA b
  rintro a1 b;have b:=ku Z b;refine cP b (fun ad b=>?_) (fun ad b=>?_)
  ·refine Y3 ?_;refine aU Z8.c g.ax fun a2=>Y3 ?_;exact v _ (decide (((g.ax.l.length:Nat):Int)=(0:Int))) wA (ku w b:)
  refine Y4 ?_;refine cP b (fun ae b=>?_) (fun ae b=>?_)
  ·refine Y3 ?_;refine aU Z7.c g.aF fun a3=>Y3 ?_;exact v _ (decide (((g.aF.l.length:Nat):Int)=(0:Int))) wA (ku w b:)
  refine ag.skip ?_;exact v _ false wA (ku w b:)
 rintro a4 b;refine Y5 ?_;obtain⟨B,aj,b⟩:=aX b;refine sH (bV rfl rfl (mg aj _ az az)) rfl ?_;refine Y7 ?_;refine Gk 77 ?_;refine Gk 78 ?_;refine Y3 ?_;refine Gk 82 ?_;refine Gk 83 ?_;refine Y8 ?_;refine Gk 89 ?_;refine Gk 90 ?_;refine Y3 ?_;refine Gk 94 ?_;refine Gk 95 ?_;refine Y3 ?_;refine Gk 99 ?_;refine Gk 100 ?_;refine Y3 ?_;obtain⟨y,ak,b⟩:=aX b
 refine sH (bV rfl rfl (mg ak _ az az)) rfl ?_;refine Y9 ?_;obtain⟨C,al,b⟩:=eB b;refine gq 111 112 rfl rfl (fun hC=>eE rfl rfl (WA (al hC) _ az)) ?_;refine Y3 ?_;obtain⟨m,am,b⟩:=aX b;refine aN.sH (bV rfl rfl (mg am _ az az)) rfl ?_;refine Y6 ?_;obtain⟨ao,ap,b⟩:=bW b
 refine aO (tl [0,6,119]) (fun(z:Bool)=>[(120,.a (.d (.bool z)))]) (fun z=>(((tS H j 2 m.bK).set c0 (some (.cells (Z4.cg (some j) m)))).set c2 (some (.map (bR (cD k g.aa)))))) (fun z=>ao z=some r) ?_ ?_
 ·intro a5 J;refine Y4 ?_;refine cP b (fun ar b=>?_) (fun ar b=>?_)
  ·refine ag.skip ?_;exact J _ (decide (g.ai=(1:Int))) wA b
  refine Y4 ?_;exact J _ (decide (g.ai=(2:Int))) wA b
 rintro E b;have b:=ku ap b;refine cE b (fun au b=>?_) (fun au b=>?_)
 ·refine Y3 ?_;obtain⟨q,av,b⟩:=aX b;refine sH (bV rfl rfl (WC av _ az az)) rfl ?_;refine hq (((tS H j 2 q.bK).set c0 (some (.cells (Z4.cg (some j) q)))).set c2 (some (.map (bR (cD k g.aa))))) (Y1 ?_);repeat (first|refine fQ ?_|refine fP ?_|refine fO ?_)
  obtain rfl:=oJ b;refine bU.gj (((tS H j 2 q.bK).set c0 (some (.cells (Z4.cg (some j) q)))).set c2 (some (.map (bR (cD k g.aa))))) (xs:=[]) rfl ⟨rfl,rfl⟩ ?_;exact(fun _ _ h=>h)
 refine Y4 ?_;refine cE b (fun aw b=>?_) (fun aw b=>?_)
 ·refine Y3 ?_;obtain⟨s,ay,b⟩:=aX b;refine sH (bV rfl rfl (WD ay _ az az)) rfl ?_;refine hq (((tS H j 2 s.bK).set c0 (some (.cells (Z4.cg (some j) s)))).set c2 (some (.map (bR (cD k g.aa))))) (Y1 ?_);repeat (first|refine fQ ?_|refine fP ?_|refine fO ?_)
  obtain rfl:=oJ b;refine bU.gj (((tS H j 2 s.bK).set c0 (some (.cells (Z4.cg (some j) s)))).set c2 (some (.map (bR (cD k g.aa))))) (xs:=[]) rfl ⟨rfl,rfl⟩ ?_;exact(fun _ _ h=>h)
 refine Y4 ?_;refine cE b (fun aA b=>?_) (fun aA b=>?_)
 ·refine Y6 ?_;obtain⟨F,aB,b⟩:=aX b;refine S (bX aB) ?_;obtain⟨t,aC,b⟩:=aX b;refine sH (bV rfl rfl (M_ aC _ az az)) rfl ?_;refine hq (((tS H j 2 t.bK).set c0 (some (.cells (Z4.cg (some j) t)))).set c2 (some (.map (bR (cD k g.aa))))) (Y1 ?_);repeat (first|refine fQ ?_|refine fP ?_|refine fO ?_)
  obtain rfl:=oJ b;refine bU.gj (((tS H j 2 t.bK).set c0 (some (.cells (Z4.cg (some j) t)))).set c2 (some (.map (bR (cD k g.aa))))) (xs:=[]) rfl ⟨rfl,rfl⟩ ?_;exact(fun _ _ h=>h)
 refine ag.skip ?_;repeat (first|refine fQ ?_|refine fP ?_|refine fO ?_)
 obtain rfl:=oJ b;refine bU.gj (((tS H j 2 m.bK).set c0 (some (.cells (Z4.cg (some j) m)))).set c2 (some (.map (bR (cD k g.aa))))) (xs:=[]) rfl ⟨rfl,rfl⟩ ?_;exact(fun _ _ h=>h)
def od :List ah->Nat->Z4->(List Bs)->Option (Z4)
 | [],b,f,g=>some f
 | l::k,b,f,g=>(u3 f ((b:Nat):Int) g).bind fun j=>od  (k) (b+1) j.1 j.2
def zn (a0:ak) (m:Bool):Option (Sl Z5):=Option.bind (od  a0.aj.l 0 (Z4.mk a0 Sl.nil) ([]:List Bs)) fun f=>on (f) fun b=>on (fA a0 ([81,117,101,114,121]:Bs)) fun g=>Option.bind (bif (m&&(!g.2)) then((fU b true (30:Int) ([81,117,101,114,121]:Bs)).bind fun j=>some j) else(some b)) fun k=>some k.bK
theorem WG {a0 v r}(b:zn a0 v=some r) (H:af) :At 44 [.agg (ak.c a0),.d (.bool v)] H (RT (.a (.d (Sl.d 2 Z5.c none r))) H):=by
 unfold zn at b;refine AC.oW 41 [.tmp 4] Tryz.call44 Tryz.func44 ?_;refine Y2 ?_;refine s0 (dM (k':=2) rfl) rfl ?_;refine Y4 ?_;refine aK.tok 2 fun f ad=>?_;refine sE (dm.yD rfl) rfl (fun _ _ _ ⟨g,y,m,p,q⟩=>?_);subst m p q;obtain⟨ae,y⟩:=af.eA y;refine aK.ph g _ az (fun j w cs hh hx=>tok_cell 1 2 2 hh (t:=f) az hx rfl) ?_
 refine hq ((H.set f (some (.tok 2 0))).set g (some (.cells (Z4.cg (some f) (Z4.mk a0 Sl.nil))))) (Y3 ?_);refine sE dm.makeMap rfl (fun _ _ _ ⟨s,k,m,p,q⟩=>?_);subst m p q;obtain⟨ai,k⟩:=af.eA k;obtain⟨al,k⟩:=af.eA k;refine Y2 ?_
 refine aO (tl [1,2,5]) (fun(z:Z4×(List Bs))=>[]) (fun z=>(((tS H f 2 z.1.bK).set g (some (.cells (Z4.cg (some f) z.1)))).set s (some (.map (bR z.2))))) (fun z=>(on (fA a0 ([81,117,101,114,121]:Bs)) fun B=>Option.bind (bif (v&&(!B.2)) then((fU z.1 true (30:Int) ([81,117,101,114,121]:Bs)).bind fun u=>some u) else(some z.1)) fun C=>some C.bK)=some r) ?_ ?_
 ·intro am M;refine Y3 ?_;refine aU ah.c a0.aj fun ao=>Y3 ?_;obtain⟨E,N,b⟩:=bZ b
  refine bz (tl [1,2,5,6,16]) (fun(z:Nat×Z4×(List Bs))=>[(17,vi z.1)]) (fun z=>(((tS H f 2 z.2.1.bK).set g (some (.cells (Z4.cg (some f) z.2.1)))).set s (some (.map (bR z.2.2))))) (fun z=>a0.aj.l.length-z.1) (fun z=>Option.bind (od  (a0.aj.l.drop z.1) z.1 z.2.1 z.2.2) E=some r) (0,(Z4.mk a0 Sl.nil),([]:List Bs)) b wA ?_;rintro ⟨F,G,I⟩ b ap O
  refine Y3 ?_;refine ar fun aq P=>?_;refine ag.bJ (fun l=>Option.bind (od  l F G I) E=some r) b rfl (fun au Q R b=>?_) (fun R b=>?_)
  ·rw [od] at b;refine sk P (ar fun av S=>Y9 ?_);obtain⟨J,U,b⟩:=aJ b;refine sH (bV rfl rfl (WE U _ az az az)) rfl ?_;refine Y1 ?_;refine S _ ?_;refine Y4 ?_;exact O _ ((F+1),J.1,J.2) wA b (dl Q)
  rw [od] at b;have b:=ku N b;refine ag.exit ?_;obtain⟨aw,W,b⟩:=bW b;exact M _ (G,I) wA (ku W b:)
 rintro ⟨X,Y⟩ b;refine aO (tl [5]) (fun(z:Z4)=>[]) (fun z=>(((tS H f 2 z.bK).set g (some (.cells (Z4.cg (some f) z)))).set s (some (.map (bR Y))))) (fun z=>(some z.bK)=some r) ?_ ?_
 ·intro ax K;refine Y2 ?_;obtain⟨B,Z,b⟩:=dQ b;refine Sc rfl rfl (oP Z) (Y7 ?_);refine bC 8 _ rfl (kl [1,5,9]) ?_;refine Y4 ?_;refine Gk 32 ?_;refine Y2 ?_;obtain⟨ay,L,b⟩:=bZ b;refine cO b (fun aa b=>?_) (fun aa b=>?_)
  ·refine Y2 ?_;obtain⟨u,ab,b⟩:=aJ b;refine sH (bV rfl rfl (mg ab _ az az)) rfl ?_;refine Y1 ?_;exact K _ u wA (ku L b:)
  refine ag.skip ?_;exact K _ X wA (ku L b:)
 rintro C b;refine Y7 ?_;refine ag.eF 4 rfl ?_;exact rs b
def xd (a0:Z0) (b:Bs) (g:Int):Int:=on (fA a0.Fd b) fun x3=>on (bif (!x3.2) then cV b else false) fun f=>bif ((!x3.2)&&(!f)) then((8:Int)) else(bif ((!x3.2)||(!decide (x3.1.ai=g))) then((9:Int)) else((0:Int)))
theorem Na {a0 f g j c0 r}(b:some (xd a0 f g)=some r) (H:af) (b7:H c0=some (.cells (Z0.cg j a0))):At 81 [.d (.ptr c0 0),.d (.str f),.d (.int .i64 g)] H (RT (.a (.d (.int .i64 r))) H):=by
 unfold xd at b;refine AC.oW 35 [.tmp 6] Tryz.call81 Tryz.func81 ?_;refine Y9 ?_;obtain⟨x3,k,b⟩:=ff b;refine Sc rfl rfl (oP k) (Y7 ?_);refine bC 7 _ rfl (kl [1,2,8]) ?_;refine ar fun s l=>Y6 ?_;obtain⟨t,m,b⟩:=iX (fun _=>rfl) b;refine dP 22 rfl rfl rfl rfl rfl (fun hC=>vE (m hC)) ?_;refine Gk 23 ?_;refine Y3 ?_;refine cP b (fun p b=>?_) (fun p b=>?_)
 ·refine Y3 ?_;exact rt b
 refine Y5 ?_;refine Gk 30 ?_;refine Y1 ?_;refine G2 31 32 rfl rfl BI ?_;refine Y3 ?_;refine cP b (fun q b=>?_) (fun q b=>?_)
 ·refine Y3 ?_;exact rt b
 refine sk l (Y3 ?_);exact rt b
def k9 (a0:Z0) (f:Int) (g:Bs):Option Z0:=(bh 24 a0.ep (⟨false,[(Z5.mk f g)]⟩:Sl Z5)).bind fun b=>some (Z0.mk a0.Fd b)
theorem xU {a0 j k c0 b r}(f:k9 a0 j k=some r) (H:af) (b7:H c0=some (.cells (Z0.cg (some b) a0))) (q:H b=some (.tok 2 a0.ep.l.length)):At 84 [.d (.ptr c0 0),.d (.int .i64 j),.d (.str k)] H (RT (.cL []) (((tS H b 2 r.ep).set c0 (some (.cells (Z0.cg (some b) r)))))):=by
 unfold k9 at f;refine AC.oW 18 [] Tryz.call84 Tryz.func84 ?_;have s:c0≠b:=fun m=>by subst m; simp_all
 refine hz ((tS H b 2 a0.ep).set c0 (some (.cells (Z0.cg (some b) a0)))) (pq ?_);obtain⟨g,p,f⟩:=aX f;refine SH (am Z5.c (TK rfl) rfl (TK rfl) (TK rfl) p) ?_;refine Y2 ?_;refine dB (gw (TK rfl) rfl rfl az rfl (by repeat (first|exact bE.zero|apply bE.succ))) rfl rfl ?_;refine hq ((tS H b 2 g).set c0 (some (.cells (Z0.cg (some b) (Z0.mk a0.Fd g))))) (Y1 ?_)
 repeat (first|refine fQ ?_|refine fP ?_|refine fO ?_)
 obtain rfl:=oJ f;refine bU.gj ((tS H b 2 g).set c0 (some (.cells (Z0.cg (some b) (Z0.mk a0.Fd g))))) (xs:=[]) rfl ⟨rfl,rfl⟩ ?_;exact(fun _ _ h=>h)
def jB (a0:aL):Bool:=on (bif (decide ((0:Int)<((a0.aH.l.length:Nat):Int))) then((a0.aH.l)[0]?.getD (0:Int)) else(0:Int)) fun b=>((decide ((0:Int)<((a0.aH.l.length:Nat):Int)))&&(decide (b=(1:Int))))
theorem um {a0 r}(b:some (jB a0)=some r) (H:af) :At 150 [.agg (aL.c a0)] H (RT (.a (.d (.bool r))) H):=by
 unfold jB at b;refine AC.oW 14 [.tmp 2] Tryz.call150 Tryz.func150 ?_;refine Y7 ?_;refine aU (bL .i64) a0.aH fun g=>Y3 ?_;refine Gk 8 ?_;obtain⟨j,f,b⟩:=iX (fun hc=>Q.getD_some (by simp at hc; omega)) b;refine bI 9 rfl (fun hC=>ix (bL .i64) 0 (f hC)) ?_;refine Gk 10 ?_;refine Gk 11 ?_;refine Y3 ?_;exact rt b
def tj (f:Bs):List Z6->Unit ⊕ ((Z6×Bool))
 | []=>Sum.inl ()
 | g::j=>on (g) fun b=>bif ((b.aa==f)) then(Sum.inr (b,true)) else(tj f (j) )
def zk (a0:ah) (g:Bs):(Z6×Bool):=on (tj g a0.aq.l ) fun b=>match b with|Sum.inl _=>(on (()) fun _=>((Z6.mk [] Sl.nil aL.zero Sl.nil),false))|Sum.inr f=>(f)
theorem WH {a0 f r}(b:some (zk a0 f)=some r) (H:af) :At 155 [.agg (ah.c a0),.d (.str f)] H (RT (.cL [.agg (Z6.c r.1),.d (.bool r.2)]) H):=by
 unfold zk at b;refine AC.oW 22 [.cell 4 49,.tmp 5] Tryz.call155 Tryz.func155 ?_;refine Y5 ?_;refine dS (tl [4]) (fun(z:Z6)=>[]) (fun z=>[Z6.c z]) (fun z=>H) (fun z=>some (((Z6.mk [] Sl.nil aL.zero Sl.nil),false))=some r) ?_ ?_
 ·intro C q;refine Y3 ?_;refine aU Z6.c a0.aq fun E=>Y3 ?_;obtain⟨g,j,b⟩:=dU b;refine gz (tl [1,4,9,10]) (fun(z:Nat×Z6)=>[(11,vi z.1)]) (fun z=>[Z6.c z.2]) (fun z=>H) (fun z=>a0.aq.l.length-z.1) (fun z=>g (tj f (a0.aq.l.drop z.1) )=some r) (0,Z6.zero) b wA ?_;rintro ⟨k,m⟩ b F s;refine Y3 ?_;refine ar fun G t=>?_
  refine ag.bJ (fun l=>g (tj f l )=some r) b rfl (fun I p u b=>?_) (fun u b=>?_)
  ·rw [tj] at b;refine sk t (ar fun J v=>Y2 ?_);obtain⟨K,w,b⟩:=vP p b;refine S (ix Z6.c k w) (Y4 ?_);refine bC 7 _ rfl (kl [1,4,9,10,11]) ?_;refine Y6 ?_;refine cP b (fun y b=>?_) (fun y b=>?_)
   ·refine Y5 ?_;exact rs (ku j b:)
   refine sk v (Y4 ?_);exact s _ ((k+1),m) wA b (dl p)
  rw [tj] at b;have b:=ku j b;refine ag.exit ?_;obtain⟨L,B,b⟩:=dU b;exact q _ m wA (ku B b:)
 rintro M b;refine Y5 ?_;exact rt b
def qR (a0:aL):Option aL:=on (jB a0) fun b=>Option.bind (bif b then((mu a0.aH (some (1:Int)) none).bind fun f=>some f) else(some a0.aH)) fun g=>(pM g).bind fun j=>some (aL.mk a0.aa j)
theorem Am {a0 r}(b:qR a0=some r) (H:af) :At 184 [.agg (aL.c a0)] H (RT (.a (.agg (aL.c r))) H):=by
 unfold qR at b;refine AC.oW 15 [.cell 2 46] Tryz.call184 Tryz.func184 ?_;refine Y9 ?_;refine aO (tl [1,2]) (fun(z:(Sl Int))=>[(3,.a (.d (Sl.d 1 (bL .i64) none z)))]) (fun z=>H) (fun z=>((pM z).bind fun g=>some (aL.mk a0.aa g))=some r) ?_ ?_
 ·intro u j;refine Y2 ?_;obtain⟨v,m,b⟩:=dQ b;refine Sc rfl rfl (um m) (Y1 ?_);obtain⟨w,k,b⟩:=bZ b;refine cO b (fun p b=>?_) (fun p b=>?_)
  ·refine Y2 ?_;obtain⟨q,s,b⟩:=aJ b;refine s0 (lN (f:=(bL .i64)) (l:=(some (1:Int))) (r:=none) (TK rfl) rfl (TK rfl) rfl rfl rfl trivial s) rfl ?_;refine Y2 ?_;exact j _ q wA (ku k b:)
  refine ag.skip ?_;exact j _ a0.aH wA (ku k b:)
 rintro y b;refine Y4 ?_;obtain⟨g,t,b⟩:=aX b;refine cF rfl rfl (Ak t) (Y3 ?_);exact rt b
def zi (a0:aL):Option Bool:=(qR a0).bind fun x3=>on (bif (decide ((0:Int)<((x3.aH.l.length:Nat):Int))) then((x3.aH.l)[0]?.getD (0:Int)) else(0:Int)) fun b=>some ((decide ((0:Int)<((x3.aH.l.length:Nat):Int)))&&(decide (b=(2:Int))))
theorem WI {a0 r}(b:zi a0=some r) (H:af) :At 187 [.agg (aL.c a0)] H (RT (.a (.d (.bool r))) H):=by
 unfold zi at b;refine AC.oW 16 [.tmp 2] Tryz.call187 Tryz.func187 ?_;refine Y1 ?_;refine sL (wu rfl) rfl ?_;refine Y4 ?_;obtain⟨x3,f,b⟩:=aX b;refine Sc rfl rfl (Am f) (Y5 ?_);refine aU (bL .i64) x3.aH fun j=>Y3 ?_;refine gC rfl rfl (fun hC=>v_ (k:=10) rfl (nL (TK rfl) rfl rfl rfl rfl)) rfl ?_
 obtain⟨l,g,b⟩:=nO (fun hc=>Q.getD_some (by simp at hc; omega)) b;refine bI 11 rfl (fun hC=>ix (bL .i64) 0 (g hC)) ?_;refine Gk 12 ?_;refine Gk 13 ?_;refine Y3 ?_;exact rt b
def th (a0:aL):Option (aL×Bool):=(zi a0).bind fun f=>bif (!f) then(some ((aL.mk [] Sl.nil),false)) else((qR a0).bind fun b=>(mu b.aH (some (1:Int)) none).bind fun g=>some ((aL.mk b.aa g),true))
theorem Ge {a0 r}(b:th a0=some r) (H:af) :At 164 [.agg (aL.c a0)] H (RT (.cL [.agg (aL.c r.1),.d (.bool r.2)]) H):=by
 unfold th at b;refine AC.oW 15 [.cell 2 46,.tmp 3] Tryz.call164 Tryz.func164 ?_;refine Y1 ?_;refine sL (wu rfl) rfl ?_;refine Y3 ?_;refine ar fun q g=>Y2 ?_;obtain⟨s,j,b⟩:=aX b;refine Sc rfl rfl (WI j) (Y2 ?_);refine cE b (fun k b=>?_) (fun k b=>?_)
 ·refine Y5 ?_;exact rt b
 refine sk g (Y2 ?_);obtain⟨t,m,b⟩:=aX b;refine Sc rfl rfl (Am m) (Y5 ?_);obtain⟨u,p,b⟩:=aX b;refine s0 (lN (f:=(bL .i64)) (l:=(some (1:Int))) (r:=none) (TK rfl) rfl (TK rfl) rfl rfl rfl trivial p) rfl ?_;refine Y8 ?_;exact rt b
def BF (a0:ah) (b:Bs):Bool:=on (lX a0.aM b) fun x3=>x3
def An (a0:ah) (b:Bs):Option Bool:=some (BF a0 b)
theorem JS (a0:ah) (a1:Bs):An a0 a1=some (BF a0 a1):=rfl
theorem Nb {a0 f r}(b:An a0 f=some r) (H:af) :At 215 [.agg (ah.c a0),.d (.str f)] H (RT (.a (.d (.bool r))) H):=by
 unfold An BF at b;refine AC.oW 9 [.tmp 4] Tryz.call215 Tryz.func215 ?_;refine Y8 ?_;obtain⟨x3,g,b⟩:=ff b;refine Sc rfl rfl (xQ g) (Y2 ?_);exact rt b
def Gf  (b:(Sl Bs)) (f:(List Bs)):Option (Sl Bs):=some b
def zw (b:Nat) (f:(Sl Bs)->Nat->(List Bs)->Option (Sl Bs)) (g:(Sl Bs)) (j:(List Bs)):Option (Sl Bs):=f g (b+1) j
def tE (a0:ak) :Nat->(Sl Bs)->Nat->(List Bs)->Option (Sl Bs)
 | 0,_,_,_=>none
 | k+1,g,b,f=>bif (decide (((b:Nat):Int)<((a0.aj.l.length:Nat):Int))) then((a0.aj.l[b]?).bind fun j=>bif (f.contains j.aa) then((bh 16 g (⟨false,[j.aa]⟩:Sl Bs)).bind fun m=>zw b ((tE a0 k)) m (List.erase f j.aa)) else(zw b ((tE a0 k)) g f)) else(Gf   g f)
def BH (a0:ak)  (b:(List Bs)):Option (Sl Bs):=tE a0 (a0.aj.l.length+1) (Sl.nil:Sl Bs) 0 b
def w9 (a0:ak) (a1:Bs) (x3:(ah×Bool))  (f:Bs):Option Bool:=(Al a0 f).bind fun b=>aZ ((!((!b.2)||(!decide (b.1.ai=(1:Int))))&&(decide (x3.1.ai=(2:Int))))) (An b.1 a1) false fun g=>bif (((!b.2)||(!decide (b.1.ai=(1:Int))))||((decide (x3.1.ai=(2:Int)))&&(!g))) then(some false) else(some true)
def tF (a0:ak) (g:Bs) (x3:(ah×Bool))  (b:(List Bs)):Option (Sl Bs):=Option.bind (wm (w9 a0 g x3) b) fun f=>BH a0  f
def zx (b:Nat) (f:Nat->(List Bs)->Option (Sl Bs)) (g:(List Bs)):Option (Sl Bs):=f (b+1) g
def tG (a0:ak) (f:Bs) (x3:(ah×Bool)) :Nat->Nat->(List Bs)->Option (Sl Bs)
 | 0,_,_=>none
 | j+1,b,g=>bif (decide (((b:Nat):Int)<((a0.aj.l.length:Nat):Int))) then((a0.aj.l[b]?).bind fun k=>(An k f).bind fun m=>bif m then(zx b ((tG a0 f x3 j)) (cD g k.aa)) else(zx b ((tG a0 f x3 j)) g)) else(tF a0 f x3  g)
def w_ (a0:ak) (g:Bs) (x3:(ah×Bool)) :Nat->Nat->(List Bs)->Option (Sl Bs)
 | 0,_,_=>none
 | j+1,b,f=>bif (decide (((b:Nat):Int)<((x3.1.ax.l.length:Nat):Int))) then((x3.1.ax.l[b]?).bind fun k=>(w_ a0 g x3 j) (b+1) (cD f k.aa)) else(tF a0 g x3  f)
def BJ (a0:ak) (b:Bs):Option (Sl Bs):=(Al a0 b).bind fun x3=>bif (decide (x3.1.ai=(1:Int))) then(tF a0 b x3  (cD ([]:List Bs) b)) else(bif (decide (x3.1.ai=(2:Int))) then(tG a0 b x3 (a0.aj.l.length+1) 0 ([]:List Bs)) else(bif (decide (x3.1.ai=(3:Int))) then(w_ a0 b x3 (x3.1.ax.l.length+1) 0 ([]:List Bs)) else(tF a0 b x3  ([]:List Bs))))
theorem WJ {a0 p r}(b:BJ a0 p=some r) (H:af) :At 206 [.agg (ak.c a0),.d (.str p)] H (RT (.a (.d (Sl.d 1 aG none r))) H):=by
 unfold BJ at b;refine AC.oW 113 [.tmp 4] Tryz.call206 Tryz.func206 ?_;refine ag.tok 1 fun f bm=>?_;refine Y2 ?_;refine s0 (dM (k':=1) rfl) rfl ?_;refine Y4 ?_;obtain⟨x3,ay,b⟩:=bO b;refine Sc rfl rfl (oP ay) (Y7 ?_);refine bC 5 _ rfl (kl [1,2]) ?_;refine Y1 ?_;refine sE dm.makeMap rfl (fun _ _ _ ⟨g,Z,aA,aB,aC⟩=>?_);subst aA aB aC
 obtain⟨bn,Z⟩:=af.eA Z;refine hq ((H.set f (some (.tok 1 0))).set g (some (.map (bR ([]:List Bs))))) (Y2 ?_);refine aO (tl [1,2,5,7]) (fun(z:(List Bs))=>[]) (fun z=>((H.set f (some (.tok 1 0))).set g (some (.map (bR z))))) (fun z=>tF a0 p x3 z=some r) ?_ ?_
 ·intro bo C;refine Y9 ?_;refine cE b (fun aD b=>?_) (fun aD b=>?_)
  ·refine Y3 ?_;refine dB (mapUpdate (TK rfl) rfl (TK rfl) rfl rfl rfl rfl az (sn _ _) rfl) rfl rfl ?_;refine hq ((H.set f (some (.tok 1 0))).set g (some (.map (bR (cD ([]:List Bs) p))))) (Y1 ?_);exact C _ (cD ([]:List Bs) p) wA b
  refine Y4 ?_;refine cE b (fun aE b=>?_) (fun aE b=>?_)
  ·refine Y3 ?_;refine aU ah.c a0.aj fun bp=>Y3 ?_;refine bz (tl [1,2,5,7,34,35]) (fun(z:Nat×Nat×(List Bs))=>[(36,vi z.2.1)]) (fun z=>((H.set f (some (.tok 1 0))).set g (some (.map (bR z.2.2))))) (fun z=>z.1) (fun z=>tG a0 p x3 z.1 z.2.1 z.2.2=some r) ((a0.aj.l.length+1),0,([]:List Bs)) b wA ?_;rintro ⟨E,L,F⟩ b bq aF;cases E with
   | zero=>cases b
   | succ E =>
     rw [tG] at b;refine Y3 ?_;refine ar fun br aH=>?_;refine cE b (fun aI b=>?_) (fun aI b=>?_)
     ·refine sk aH (aO (tl [1,2,5,7,34,35,36]) (fun(z:(List Bs))=>[]) (fun z=>((H.set f (some (.tok 1 0))).set g (some (.map (bR z))))) (fun z=>zx L ((tG a0 p x3 E)) z=some r) ?_ ?_)
      ·intro bs ab;refine Y2 ?_;obtain⟨ad,aJ,b⟩:=bO b;refine S (ix ah.c L aJ) (Y4 ?_);refine bC 9 _ rfl (kl [1,2,5,7,34,35,36]) ?_;refine Y3 ?_;obtain⟨bt,aL,b⟩:=bO b;refine Sc rfl rfl (Nb aL) (Y1 ?_);refine cE b (fun aM b=>?_) (fun aM b=>?_)
       ·refine Y4 ?_;refine dB (mapUpdate (TK rfl) rfl (TK rfl) rfl rfl rfl rfl az (sn _ _) rfl) rfl rfl ?_;refine hq ((H.set f (some (.tok 1 0))).set g (some (.map (bR (cD F ad.aa))))) (Y1 ?_);exact ab _ (cD F ad.aa) wA b
       refine ag.skip ?_;exact ab _ F wA b
      rintro aP b;unfold zx at b;refine Y4 ?_;exact aF _ (E,(L+1),aP) wA b (nS _)
     refine ag.exit ?_;exact C _ F wA b
  refine Y4 ?_;refine cE b (fun aR b=>?_) (fun aR b=>?_)
  ·refine Y3 ?_;refine aU Z8.c x3.1.ax fun bu=>Y3 ?_;refine bz (tl [1,2,5,7,50,51]) (fun(z:Nat×Nat×(List Bs))=>[(52,vi z.2.1)]) (fun z=>((H.set f (some (.tok 1 0))).set g (some (.map (bR z.2.2))))) (fun z=>z.1) (fun z=>w_ a0 p x3 z.1 z.2.1 z.2.2=some r) ((x3.1.ax.l.length+1),0,([]:List Bs)) b wA ?_;rintro ⟨M,ae,N⟩ b bv aS;cases M with
   | zero=>cases b
   | succ M =>
     rw [w_] at b;refine Y3 ?_;refine ar fun bw aV=>?_;refine cE b (fun aW b=>?_) (fun aW b=>?_)
     ·refine sk aV (ar fun bx aX=>Y2 ?_);obtain⟨ai,aY,b⟩:=bO b;refine S (ix Z8.c ae aY) (Y4 ?_);refine bC 11 _ rfl (kl [1,2,5,7,50,51,52]) ?_;refine Y4 ?_;refine dB (mapUpdate (TK rfl) rfl (TK rfl) rfl rfl rfl rfl az (sn _ _) rfl) rfl rfl ?_;refine hq ((H.set f (some (.tok 1 0))).set g (some (.map (bR (cD N ai.aa))))) (Y1 ?_);refine aX _ ?_;refine Y4 ?_
      exact aS _ (M,(ae+1),(cD N ai.aa)) wA b (nS _)
     refine ag.exit ?_;exact C _ N wA b
  refine ag.skip ?_;exact C _ ([]:List Bs) wA b
 rintro aZ b;unfold tF at b;refine aO (tl [2,7]) (fun(z:(List Bs))=>[]) (fun z=>((H.set f (some (.tok 1 0))).set g (some (.map (bR z))))) (fun z=>BH a0 z=some r) ?_ ?_
 ·intro bA a1;refine ar fun bB a2=>ag.Px g (l:=aZ) az fun k O j a3=>?_;refine ag.j7 (h':=((H.set f (some (.tok 1 0))).set g (some (.dW k (.map (mE O).toArray j))))) (by first|rfl|(rw [af.set_set]; rfl)|(funext n_; simp only [af.set]; (repeat' split)<;>first|rfl|(exfalso; simp_all; done)|(simp_all; done))) ?_;refine Y2 ?_
  refine sE (dm.PA (TK rfl) rfl rfl az) rfl ?_;rintro _ _ _ ⟨q,t,u,rfl,rfl,rfl⟩;obtain⟨a4,u⟩:=af.eA u;obtain⟨a5,u⟩:=af.eA u;refine hq (((H.set f (some (.tok 1 0))).set g (some (.dW k (.map (mE O).toArray j)))).set q (some (.dW t (.mapIter (some k) j (#[]) j)))) (Y1 ?_)
  refine a2 _ ?_;refine Y1 ?_;obtain⟨P,a6,b⟩:=bO b;refine bz (tl [1,2,5,7,61]) (fun(z:List (Bs×Nat)×Array Nat)=>[]) (fun z=>(((H.set f (some (.tok 1 0))).set g (some (.dW k (.map (mE z.1).toArray j)))).set q (some (.dW t (.mapIter (some k) j z.2 j))))) (fun z=>(dO z.1 z.2).length) (fun z=>gp (w9 a0 p x3) P j z) (O,#[]) (gp.start a6 a3) wA ?_
  rintro ⟨G,v⟩ m bD al;refine ar fun bF ao=>Y1 ?_;refine sE (dm.PB (id:=g) rfl az az m.pop.lt (fun x hx=>m.pop.len _ (List.mem_map_of_mem hx))) rfl ?_;rintro _ _ _ ⟨rfl,⟨a7,rfl,rfl⟩|⟨ap,I,w,rfl,rfl⟩⟩
  ·refine Y2 ?_;refine ao _ ?_;refine ar fun a8 aq=>ag.Py g az m.pop ?_;rw [m.done a7]
   refine ag.j7 (h':=(((H.set f (some (.tok 1 0))).set g (some (.map (bR P)))).set q (some (.dW t (.mapIter (some k) j v j))))) (by first|rfl|(rw [af.set_set]; rfl)|(funext n_; simp only [af.set]; (repeat' split)<;>first|rfl|(exfalso; simp_all; done)|(simp_all; done))) ?_;refine ag.cond rfl (fun Q=>by cases Q) fun _=>?_;refine ag.exit ?_
   exact a1 _ P (cC.toFA (by(intro J a9 s); (have a_:J≠q:=fun y=>by rw [y] at s; simp [af.set,u,a5,a4] at s); (rw [<- s]); (simp only [af.set,if_neg a_]); (first|done|rfl))) b
  obtain⟨r,R⟩:=m.told _ (yQ w).1;have b:=R;simp only at b;unfold w9 at b;refine hq (((H.set f (some (.tok 1 0))).set g (some (.dW k (.map (mE G).toArray j)))).set q (some (.dW t (.mapIter (some k) j (v.push I) j)))) (Y2 ?_);refine ao _ ?_;refine ar fun a8 aq=>ag.cond rfl (fun _=>?_) (fun Q=>by cases Q);refine ag.skip ?_;refine aq _ ?_
  refine Y2 ?_;refine s0 (PE (id:=g) rfl az az (yQ w).1 m.pop.nodup (m.pop.len _ (List.mem_map_of_mem (yQ w).1))) rfl ?_;refine Y6 ?_;obtain⟨bG,a',b⟩:=bO b;refine Sc rfl rfl (oP a') (Y7 ?_);refine bC 13 _ rfl (kl [1,2,5,7,12,14,61]) ?_;refine Y5 ?_;refine Gk 75 ?_;refine Gk 76 ?_;refine Y3 ?_;refine Gk 80 ?_;refine Gk 81 ?_;refine Gk 82 ?_;refine Y2 ?_
  obtain⟨bH,ba,b⟩:=gO b;refine fS 84 85 rfl rfl rfl rfl rfl rfl (fun hC=>Nb (ba hC)) ?_;refine Gk 86 ?_;refine bI 83 rfl (fun hC=>kI rfl rfl rfl) ?_;refine Y2 ?_;refine cE b (fun bb b=>?_) (fun bb b=>?_)
  ·refine Y3 ?_;refine dB (PC (TK rfl) rfl (TK rfl) rfl rfl rfl rfl az (fun x hx=>m.pop.len _ (List.mem_map_of_mem hx))) rfl rfl ?_;refine hq (((H.set f (some (.tok 1 0))).set g (some (.dW k (.map (mE (iv G ap)).toArray j)))).set q (some (.dW t (.mapIter (some k) j (v.push I) j)))) (Y1 ?_);obtain rfl:=oJ b;obtain⟨U,W⟩:=m.drop w R
   exact al _ ((iv G ap),v.push I) wA U W
  refine ag.skip ?_;obtain rfl:=oJ b;obtain⟨U,W⟩:=m.keep w R;exact al _ (G,v.push I) wA U W
 rintro bc b;unfold BH at b;refine Y3 ?_;refine ag.fe 15 1 f rfl az ?_;refine aO kN (fun(z:(Sl Bs)×(List Bs))=>[(15,.a (.d (Sl.d 1 aG (some f) z.1)))]) (fun z=>((tS H f 1 z.1).set g (some (.map (bR z.2))))) (fun z=>Gf z.1 z.2=some r) ?_ ?_
 ·intro bJ bd;refine Y3 ?_;refine aU ah.c a0.aj fun bK=>Y3 ?_;refine bz (tl [7,93,94]) (fun(z:Nat×(Sl Bs)×Nat×(List Bs))=>[(15,.a (.d (Sl.d 1 aG (some f) z.2.1))),(95,vi z.2.2.1)]) (fun z=>((tS H f 1 z.2.1).set g (some (.map (bR z.2.2.2))))) (fun z=>z.1) (fun z=>tE a0 z.1 z.2.1 z.2.2.1 z.2.2.2=some r) ((a0.aj.l.length+1),(Sl.nil:Sl Bs),0,bc) b wA ?_
  rintro ⟨K,au,X,B⟩ b bL be;cases K with
  | zero=>cases b
  | succ K =>
    rw [tE] at b;refine Y3 ?_;refine ar fun bM bf=>?_;refine cE b (fun bg b=>?_) (fun bg b=>?_)
    ·refine sk bf (aO (tl [7,93,94,95]) (fun(z:(Sl Bs)×(List Bs))=>[(15,.a (.d (Sl.d 1 aG (some f) z.1)))]) (fun z=>((tS H f 1 z.1).set g (some (.map (bR z.2))))) (fun z=>zw X ((tE a0 K)) z.1 z.2=some r) ?_ ?_)
     ·intro bN av;refine Y2 ?_;obtain⟨aw,bh,b⟩:=bO b;refine S (ix ah.c X bh) (Y4 ?_);refine bC 17 _ rfl (kl [7,15,93,94,95]) ?_;refine Y4 ?_;refine s0 (uH (TK rfl) rfl (TK rfl) (TK rfl) rfl rfl rfl rfl az) rfl ?_;refine Y1 ?_;refine cE b (fun bi b=>?_) (fun bi b=>?_)
      ·refine Y5 ?_;obtain⟨Y,bj,b⟩:=bO b;refine SH (am aG (TK rfl) rfl (TK rfl) (TK rfl) bj) ?_;refine hq ((tS H f 1 Y).set g (some (.map (bR B)))) (Y6 ?_);refine dB (PD (TK rfl) rfl (TK rfl) rfl rfl rfl rfl az) rfl rfl ?_;refine hq ((tS H f 1 Y).set g (some (.map (bR (List.erase B aw.aa))))) (Y1 ?_);exact av _ (Y,(List.erase B aw.aa)) wA b
      refine ag.skip ?_;exact av _ (au,B) wA b
     rintro ⟨bk,bl⟩ b;unfold zw at b;refine Y4 ?_;exact be _ (K,bk,(X+1),bl) wA b (nS _)
    refine ag.exit ?_;exact bd _ (au,B) wA b
 rintro ⟨bP,bQ⟩ b;unfold Gf at b;refine Y4 ?_;refine ag.eF 4 rfl ?_;refine ry ?_;obtain rfl:=oJ b;refine bU.cH H rfl ⟨rfl,rfl⟩ ?_;intro J a9 s;have bS:J≠f:=fun y=>by subst y; simp_all [af.set]
 have bT:J≠g:=fun y=>by subst y; simp_all [af.set]
 rw [<- s];simp only [af.set] at s ⊢;(repeat' split)<;>simp_all
def EH (a0:ak) (b:Bs):Option (Sl Bs):=BJ a0 b
def xb (a0:ak) (f:Bs) (g:Bs):Option Bool:=(EH a0 g).bind fun x3=>on (lX x3 f) fun b=>some b
theorem WK {a0 f g r}(b:xb a0 f g=some r) (H:af) :At 185 [.agg (ak.c a0),.d (.str f),.d (.str g)] H (RT (.a (.d (.bool r))) H):=by
 unfold xb at b;refine AC.oW 12 [.tmp 6] Tryz.call185 Tryz.func185 ?_;refine Y7 ?_;obtain⟨x3,j,b⟩:=aX b;refine Sc rfl rfl (WJ j) (Y1 ?_);obtain⟨l,k,b⟩:=dQ b;refine Sc rfl rfl (xQ k) (Y2 ?_);exact rt b
def pU:Nat->ak->aL->aL->Option Bool
 | 0,_,_,_=>none
 | n+1,a0,b,f=>on (jB f) fun k=>bif k then(on (jB b) fun x7=>aZ (x7) (qR b) aL.zero fun l=>aZ (x7) (qR f) aL.zero fun m=>aZ (x7) ((pU n) a0 l m) false fun p=>some (x7&&p)) else(on (jB b) fun q=>bif q then((qR b).bind fun r=>((pU n) a0 r f).bind fun s=>some s) else((th b).bind fun g=>(th f).bind fun j=>bif (g.2||j.2) then(aZ ((g.2&&j.2)) ((pU n) a0 g.1 j.1) false fun t=>some ((g.2&&j.2)&&t)) else(aZ (!((b.aa==f.aa))) (xb a0 b.aa f.aa) false fun u=>some (((b.aa==f.aa))||u))))
def Gg (n:Nat):Prop:=∀{a0:ak}{a1:aL}{a2:aL}   {r:Bool},pU n a0 a1 a2=some r->∀(H:af),At 156 [.agg (ak.c a0),.agg (aL.c a1),.agg (aL.c a2)] H (RT (.a (.d (.bool r))) H)
theorem WL (n:Nat) (f:Gg (au:=au) n):Gg (au:=au) (n+1):=by
 intro a0 Y Z   r b H;rw [pU] at b;refine AC.oW 67 [.tmp 6] Tryz.call156 Tryz.func156 ?_;refine Y6 ?_;refine ar fun I g=>Y2 ?_;obtain⟨J,j,b⟩:=dQ b;refine Sc rfl rfl (um j) (Y1 ?_);refine cE b (fun l b=>?_) (fun l b=>?_)
 ·refine Y2 ?_;obtain⟨x7,m,b⟩:=dQ b;refine cF rfl rfl (um m) (Y3 ?_);obtain⟨K,p,b⟩:=eB b;refine mB 17 rfl rfl rfl rfl rfl (fun hC=>Am (p hC)) ?_;refine Y1 ?_;obtain⟨L,q,b⟩:=eB b;refine mB 19 rfl rfl rfl rfl rfl (fun hC=>Am (q hC)) ?_;obtain⟨M,s,b⟩:=eB b
  refine aN.gC rfl rfl (fun hC=>j8 (k:=16) rfl (j8 (k:=18) rfl (j8 (k:=20) rfl (j6 rfl rfl (fun H=>f (s hC) H))))) rfl ?_;refine Y3 ?_;exact rt b
 refine sk g (ar fun N t=>Y2 ?_);obtain⟨O,u,b⟩:=dQ b;refine Sc rfl rfl (um u) (Y1 ?_);refine cE b (fun v b=>?_) (fun v b=>?_)
 ·refine Y3 ?_;obtain⟨P,w,b⟩:=aX b;refine cF rfl rfl (Am w) (Y1 ?_);obtain⟨Q,y,b⟩:=aX b;refine cF rfl rfl (f y) (Y2 ?_);exact rt b
 refine sk t (Y2 ?_);obtain⟨R,z,b⟩:=aX b;refine Sc rfl rfl (Ge z) (Y7 ?_);refine bC 7 _ rfl (kl [3,4,5,8]) ?_;refine Y2 ?_;obtain⟨S,B,b⟩:=aX b;refine Sc rfl rfl (Ge B) (Y7 ?_);refine bC 9 _ rfl (kl [3,4,5,7,8,10]) ?_;refine ar fun U C=>Y6 ?_;refine cE b (fun E b=>?_) (fun E b=>?_)
 ·refine Y9 ?_;obtain⟨W,F,b⟩:=eB b;refine gC rfl rfl (fun hC=>j8 (k:=49) rfl (j8 (k:=50) rfl (j8 (k:=51) rfl (j6 rfl rfl (fun H=>f (F hC) H))))) rfl ?_;refine Y3 ?_;exact rt b
 refine sk C (Y9 ?_);refine Gk 61 ?_;refine Y1 ?_;refine Gk 63 ?_;obtain⟨X,G,b⟩:=eB b;refine gC rfl rfl (fun hC=>j8 (k:=60) rfl (j8 (k:=62) rfl (j8 (k:=64) rfl (j6 rfl rfl (fun H=>WK (G hC) H))))) rfl ?_;refine Y3 ?_;exact rt b
theorem Nc:∀(n:Nat),(Gg (au:=au) n)
 | 0=>fun b=>by first|cases b|(rw [pU] at b; cases b)
 | n+1=>WL n (Nc n)
def WM (a0:ak) (b:aL) (f:aL):Option Bool:=pU F0 a0 b f
theorem WN {a0 b f r}(g:WM a0 b f=some r) (H:af) :At 156 [.agg (ak.c a0),.agg (aL.c b),.agg (aL.c f)] H (RT (.a (.d (.bool r))) H):=(Nc F0) g H 
def BM (a0:ak) (b:aL) (f:aL):Option Bool:=pU F0 a0 b f
def pN (f:Bs):List Z7->Unit ⊕ ((Z7×Bool))
 | []=>Sum.inl ()
 | g::j=>on (g) fun b=>bif ((b.aa==f)) then(Sum.inr (b,true)) else(pN f (j) )
def pO (a0:(Sl Z7)) (g:Bs):(Z7×Bool):=on (pN g a0.l ) fun b=>match b with|Sum.inl _=>(on (()) fun _=>((Z7.mk [] aL.zero false Z9.zero Sl.nil),false))|Sum.inr f=>(f)
theorem CQ {a0 f w0 r}(b:some (pO a0 f)=some r) (H:af) :At 157 [.d (Sl.d 10 Z7.c w0 a0),.d (.str f)] H (RT (.cL [.agg (Z7.c r.1),.d (.bool r.2)]) H):=by
 unfold pO at b;refine AC.oW 21 [.cell 4 81,.tmp 5] Tryz.call157 Tryz.func157 ?_;refine Y4 ?_;refine dS (tl [4]) (fun(z:Z7)=>[]) (fun z=>[Z7.c z]) (fun z=>H) (fun z=>some (((Z7.mk [] aL.zero false Z9.zero Sl.nil),false))=some r) ?_ ?_
 ·intro C q;refine Y2 ?_;refine aU Z7.c a0 fun E=>Y3 ?_;obtain⟨g,j,b⟩:=dU b;refine gz (tl [1,4,8,9]) (fun(z:Nat×Z7)=>[(10,vi z.1)]) (fun z=>[Z7.c z.2]) (fun z=>H) (fun z=>a0.l.length-z.1) (fun z=>g (pN f (a0.l.drop z.1) )=some r) (0,Z7.zero) b wA ?_;rintro ⟨k,m⟩ b F s;refine Y3 ?_;refine ar fun G t=>?_
  refine ag.bJ (fun l=>g (pN f l )=some r) b rfl (fun I p u b=>?_) (fun u b=>?_)
  ·rw [pN] at b;refine sk t (ar fun J v=>Y2 ?_);obtain⟨K,w,b⟩:=vP p b;refine S (ix Z7.c k w) (Y4 ?_);refine bC 7 _ rfl (kl [1,4,8,9,10]) ?_;refine Y6 ?_;refine cP b (fun y b=>?_) (fun y b=>?_)
   ·refine Y5 ?_;exact rs (ku j b:)
   refine sk v (Y4 ?_);exact s _ ((k+1),m) wA b (dl p)
  rw [pN] at b;have b:=ku j b;refine ag.exit ?_;obtain⟨L,B,b⟩:=dU b;exact q _ m wA (ku B b:)
 rintro M b;refine Y5 ?_;exact rt b
def ol (f:(Sl Int)):List Int->Nat->Option (Unit ⊕ Bool)
 | [],b=>some (Sum.inl ())
 | g::j,b=>on (g) fun k=>(f.l[b]?).bind fun m=>bif (!decide (k=m)) then(some (Sum.inr false)) else(ol f (j) (b+1) )
def wZ (a0:(Sl Int)) (b:(Sl Int)):Option Bool:=bif (!decide (((a0.l.length:Nat):Int)=((b.l.length:Nat):Int))) then(some false) else(Option.bind (ol b a0.l 0 ) fun f=>match f with|Sum.inl _=>(on (()) fun _=>some true)|Sum.inr g=>(some g))
theorem WO {a0 f w0 p r}(b:wZ a0 f=some r) (H:af) :At 186 [.d (Sl.d 1 (bL .i64) w0 a0),.d (Sl.d 1 (bL .i64) p f)] H (RT (.a (.d (.bool r))) H):=by
 unfold wZ at b;refine AC.oW 26 [.tmp 4] Tryz.call186 Tryz.func186 ?_;refine Y3 ?_;refine ar fun G q=>Y2 ?_;refine aU (bL .i64) a0 fun I=>Y1 ?_;refine aU (bL .i64) f fun J=>Y2 ?_;refine cE b (fun s b=>?_) (fun s b=>?_)
 ·refine Y3 ?_;exact rt b
 refine sk q (aO kN (fun(z:Unit)=>[]) (fun z=>H) (fun z=>(some true)=some r) ?_ ?_)
 ·intro K t;refine Y2 ?_;refine aU (bL .i64) a0 fun L=>Y3 ?_;obtain⟨j,k,b⟩:=bZ b;refine bz (tl [0,1,12]) (fun(z:Nat)=>[(13,vi z)]) (fun z=>H) (fun z=>a0.l.length-z) (fun z=>Option.bind (ol f (a0.l.drop z) z ) j=some r) 0 b wA ?_;rintro g b M u;refine Y3 ?_;refine ar fun N v=>?_
  refine ag.bJ (fun l=>Option.bind (ol f l g ) j=some r) b rfl (fun O m w b=>?_) (fun w b=>?_)
  ·rw [ol] at b;refine sk v (ar fun P y=>Y8 ?_);obtain⟨Q,B,b⟩:=vO m b;refine Sd (ix (bL .i64) g B) (Y3 ?_);obtain⟨R,C,b⟩:=aJ b;refine Sd (ix (bL .i64) g C) (Y3 ?_);refine cO b (fun E b=>?_) (fun E b=>?_)
   ·refine Y3 ?_;exact rs (ku k b:)
   refine sk y (Y4 ?_);exact u _ (g+1) wA b (dl m)
  rw [ol] at b;have b:=ku k b;refine ag.exit ?_;obtain⟨S,F,b⟩:=bW b;exact t _ () wA (ku F b:)
 rintro _ b;refine Y3 ?_;exact rt b
def zz (a0:aL) (b:aL):Option Bool:=aZ (((a0.aa==b.aa))) (wZ a0.aH b.aH) false fun x3=>some (((a0.aa==b.aa))&&x3)
theorem WQ {a0 f r}(b:zz a0 f=some r) (H:af) :At 158 [.agg (aL.c a0),.agg (aL.c f)] H (RT (.a (.d (.bool r))) H):=by
 unfold zz at b;refine AC.oW 17 [.tmp 4] Tryz.call158 Tryz.func158 ?_;refine D5 ?_;refine Gk 11 ?_;refine Y1 ?_;refine Gk 13 ?_;obtain⟨x3,g,b⟩:=eB b;refine fS 12 14 rfl rfl rfl rfl rfl rfl (fun hC=>WO (g hC)) ?_;refine Y3 ?_;exact rt b
def mX (j:Bs) (k:(Z6×Bool)):List Z7->Z0->Option (Z0)
 | [],b=>some b
 | l::m,b=>on (l) fun f=>on (pO k.1.ay f.aa) fun g=>aZ (!(!g.2)) (zz f.av g.1.av) false fun p=>Option.bind (bif ((!g.2)||(!p)) then((a_ j ([40]:Bs)).bind fun q=>(a_ q f.aa).bind fun r=>(a_ r ([41]:Bs)).bind fun s=>(k9 b (22:Int) s).bind fun t=>some t) else(some b)) fun u=>mX j k (m) u
def mY (g:Z6) (j:Bs):List Z7->Z0->Option (Z0)
 | [],b=>some b
 | l::m,b=>on (l) fun f=>on (pO g.ay f.aa) fun k=>on (bif (!k.2) then jB f.av else false) fun p=>Option.bind (bif (((!k.2)&&p)&&(!f.ck)) then((a_ j ([40]:Bs)).bind fun q=>(a_ q f.aa).bind fun r=>(a_ r ([41]:Bs)).bind fun s=>(k9 b (22:Int) s).bind fun t=>some t) else(some b)) fun u=>mY g j (m) u
def pY (k:ah):List Z6->Z0->Option (Z0)
 | [],b=>some b
 | m::p,b=>on (m) fun f=>(a_ k.aa ([46]:Bs)).bind fun q=>(a_ q f.aa).bind fun g=>on (zk k f.aa) fun j=>Option.bind (bif (!j.2) then((k9 b (20:Int) g).bind fun r=>some r) else((BM b.Fd j.1.av f.av).bind fun s=>Option.bind (bif (!s) then((k9 b (10:Int) g).bind fun t=>some t) else(some b)) fun u=>Option.bind (mX g j f.ay.l u) fun v=>on (v) fun w=>Option.bind (mY f g j.1.ay.l w) fun y=>some y)) fun z=>pY k (p) z
def zB (a0:Z0) (f:ah) (g:ah):Option Z0:=Option.bind (pY f g.aq.l a0) fun b=>some b
theorem WR {a0 s p c0 f r}(b:zB a0 s p=some r) (H:af) (b7:H c0=some (.cells (Z0.cg (some f) a0))) (a':H f=some (.tok 2 a0.ep.l.length)):At 128 [.d (.ptr c0 0),.agg (ah.c s),.agg (ah.c p)] H (RT (.cL []) (((tS H f 2 r.ep).set c0 (some (.cells (Z0.cg (some f) r)))))):=by
 unfold zB at b;refine AC.oW 128 [] Tryz.call128 Tryz.func128 ?_;have ba:c0≠f:=fun U=>by subst U; simp_all
 refine hz ((tS H f 2 a0.ep).set c0 (some (.cells (Z0.cg (some f) a0)))) (Y7 ?_);refine aU Z6.c p.aq fun bb=>Y3 ?_;obtain⟨u,W,b⟩:=bZ b;refine bz (tl [0,4,20,21]) (fun(z:Nat×Z0)=>[(22,vi z.1)]) (fun z=>((tS H f 2 z.2.ep).set c0 (some (.cells (Z0.cg (some f) z.2))))) (fun z=>p.aq.l.length-z.1) (fun z=>Option.bind (pY s (p.aq.l.drop z.1) z.2) u=some r) (0,a0) b wA ?_
 rintro ⟨v,t⟩ b bc X;refine Y3 ?_;refine ar fun bd Y=>?_;refine ag.bJ (fun l=>Option.bind (pY s l t) u=some r) b rfl (fun be F Z b=>?_) (fun Z b=>?_)
 ·rw [pY] at b;refine sk Y (aO (tl [0,4,20,21,22]) (fun(z:Z0)=>[]) (fun z=>((tS H f 2 z.ep).set c0 (some (.cells (Z0.cg (some f) z))))) (fun z=>Option.bind (pY s (p.aq.l.drop (v+1)) z) u=some r) ?_ ?_)
  ·intro bf G;refine Y2 ?_;obtain⟨g,aa,b⟩:=vO F b;refine S (ix Z6.c v aa) (Y4 ?_);refine bC 7 _ rfl (kl [0,4,20,21,22]) ?_;refine Y3 ?_;obtain⟨bg,ab,b⟩:=aJ b;refine S (bX ab) (Y2 ?_);obtain⟨k,ad,b⟩:=aJ b;refine S (bX ad) (Y6 ?_);obtain⟨j,ae,b⟩:=eG b;refine Sc rfl rfl (WH ae) (Y7 ?_);refine bC 9 _ rfl (kl [0,4,7,8,10,20,21,22]) ?_
   refine ar fun bh ai=>Y4 ?_;obtain⟨I,J,b⟩:=dA b;refine cO b (fun aj b=>?_) (fun aj b=>?_)
   ·refine Y3 ?_;obtain⟨ak,al,b⟩:=aJ b;refine sH (bV rfl rfl (xU al _ az az)) rfl ?_;refine Y1 ?_;refine ag.exit ?_;exact G _ ak wA (ku J b:)
   refine sk ai (aO (tl [0,4,7,8,9,20,21,22]) (fun(z:Z0)=>[]) (fun z=>((tS H f 2 z.ep).set c0 (some (.cells (Z0.cg (some f) z))))) (fun z=>Option.bind (Option.bind (mX k j g.ay.l z) fun q=>on (q) fun w=>Option.bind (mY g k j.1.ay.l w) fun m=>some m) I=some r) ?_ ?_)
   ·intro bi K;refine Y9 ?_;obtain⟨bj,am,b⟩:=aJ b;refine cF rfl rfl (WN am) (Y2 ?_);obtain⟨bk,L,b⟩:=dA b;refine cO b (fun ao b=>?_) (fun ao b=>?_)
    ·refine Y3 ?_;obtain⟨ap,au,b⟩:=aJ b;refine sH (bV rfl rfl (xU au _ az az)) rfl ?_;refine Y1 ?_;exact K _ ap wA (ku L b:)
    refine ag.skip ?_;exact K _ t wA (ku L b:)
   rintro av b;refine aO (tl [0,4,7,8,9,20,21,22]) (fun(z:Z0)=>[]) (fun z=>((tS H f 2 z.ep).set c0 (some (.cells (Z0.cg (some f) z))))) (fun z=>Option.bind (Option.bind (mY g k j.1.ay.l z) fun m=>some m) I=some r) ?_ ?_
   ·intro bl aw;refine Y3 ?_;refine aU Z7.c g.ay fun bm=>Y3 ?_;obtain⟨y,ax,b⟩:=dA b;refine bz (tl [0,4,7,8,9,20,21,22,58,59]) (fun(z:Nat×Z0)=>[(60,vi z.1)]) (fun z=>((tS H f 2 z.2.ep).set c0 (some (.cells (Z0.cg (some f) z.2))))) (fun z=>g.ay.l.length-z.1) (fun z=>Option.bind (mX k j (g.ay.l.drop z.1) z.2) y=some r) (0,av) b wA ?_;rintro ⟨B,q⟩ b bn aA
    refine Y3 ?_;refine ar fun bo aB=>?_;refine ag.bJ (fun l=>Option.bind (mX k j l q) y=some r) b rfl (fun bp M aC b=>?_) (fun aC b=>?_)
    ·rw [mX] at b;refine sk aB (aO (tl [0,4,7,8,9,20,21,22,58,59,60]) (fun(z:Z0)=>[]) (fun z=>((tS H f 2 z.ep).set c0 (some (.cells (Z0.cg (some f) z))))) (fun z=>Option.bind (mX k j (g.ay.l.drop (B+1)) z) y=some r) ?_ ?_)
     ·intro bq N;refine Y2 ?_;obtain⟨br,aD,b⟩:=vO M b;refine S (ix Z7.c B aD) (Y4 ?_);refine bC 12 _ rfl (kl [0,4,7,8,9,20,21,22,58,59,60]) ?_;refine Y5 ?_;obtain⟨bs,aE,b⟩:=eG b;refine Sc rfl rfl (CQ aE) (Y7 ?_);refine bC 13 _ rfl (kl [0,4,7,8,9,12,14,20,21,22,58,59,60]) ?_;refine Y5 ?_;refine Gk 75 ?_;refine Y1 ?_;refine Gk 77 ?_;obtain⟨bt,aF,b⟩:=fz b
      refine fS 76 78 rfl rfl rfl rfl rfl rfl (fun hC=>WQ (aF hC)) ?_;refine Gk 79 ?_;refine Y2 ?_;obtain⟨bu,O,b⟩:=dA b;refine cO b (fun aG b=>?_) (fun aG b=>?_)
      ·refine Y3 ?_;obtain⟨bv,aH,b⟩:=aJ b;refine S (bX aH) (Y2 ?_);obtain⟨bw,aI,b⟩:=aJ b;refine S (bX aI) ?_;obtain⟨bx,aL,b⟩:=aJ b;refine S (bX aL) ?_;obtain⟨aM,aP,b⟩:=aJ b;refine sH (bV rfl rfl (xU aP _ az az)) rfl ?_;refine Y1 ?_;exact N _ aM wA (ku O b:)
      refine ag.skip ?_;exact N _ q wA (ku O b:)
     rintro aR b;refine Y4 ?_;exact aA _ ((B+1),aR) wA b (dl M)
    rw [mX] at b;have b:=ku ax b;refine ag.exit ?_;obtain⟨bA,aS,b⟩:=iy b;exact aw _ q wA (ku aS b:)
   rintro w b;refine Y3 ?_;refine aU Z7.c j.1.ay fun bB=>Y3 ?_;obtain⟨C,aV,b⟩:=dA b;refine bz (tl [0,4,7,8,20,21,22,92,93]) (fun(z:Nat×Z0)=>[(94,vi z.1)]) (fun z=>((tS H f 2 z.2.ep).set c0 (some (.cells (Z0.cg (some f) z.2))))) (fun z=>j.1.ay.l.length-z.1) (fun z=>Option.bind (mY g k (j.1.ay.l.drop z.1) z.2) C=some r) (0,w) b wA ?_
   rintro ⟨E,m⟩ b bD aW;refine Y3 ?_;refine ar fun bF aX=>?_;refine ag.bJ (fun l=>Option.bind (mY g k l m) C=some r) b rfl (fun bG P aY b=>?_) (fun aY b=>?_)
   ·rw [mY] at b;refine sk aX (aO (tl [0,4,7,8,20,21,22,92,93,94]) (fun(z:Z0)=>[]) (fun z=>((tS H f 2 z.ep).set c0 (some (.cells (Z0.cg (some f) z))))) (fun z=>Option.bind (mY g k (j.1.ay.l.drop (E+1)) z) C=some r) ?_ ?_)
    ·intro bH Q;refine Y2 ?_;obtain⟨bI,aZ,b⟩:=vO P b;refine S (ix Z7.c E aZ) (Y4 ?_);refine bC 16 _ rfl (kl [0,4,7,8,20,21,22,92,93,94]) ?_;refine Y5 ?_;obtain⟨bK,a1,b⟩:=eG b;refine Sc rfl rfl (CQ a1) (Y7 ?_);refine bC 17 _ rfl (kl [0,4,7,8,16,18,20,21,22,92,93,94]) ?_;refine Y5 ?_;refine Gk 109 ?_;obtain⟨bL,a2,b⟩:=ee (fun _=>rfl) b
     refine dP 110 rfl rfl rfl rfl rfl (fun hC=>um (a2 hC)) ?_;refine Y3 ?_;refine Gk 114 ?_;refine Gk 115 ?_;refine Y2 ?_;obtain⟨bM,R,b⟩:=dA b;refine cO b (fun a3 b=>?_) (fun a3 b=>?_)
     ·refine Y3 ?_;obtain⟨bN,a4,b⟩:=aJ b;refine S (bX a4) (Y2 ?_);obtain⟨bO,a5,b⟩:=aJ b;refine S (bX a5) ?_;obtain⟨bP,a6,b⟩:=aJ b;refine S (bX a6) ?_;obtain⟨a7,a8,b⟩:=aJ b;refine sH (bV rfl rfl (xU a8 _ az az)) rfl ?_;refine Y1 ?_;exact Q _ a7 wA (ku R b:)
     refine ag.skip ?_;exact Q _ m wA (ku R b:)
    rintro a9 b;refine Y4 ?_;exact aW _ ((E+1),a9) wA b (dl P)
   rw [mY] at b;have b:=ku aV b;refine ag.exit ?_;exact G _ m wA (ku J b:)
  rintro a_ b;refine Y4 ?_;exact X _ ((v+1),a_) wA b (dl F)
 rw [pY] at b;have b:=ku W b;refine ag.exit ?_;repeat (first|refine fQ ?_|refine fP ?_|refine fO ?_)
 obtain rfl:=oJ b;refine bU.gj ((tS H f 2 t.ep).set c0 (some (.cells (Z0.cg (some f) t)))) (xs:=[]) rfl ⟨rfl,rfl⟩ ?_;exact(fun _ _ h=>h)
end Go.Proofs
