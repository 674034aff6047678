import Derived.Test.YtbbkbkhdciklaaaGreatDoorV4
set_option maxRecDepth 100000
set_option maxHeartbeats 2000000
set_option linter.unusedVariables false
set_option linter.unusedSimpArgs false
namespace Go.Proofs
open Go Go.Ab
open aI aq ag dR fO
attribute [local irreducible] aI aH ag aq
variable {ak:bP}
variable {gK:Nat}
def oA (f:Bs):List Bs->Nat->Unit ⊕ Int
 | [],b=>Sum.inl ()
 | g::j,b=>on (g) fun k=>bif ((f==k)) then(Sum.inr ((b:Nat):Int)) else(oA f (j) (b+1) )
def u6 (j:(Sl Bs)) (b:Bs):Int:=on (oA b j.l 0 ) fun f=>match f with|Sum.inl _=>(on (()) fun _=>(-1:Int))|Sum.inr g=>(g)
theorem MF {f g w0 r}(b:some (u6 f g)=some r) (H:ah) :At 127 [.d (Sl.d 1 aW w0 f),.d (.str g)] H (RT (.a (.d (.int .i64 r))) H):=by
 unfold u6 at b;refine AC.oW 19 [.tmp 4] Tryz.call127 Tryz.func127 ?_;refine Y3 ?_;refine aN kN (fun(z:Unit)=>[]) (fun z=>H) (fun z=>some ((-1:Int))=some r) ?_ ?_
 ·intro C s;refine Y2 ?_;refine aV aW f fun E=>Y3 ?_;obtain⟨m,p,b⟩:=eH b;refine bx (tl [0,1,7]) (fun(z:Nat)=>[(8,vi z)]) (fun z=>H) (fun z=>f.l.length-z) (fun z=>m (oA g (f.l.drop z) z )=some r) 0 b wA ?_;rintro j b F t;try dsimp only at b
  refine Y3 ?_;refine ar fun G u=>?_;refine ag.bW (fun l=>m (oA g l j )=some r) b rfl (fun I q k b=>?_) (fun k b=>?_)
  ·rw [oA] at b;try dsimp only at k
   have J:=oD k;refine sk u (ar fun K v=>Y9 ?_);obtain⟨L,w,b⟩:=vP q b;refine S (ix aW j w) (Y3 ?_);refine cP b (fun y b=>?_) (fun y b=>?_)
   ·refine Y4 ?_;exact rs (ku p b:)
   refine sk v (Y4 ?_);exact t _ (j+1) wA b (dl q)
  rw [oA] at b;have b:=ku p b;try dsimp only at b
  refine ag.exit ?_;obtain⟨M,B,b⟩:=eH b;exact s _ () wA (ku B b:)
 rintro _ b;try dsimp only at b
 refine Y3 ?_;exact rt b
def jW (g:(Sl Bs)) (b:Bs):Bool:=on (u6 g b) fun f=>(decide ((0:Int)<=f))
def zm (f:(Sl Bs)) (b:Bs):Option Bool:=some (jW f b)
theorem Uy (a0:(Sl Bs)) (b:Bs):zm a0 b=some (jW a0 b):=rfl
theorem tP {g f w0 r}(b:zm g f=some r) (H:ah) :At 84 [.d (Sl.d 1 aW w0 g),.d (.str f)] H (RT (.a (.d (.bool r))) H):=by
 unfold zm jW at b;refine AC.oW 9 [.tmp 4] Tryz.call84 Tryz.func84 ?_;refine Y6 ?_;obtain⟨k,j,b⟩:=eL b;refine Sc rfl rfl (MF j) (Y3 ?_);exact rt b
def Bl (g:ay) (b:Bs):Bool:=on (jW g.cN b) fun f=>f
def zn (f:ay) (b:Bs):Option Bool:=some (Bl f b)
theorem J5 (a0:ay) (b:Bs):zn a0 b=some (Bl a0 b):=rfl
theorem MG {g f r}(b:zn g f=some r) (H:ah) :At 204 [.agg (ay.c g),.d (.str f)] H (RT (.a (.d (.bool r))) H):=by
 unfold zn Bl at b;refine AC.oW 9 [.tmp 4] Tryz.call204 Tryz.func204 ?_;refine Y8 ?_;obtain⟨k,j,b⟩:=eL b;refine Sc rfl rfl (tP j) (Y2 ?_);exact rt b
def Gi  (b:(Sl Bs)) (f:(List Bs)):Option (Sl Bs):=some b
def yq (b:Nat) (f:(Sl Bs)->Nat->(List Bs)->Option (Sl Bs)) (g:(Sl Bs)) (j:(List Bs)):Option (Sl Bs):=f g (b+1) j
def qE (g:an) :Nat->(Sl Bs)->Nat->(List Bs)->Option (Sl Bs)
 | 0,_,_,_=>none
 | m+1,j,b,f=>bif (decide (((b:Nat):Int)<((g.aA.l.length:Nat):Int))) then((g.aA.l[b]?).bind fun k=>bif (f.contains k.aa) then((bq 16 j (⟨false,[k.aa]⟩:Sl Bs)).bind fun p=>yq b ((qE g m)) p (List.erase f k.aa)) else(yq b ((qE g m)) j f)) else(Gi   j f)
def Bk (b:an)  (f:(List Bs)):Option (Sl Bs):=qE b (b.aA.l.length+1) (Sl.nil:Sl Bs) 0 f
def yp (a0:an) (g:Bs) (f:(ay×Bool))  (j:Bs):Option Bool:=(rZ a0 j).bind fun b=>a_ ((!((!b.2)||(!decide (b.1.aj=(1:Int))))&&(decide (f.1.aj=(2:Int))))) (zn b.1 g) false fun k=>bif (((!b.2)||(!decide (b.1.aj=(1:Int))))||((decide (f.1.aj=(2:Int)))&&(!k))) then(some false) else(some true)
def qF (b:an) (f:Bs) (g:(ay×Bool))  (j:(List Bs)):Option (Sl Bs):=Option.bind (uu (yp b f g) j) fun k=>Bk b  k
def yt (b:Nat) (f:Nat->(List Bs)->Option (Sl Bs)) (g:(List Bs)):Option (Sl Bs):=f (b+1) g
def qG (b:an) (f:Bs) (j:(ay×Bool)) :Nat->Nat->(List Bs)->Option (Sl Bs)
 | 0,_,_=>none
 | m+1,g,k=>bif (decide (((g:Nat):Int)<((b.aA.l.length:Nat):Int))) then((b.aA.l[g]?).bind fun p=>(zn p f).bind fun q=>bif q then(yt g ((qG b f j m)) (cB k p.aa)) else(yt g ((qG b f j m)) k)) else(qF b f j  k)
def uY (k:an) (g:Bs) (b:(ay×Bool)) :Nat->Nat->(List Bs)->Option (Sl Bs)
 | 0,_,_=>none
 | m+1,f,j=>bif (decide (((f:Nat):Int)<((b.1.bV.l.length:Nat):Int))) then((b.1.bV.l[f]?).bind fun p=>(uY k g b m) (f+1) (cB j p.aa)) else(qF k g b  j)
def Bn (g:an) (f:Bs):Option (Sl Bs):=(rZ g f).bind fun b=>bif (decide (b.1.aj=(1:Int))) then(qF g f b  (cB ([]:List Bs) f)) else(bif (decide (b.1.aj=(2:Int))) then(qG g f b (g.aA.l.length+1) 0 ([]:List Bs)) else(bif (decide (b.1.aj=(3:Int))) then(uY g f b (b.1.bV.l.length+1) 0 ([]:List Bs)) else(qF g f b  ([]:List Bs))))
theorem MH {k q r}(b:Bn k q=some r) (H:ah) :At 166 [.agg (an.c k),.d (.str q)] H (RT (.a (.d (Sl.d 1 aW none r))) H):=by
 unfold Bn at b;refine AC.oW 113 [.tmp 4] Tryz.call166 Tryz.func166 ?_;refine ag.tok 1 fun f bk=>?_;refine Y2 ?_;refine s0 (dM (k':=1) rfl) rfl ?_;refine Y4 ?_;obtain⟨s,aB,b⟩:=bO b;refine Sc rfl rfl (iM aB) (Y7 ?_);refine bl 5 _ rfl (kl [1,2]) ?_;refine Y1 ?_;refine sE dA.makeMap rfl (fun _ _ _ ⟨g,ae,aC,aD,aE⟩=>?_);subst aC aD aE
 obtain⟨bm,ae⟩:=ah.dP ae;refine hq ((H.set f (some (.tok 1 0))).set g (some (.map (bg ([]:List Bs))))) (Y2 ?_);refine aN (tl [1,2,5,7]) (fun(z:(List Bs))=>[]) (fun z=>((H.set f (some (.tok 1 0))).set g (some (.map (bg z))))) (fun z=>qF k q s z=some r) ?_ ?_
 ·intro bn C;refine Y9 ?_;refine cE b (fun aF b=>?_) (fun aF b=>?_)
  ·refine Y3 ?_;refine eW (mapUpdate (TK rfl) rfl (TK rfl) rfl rfl rfl rfl au (mr _ _) rfl) rfl rfl ?_;refine hq ((H.set f (some (.tok 1 0))).set g (some (.map (bg (cB ([]:List Bs) q))))) (Y1 ?_);exact C _ (cB ([]:List Bs) q) wA b
  refine Y4 ?_;refine cE b (fun aG b=>?_) (fun aG b=>?_)
  ·refine Y3 ?_;refine aV ay.c k.aA fun bo=>Y3 ?_;refine bx (tl [1,2,5,7,34,35]) (fun(z:Nat×Nat×(List Bs))=>[(36,vi z.2.1)]) (fun z=>((H.set f (some (.tok 1 0))).set g (some (.map (bg z.2.2))))) (fun z=>z.1) (fun z=>qG k q s z.1 z.2.1 z.2.2=some r) ((k.aA.l.length+1),0,([]:List Bs)) b wA ?_;rintro ⟨E,K,F⟩ b bp aJ;try dsimp only at b
   cases E with
   | zero=>cases b
   | succ E =>
     rw [qG] at b;refine Y3 ?_;refine ar fun bq aK=>?_;refine cE b (fun L b=>?_) (fun L b=>?_)
     ·try dsimp only at L
      have br:=oD L;refine sk aK (aN (tl [1,2,5,7,34,35,36]) (fun(z:(List Bs))=>[]) (fun z=>((H.set f (some (.tok 1 0))).set g (some (.map (bg z))))) (fun z=>yt K ((qG k q s E)) z=some r) ?_ ?_)
      ·intro bs af;refine Y2 ?_;obtain⟨ai,aL,b⟩:=bO b;refine S (ix ay.c K aL) (Y4 ?_);refine bl 9 _ rfl (kl [1,2,5,7,34,35,36]) ?_;refine Y3 ?_;obtain⟨bt,aM,b⟩:=bO b;refine Sc rfl rfl (MG aM) (Y1 ?_);refine cE b (fun aO b=>?_) (fun aO b=>?_)
       ·refine Y4 ?_;refine eW (mapUpdate (TK rfl) rfl (TK rfl) rfl rfl rfl rfl au (mr _ _) rfl) rfl rfl ?_;refine hq ((H.set f (some (.tok 1 0))).set g (some (.map (bg (cB F ai.aa))))) (Y1 ?_);exact af _ (cB F ai.aa) wA b
       refine ag.skip ?_;exact af _ F wA b
      rintro aP b;try dsimp only at b
      unfold yt at b;refine Y4 ?_;exact aJ _ (E,(K+1),aP) wA b (nS _)
     refine ag.exit ?_;exact C _ F wA b
  refine Y4 ?_;refine cE b (fun aQ b=>?_) (fun aQ b=>?_)
  ·refine Y3 ?_;refine aV bC.c s.1.bV fun bu=>Y3 ?_;refine bx (tl [1,2,5,7,50,51]) (fun(z:Nat×Nat×(List Bs))=>[(52,vi z.2.1)]) (fun z=>((H.set f (some (.tok 1 0))).set g (some (.map (bg z.2.2))))) (fun z=>z.1) (fun z=>uY k q s z.1 z.2.1 z.2.2=some r) ((s.1.bV.l.length+1),0,([]:List Bs)) b wA ?_;rintro ⟨M,aj,N⟩ b bv aR;try dsimp only at b
   cases M with
   | zero=>cases b
   | succ M =>
     rw [uY] at b;refine Y3 ?_;refine ar fun bw aS=>?_;refine cE b (fun O b=>?_) (fun O b=>?_)
     ·try dsimp only at O
      have bz:=oD O;refine sk aS (ar fun bA aT=>Y2 ?_);obtain⟨ak,aU,b⟩:=bO b;refine S (ix bC.c aj aU) (Y4 ?_);refine bl 11 _ rfl (kl [1,2,5,7,50,51,52]) ?_;refine Y4 ?_;refine eW (mapUpdate (TK rfl) rfl (TK rfl) rfl rfl rfl rfl au (mr _ _) rfl) rfl rfl ?_;refine hq ((H.set f (some (.tok 1 0))).set g (some (.map (bg (cB N ak.aa))))) (Y1 ?_);refine aT _ ?_
      refine Y4 ?_;exact aR _ (M,(aj+1),(cB N ak.aa)) wA b (nS _)
     refine ag.exit ?_;exact C _ N wA b
  refine ag.skip ?_;exact C _ ([]:List Bs) wA b
 rintro aX b;try dsimp only at b
 unfold qF at b;refine aN (tl [2,7]) (fun(z:(List Bs))=>[]) (fun z=>((H.set f (some (.tok 1 0))).set g (some (.map (bg z))))) (fun z=>Bk k z=some r) ?_ ?_
 ·intro bB aY;refine ar fun bD aZ=>ag.OX g (l:=aX) au fun p P j a0=>?_;refine ag.ur (h':=((H.set f (some (.tok 1 0))).set g (some (.d_ p (.map (mE P).toArray j))))) (by first|rfl|(rw [ah.set_set]; rfl)|(funext n_; simp only [ah.set]; (repeat' split)<;>first|rfl|(exfalso; simp_all; done)|(simp_all; done))) ?_;refine Y2 ?_
  refine sE (dA.O3 (TK rfl) rfl rfl au) rfl ?_;rintro _ _ _ ⟨t,u,v,rfl,rfl,rfl⟩;obtain⟨a1,v⟩:=ah.dP v;obtain⟨a2,v⟩:=ah.dP v;refine hq (((H.set f (some (.tok 1 0))).set g (some (.d_ p (.map (mE P).toArray j)))).set t (some (.d_ u (.mapIter (some p) j (#[]) j)))) (Y1 ?_)
  refine aZ _ ?_;refine Y1 ?_;obtain⟨Q,a3,b⟩:=bO b;refine bx (tl [1,2,5,7,61]) (fun(z:List (Bs×Nat)×Array Nat)=>[]) (fun z=>(((H.set f (some (.tok 1 0))).set g (some (.d_ p (.map (mE z.1).toArray j)))).set t (some (.d_ u (.mapIter (some p) j z.2 j))))) (fun z=>(dS z.1 z.2).length) (fun z=>kC (yp k q s) Q j z) (P,#[]) (kC.start a3 a0) wA ?_
  rintro ⟨G,w⟩ m bF al;try dsimp only at m
  refine ar fun bG ao=>Y1 ?_;refine sE (dA.O4 (id:=g) rfl au au m.pop.lt (fun x hx=>m.pop.len _ (List.mem_map_of_mem hx))) rfl ?_;rintro _ _ _ ⟨rfl,⟨a4,rfl,rfl⟩|⟨ap,I,y,rfl,rfl⟩⟩
  ·refine Y2 ?_;refine ao _ ?_;refine ar fun a5 av=>ag.OY g au m.pop ?_;rw [m.done a4]
   refine ag.ur (h':=(((H.set f (some (.tok 1 0))).set g (some (.map (bg Q)))).set t (some (.d_ u (.mapIter (some p) j w j))))) (by first|rfl|(rw [ah.set_set]; rfl)|(funext n_; simp only [ah.set]; (repeat' split)<;>first|rfl|(exfalso; simp_all; done)|(simp_all; done))) ?_;refine ag.cond rfl (fun R=>by cases R) fun _=>?_;refine ag.exit ?_
   exact aY _ Q (cI.toFA (by(intro a6 bH U); (have a7:a6≠t:=fun a8=>by rw [a8] at U; simp [ah.set,v,a2,a1] at U); (rw [<- U]); (simp only [ah.set,if_neg a7]); (first|done|rfl))) b
  obtain⟨r,W⟩:=m.told _ (xz y).1;have b:=W;simp only at b;unfold yp at b;refine hq (((H.set f (some (.tok 1 0))).set g (some (.d_ p (.map (mE G).toArray j)))).set t (some (.d_ u (.mapIter (some p) j (w.push I) j)))) (Y2 ?_);refine ao _ ?_;refine ar fun a5 av=>ag.cond rfl (fun _=>?_) (fun R=>by cases R);refine ag.skip ?_;refine av _ ?_
  refine Y2 ?_;refine s0 (O7 (id:=g) rfl au au (xz y).1 m.pop.nodup (m.pop.len _ (List.mem_map_of_mem (xz y).1))) rfl ?_;refine Y6 ?_;obtain⟨bI,a9,b⟩:=bO b;refine Sc rfl rfl (iM a9) (Y7 ?_);refine bl 13 _ rfl (kl [1,2,5,7,12,14,61]) ?_;refine Y5 ?_;refine Gk 75 ?_;refine Gk 76 ?_;refine Y3 ?_;refine Gk 80 ?_;refine Gk 81 ?_;refine Gk 82 ?_;refine Y2 ?_
  obtain⟨bJ,a_,b⟩:=gO b;refine fV 84 85 rfl rfl rfl rfl rfl rfl (fun hC=>MG (a_ hC)) ?_;refine Gk 86 ?_;refine bE 83 rfl (fun hC=>f_ rfl rfl rfl) ?_;refine Y2 ?_;refine cE b (fun a' b=>?_) (fun a' b=>?_)
  ·refine Y3 ?_;refine eW (O5 (TK rfl) rfl (TK rfl) rfl rfl rfl rfl au (fun x hx=>m.pop.len _ (List.mem_map_of_mem hx))) rfl rfl ?_;refine hq (((H.set f (some (.tok 1 0))).set g (some (.d_ p (.map (mE (gM G ap)).toArray j)))).set t (some (.d_ u (.mapIter (some p) j (w.push I) j)))) (Y1 ?_);obtain rfl:=oJ b;obtain⟨X,Y⟩:=m.drop y W
   exact al _ ((gM G ap),w.push I) wA X Y
  refine ag.skip ?_;obtain rfl:=oJ b;obtain⟨X,Y⟩:=m.keep y W;exact al _ (G,w.push I) wA X Y
 rintro ba b;try dsimp only at b
 unfold Bk at b;refine Y3 ?_;refine ag.gv 15 1 f rfl au ?_;refine aN kN (fun(z:(Sl Bs)×(List Bs))=>[(15,.a (.d (Sl.d 1 aW (some f) z.1)))]) (fun z=>((tS H f 1 z.1).set g (some (.map (bg z.2))))) (fun z=>Gi z.1 z.2=some r) ?_ ?_
 ·intro bK bb;refine Y3 ?_;refine aV ay.c k.aA fun bL=>Y3 ?_;refine bx (tl [7,93,94]) (fun(z:Nat×(Sl Bs)×Nat×(List Bs))=>[(15,.a (.d (Sl.d 1 aW (some f) z.2.1))),(95,vi z.2.2.1)]) (fun z=>((tS H f 1 z.2.1).set g (some (.map (bg z.2.2.2))))) (fun z=>z.1) (fun z=>qE k z.1 z.2.1 z.2.2.1 z.2.2.2=some r) ((k.aA.l.length+1),(Sl.nil:Sl Bs),0,ba) b wA ?_
  rintro ⟨J,aw,Z,B⟩ b bM bc;try dsimp only at b
  cases J with
  | zero=>cases b
  | succ J =>
    rw [qE] at b;refine Y3 ?_;refine ar fun bN bd=>?_;refine cE b (fun ab b=>?_) (fun ab b=>?_)
    ·try dsimp only at ab
     have bP:=oD ab;refine sk bd (aN (tl [7,93,94,95]) (fun(z:(Sl Bs)×(List Bs))=>[(15,.a (.d (Sl.d 1 aW (some f) z.1)))]) (fun z=>((tS H f 1 z.1).set g (some (.map (bg z.2))))) (fun z=>yq Z ((qE k J)) z.1 z.2=some r) ?_ ?_)
     ·intro bQ ax;refine Y2 ?_;obtain⟨az,be,b⟩:=bO b;refine S (ix ay.c Z be) (Y4 ?_);refine bl 17 _ rfl (kl [7,15,93,94,95]) ?_;refine Y4 ?_;refine s0 (ul (TK rfl) rfl (TK rfl) (TK rfl) rfl rfl rfl rfl au) rfl ?_;refine Y1 ?_;refine cE b (fun bf b=>?_) (fun bf b=>?_)
      ·refine Y5 ?_;obtain⟨ad,bh,b⟩:=bO b;refine SH (am aW (TK rfl) rfl (TK rfl) (TK rfl) bh) ?_;refine hq ((tS H f 1 ad).set g (some (.map (bg B)))) (Y6 ?_);refine eW (O6 (TK rfl) rfl (TK rfl) rfl rfl rfl rfl au) rfl rfl ?_;refine hq ((tS H f 1 ad).set g (some (.map (bg (List.erase B az.aa))))) (Y1 ?_);exact ax _ (ad,(List.erase B az.aa)) wA b
      refine ag.skip ?_;exact ax _ (aw,B) wA b
     rintro ⟨bi,bj⟩ b;try dsimp only at b
     unfold yq at b;refine Y4 ?_;exact bc _ (J,bi,(Z+1),bj) wA b (nS _)
    refine ag.exit ?_;exact bb _ (aw,B) wA b
 rintro ⟨bS,bT⟩ b;try dsimp only at b
 unfold Gi at b;refine Y4 ?_;refine ag.eG 4 rfl ?_;exact rs b
def Bm (f:an) (b:Bs):Option (Sl Bs):=Bn f b
def v_  :Option Int:=some (-1:Int)
def we (f:(Sl Bs)) (g:(Bs->Option Bool)) :Nat->Nat->Option Int
 | 0,_=>none
 | j+1,b=>bif (decide (((b:Nat):Int)<((f.l.length:Nat):Int))) then((f.l[b]?).bind fun k=>(g k).bind fun m=>bif m then(some ((b:Nat):Int)) else((we f g j) (b+1))) else(v_   )
def zo (b:(Sl Bs)) (f:(Bs->Option Bool)):Option Int:=we b f (b.l.length+1) 0
theorem Wa {f g w0 m r}(b:zo f g=some r) (H:ah) (s:∀p r,g p=some r->iL Tryz.prog m [.d (.str p)] H (RT (.a (.d (.bool r))) H)):At 205 [.d (Sl.d 1 aW w0 f),.d m] H (RT (.a (.d (.int .i64 r))) H):=by
 unfold zo at b;refine AC.oW 19 [.tmp 4] Tryz.call205 Tryz.func205 ?_;refine Y3 ?_;refine aN kN (fun(z:Unit)=>[]) (fun z=>H) (fun z=>v_ =some r) ?_ ?_
 ·intro E t;refine Y2 ?_;refine aV aW f fun F=>Y3 ?_;refine bx (tl [0,1,7]) (fun(z:Nat×Nat)=>[(8,vi z.2)]) (fun z=>H) (fun z=>z.1) (fun z=>we f g z.1 z.2=some r) ((f.l.length+1),0) b wA ?_;rintro ⟨j,q⟩ b G u;try dsimp only at b
  cases j with
  | zero=>cases b
  | succ j =>
    rw [we] at b;refine Y3 ?_;refine ar fun I v=>?_;refine cE b (fun k b=>?_) (fun k b=>?_)
    ·try dsimp only at k
     have J:=oD k;refine sk v (ar fun K w=>Y9 ?_);obtain⟨L,y,b⟩:=bO b;refine S (ix aW q y) (Y1 ?_);obtain⟨M,B,b⟩:=bO b;refine s0 (mA rfl rfl (s _ _ B)) rfl ?_;refine Y1 ?_;refine cE b (fun C b=>?_) (fun C b=>?_)
     ·refine Y4 ?_;exact rt b
     refine sk w (Y4 ?_);exact u _ (j,(q+1)) wA b (nS _)
    refine ag.exit ?_;exact t _ () wA b
 rintro _ b;try dsimp only at b
 unfold v_ at b;refine Y3 ?_;exact rt b
def zp (f:(Bs->Bool)):List Bs->Nat->Unit ⊕ Int
 | [],b=>Sum.inl ()
 | g::j,b=>on (g) fun k=>on (f k) fun l=>bif l then(Sum.inr ((b:Nat):Int)) else(zp f (j) (b+1) )
theorem Wb {g:Sl Bs}{k:Bs->Bool}(j:(Unit ⊕ Int)->Option Int) (p:∀(f:Nat) (b:Nat),v_   =j (Sum.inl ())) (q:∀e:Int,some e=j (Sum.inr e)):∀(f:Nat) (b:Nat),(0<f/\g.l.length<b+f)->we g (fun r=>some (k r)) f b=j (zp k (g.l.drop b) b ):=by
 intro f;induction f with
 | zero=>intro b hn; exact absurd hn.1 (by omega)
 | succ f s =>
  intro b hn;rw [we];by_cases aJ:b<g.l.length
  ·obtain⟨t,m⟩:=Qa aJ;rw [Q.gP m,zp];refine QT aJ ?_;refine Q.ii m fun u v=>?_;refine Q.ii rfl fun w y=>?_;refine Q.nO ?_ ?_
   ·all_goals exact q _
   all_goals exact s _ ⟨by omega,by omega⟩
  rw [dL (by omega),zp];refine QF aJ ?_;exact p f b
def Gj (j:(Sl Bs)) (b:(Bs->Bool)):Int:=on (zp b j.l 0 ) fun f=>match f with|Sum.inl _=>(on (()) fun _=>(-1:Int))|Sum.inr g=>(g)
theorem Wc (a0:(Sl Bs)) (b:(Bs->Bool)):zo a0 (fun g=>some (b g))=some (Gj a0 b):=by
 unfold zo Gj;refine Q.jt fun j f=>?_;refine Wb  j ?_ ?_ _ _ ⟨Nat.succ_pos _,by omega⟩
 ·intro p q;refine Qe (f _) ?_;try dsimp only
  refine Q.jt fun k l=>?_;have m:v_  =k ():=by
   refine Qe (l _) ?_;unfold v_;all_goals rfl
  all_goals exact m
 intro r;refine Qe (f _) ?_;try dsimp only
 all_goals rfl
def zq (g:(Sl Bs)) (b:(Bs->Option Bool)):Option Bool:=(zo g b).bind fun f=>some (decide ((0:Int)<=f))
theorem Wd {k f w0 g r}(b:zq k f=some r) (H:ah) (l:∀j r,f j=some r->iL Tryz.prog g [.d (.str j)] H (RT (.a (.d (.bool r))) H)):At 167 [.d (Sl.d 1 aW w0 k),.d g] H (RT (.a (.d (.bool r))) H):=by
 unfold zq at b;refine AC.oW 9 [.tmp 4] Tryz.call167 Tryz.func167 ?_;refine Y6 ?_;obtain⟨p,m,b⟩:=bO b;refine s0 (eV rfl rfl (Wa m _ l)) rfl ?_;refine Y3 ?_;exact rt b
def Gl (g:(Sl Bs)) (b:(Bs->Bool)):Bool:=on (Gj g b) fun f=>(decide ((0:Int)<=f))
theorem We (a0:(Sl Bs)) (b:(Bs->Bool)):zq a0 (fun f=>some (b f))=some (Gl a0 b):=by
 unfold zq Gl;refine Q.ii (Wc _ _) fun g j=>?_;all_goals rfl
def CB (g:Bs) (b:(Sl Bs)):Bool:=on (jW b g) fun f=>f
def CC (f:Bs) (b:(Sl Bs)):Option Bool:=some (CB f b)
theorem Wf (a0:Bs) (b:(Sl Bs)):CC a0 b=some (CB a0 b):=rfl
theorem Wh {g f r}(b:CC g f=some r) (H:ah) :At 168 [.d (.str g),.d (.view ((fun s=>[Sl.d 1 aW none s]) f))] H (RT (.a (.d (.bool r))) H):=by
 unfold CC CB at b;refine AC.oW 7 [.tmp 3] Tryz.call168 Tryz.func168 ?_;refine Y6 ?_;obtain⟨k,j,b⟩:=eL b;refine Sc rfl rfl (tP j) (Y2 ?_);exact rt b
def yu (b:an) (f:Bs) (m:Bs):Option Bool:=(Bm b m).bind fun g=>(Bm b f).bind fun j=>on (Gl j (fun k=>CB k g)) fun l=>some l
theorem Wi {g f j r}(b:yu g f j=some r) (H:ah) :At 126 [.agg (an.c g),.d (.str f),.d (.str j)] H (RT (.a (.d (.bool r))) H):=by
 unfold yu at b;refine AC.oW 16 [.tmp 6] Tryz.call126 Tryz.func126 ?_;refine Y7 ?_;obtain⟨k,l,b⟩:=bz b;refine Sc rfl rfl (MH l) (Y3 ?_);refine bl 7 _ rfl (kl [1,3]) ?_;refine Y3 ?_;obtain⟨m,p,b⟩:=bz b;refine Sc rfl rfl (MH p) (s0 (makeFunc rfl) rfl ?_);obtain⟨t,q,b⟩:=vT (o:=zq m (fun s=>CC s k)) (by simp only [Wf,We]) b
 refine s0 (fT rfl rfl (fun H=>Wd q H (fun _ _ hx=>Wh hx _))) rfl ?_;refine Y2 ?_;exact rt b
def uZ (g:Z3) (b:Bs) (k:Bs):Option Bool:=on (fC g.Fd b) fun f=>a_ (f) (yu g.Fd b k) false fun j=>some (f&&(!j))
theorem MI {j f l m g r}(b:uZ j f l=some r) (H:ah) (s:H g=some (.cells (Z3.cg m j))):At 82 [.d (.ptr g 0),.d (.str f),.d (.str l)] H (RT (.a (.d (.bool r))) H):=by
 unfold uZ at b;refine AC.oW 23 [.tmp 6] Tryz.call82 Tryz.func82 ?_;refine Y9 ?_;obtain⟨t,p,b⟩:=dD b;refine Sc rfl rfl (me p) (Y2 ?_);refine Gk 14 ?_;refine bE 15 rfl (fun hC=>iJ (TK rfl) rfl rfl (TK rfl) rfl rfl) ?_;refine bE 16 rfl (fun hC=>iI (TK rfl) rfl rfl au rfl) ?_;refine Y2 ?_;obtain⟨u,q,b⟩:=dV b
 refine gC rfl rfl (fun hC=>fm (k:=17) rfl (fm (k:=18) rfl (fm (k:=19) rfl (fT rfl rfl (fun H=>Wi (q hC) H))))) rfl ?_;refine Gk 20 ?_;refine Y3 ?_;exact rt b
def lP (b:Bs):List aT->Unit ⊕ ((aT×Bool))
 | []=>Sum.inl ()
 | g::j=>on (g) fun f=>bif ((f.aa==b)) then(Sum.inr (f,true)) else(lP b (j) )
def kM (j:ay) (b:Bs):(aT×Bool):=on (lP b j.bA.l ) fun f=>match f with|Sum.inl _=>(on (()) fun _=>((aT.mk [] Sl.nil ax.zero Sl.nil),false))|Sum.inr g=>(g)
theorem CD {f g r}(b:some (kM f g)=some r) (H:ah) :At 83 [.agg (ay.c f),.d (.str g)] H (RT (.b_ [.agg (aT.c r.1),.d (.bool r.2)]) H):=by
 unfold kM at b;refine AC.oW 22 [.cell 4 58,.tmp 5] Tryz.call83 Tryz.func83 ?_;refine Y5 ?_;refine fh (tl [4]) (fun(z:aT)=>[]) (fun z=>[aT.c z]) (fun z=>H) (fun z=>some (((aT.mk [] Sl.nil ax.zero Sl.nil),false))=some r) ?_ ?_
 ·intro E t;refine Y3 ?_;refine aV aT.c f.bA fun F=>Y3 ?_;obtain⟨k,m,b⟩:=eH b;refine iA (tl [1,4,9,10]) (fun(z:Nat×aT)=>[(11,vi z.1)]) (fun z=>[aT.c z.2]) (fun z=>H) (fun z=>f.bA.l.length-z.1) (fun z=>k (lP g (f.bA.l.drop z.1) )=some r) (0,aT.zero) b wA ?_;rintro ⟨p,q⟩ b G u;try dsimp only at b
  refine Y3 ?_;refine ar fun I v=>?_;refine ag.bW (fun l=>k (lP g l )=some r) b rfl (fun J s j b=>?_) (fun j b=>?_)
  ·rw [lP] at b;try dsimp only at j
   have K:=oD j;refine sk v (ar fun L w=>Y2 ?_);obtain⟨M,y,b⟩:=vP s b;refine S (ix aT.c p y) (Y4 ?_);refine bl 7 _ rfl (kl [1,4,9,10,11]) ?_;refine Y6 ?_;refine cP b (fun B b=>?_) (fun B b=>?_)
   ·refine Y5 ?_;exact rs (ku m b:)
   refine sk w (Y4 ?_);exact u _ ((p+1),q) wA b (dl s)
  rw [lP] at b;have b:=ku m b;try dsimp only at b
  refine ag.exit ?_;obtain⟨N,C,b⟩:=eH b;exact t _ q wA (ku C b:)
 rintro O b;try dsimp only at b
 refine Y5 ?_;exact rt b
def lT (k:Bs) (g:Bs) (l:Z3->(Sl ai)->Bs->Bs->Option Z3):List ai->Z3->Option (Z3)
 | [],f=>some f
 | v::w,f=>on (v) fun b=>Option.bind (bif (decide (b.aj=(2:Int))) then(on (jV f.Fq b.aa) fun j=>(iW f (!j.2) (24:Int) g).bind fun m=>on (bif j.2 then fC m.Fd j.1.b9 else false) fun r=>a_ ((j.2&&r)) (uZ m k j.1.b9) false fun y=>(iW m ((j.2&&r)&&y) (25:Int) g).bind fun z=>some z) else(bif (decide (b.aj=(3:Int))) then(Option.bind (bif (!(b.b9==([]:Bs))) then(on (fC f.Fd b.b9) fun p=>(iW f (!p) (24:Int) g).bind fun s=>a_ (p) (uZ s k b.b9) false fun B=>(iW s (p&&B) (25:Int) g).bind fun C=>some (b.b9,C)) else(some (k,f))) fun t=>(l t.2 b.aK t.1 g).bind fun E=>some E) else(on (bif ((b.cq==([]:Bs))) then(b.aa) else(b.cq)) fun F=>on (cL f.Fd k) fun q=>on (bif q.2 then fC f.Fd k else false) fun G=>on (bif (q.2&&G) then(on (kM q.1 b.aa) fun u=>bif u.2 then(u.1.aM.aa) else(([]:Bs))) else(([]:Bs))) fun H=>(cC g ([47]:Bs)).bind fun I=>(cC I F).bind fun J=>(l f b.aK H J).bind fun K=>some K))) fun L=>lT k g l (w) L
def iE:Nat->Z3->(Sl ai)->Bs->Bs->Option Z3
 | 0,_,_,_,_=>none
 | n+1,g,b,j,k=>Option.bind (lT j k (iE n) b.l g) fun f=>some f
def Gm (n:Nat):Prop:=∀{a0:Z3}{g:(Sl ai)}{a2:Bs}{a3:Bs}{j:Option Nat}{f:Nat}{b:Nat}{r:Z3},iE n a0 g a2 a3=some r->∀(H:ah) (k:H f=some (.cells (Z3.cg (some b) a0))) (m:H b=some (.tok 2 a0.aC.l.length)),At 37 [.d (.ptr f 0),.d (Sl.d 7 ai.c j g),.d (.str a2),.d (.str a3)] H (RT (.b_ []) (((tS H b 2 r.aC).set f (some (.cells (Z3.cg (some b) r))))))
theorem Wj (n:Nat) (K:Gm (ak:=ak) n):Gm (ak:=ak) (n+1):=by
 intro J p s t aX g f r b H aY aZ;rw [iE] at b;refine AC.oW 147 [] Tryz.call37 Tryz.func37 ?_;have a0:g≠f:=fun U=>by subst U; simp_all
 refine hz ((tS H f 2 J.aC).set g (some (.cells (Z3.cg (some f) J)))) (Y2 ?_);refine aV ai.c p fun a1=>Y3 ?_;obtain⟨u,W,b⟩:=b5 b;refine bx (tl [0,2,3,20,21]) (fun(z:Nat×Z3)=>[(22,vi z.1)]) (fun z=>((tS H f 2 z.2.aC).set g (some (.cells (Z3.cg (some f) z.2))))) (fun z=>p.l.length-z.1) (fun z=>Option.bind (lT s t (iE n) (p.l.drop z.1) z.2) u=some r) (0,J) b wA ?_
 rintro ⟨v,j⟩ b a2 X;try dsimp only at b
 refine Y3 ?_;refine ar fun a3 Y=>?_;refine ag.bW (fun l=>Option.bind (lT s t (iE n) l j) u=some r) b rfl (fun a4 L w b=>?_) (fun w b=>?_)
 ·rw [lT] at b;try dsimp only at w
  have a5:=oD w;refine sk Y (aN (tl [0,2,3,20,21,22]) (fun(z:Z3)=>[]) (fun z=>((tS H f 2 z.aC).set g (some (.cells (Z3.cg (some f) z))))) (fun z=>Option.bind (lT s t (iE n) (p.l.drop (v+1)) z) u=some r) ?_ ?_)
  ·intro a6 y;refine Y2 ?_;obtain⟨q,Z,b⟩:=vO L b;refine S (ix ai.c v Z) (Y4 ?_);refine bl 9 _ rfl (kl [0,2,3,20,21,22]) ?_;refine Y9 ?_;obtain⟨ab,B,b⟩:=eB b;refine cO b (fun ad b=>?_) (fun ad b=>?_)
   ·refine Y7 ?_;obtain⟨a7,ae,b⟩:=dm b;refine ck rfl rfl (v8 ae) (Y7 ?_);refine bl 10 _ rfl (kl [0,2,3,11,20,21,22]) ?_;refine Y5 ?_;obtain⟨M,af,b⟩:=aQ b;refine sH (bF rfl rfl (tO af _ au au)) rfl ?_;refine hq ((tS H f 2 M.aC).set g (some (.cells (Z3.cg (some f) M)))) (Y1 ?_);refine ag.draw rfl ?_;refine Y4 ?_;refine cG 92 ?_
    refine fL 93 rfl (fun hC=>iJ (TK rfl) rfl rfl (TK rfl) rfl rfl) ?_;refine fL 94 rfl (fun hC=>iI (TK rfl) rfl rfl au rfl) ?_;refine Y1 ?_;refine cG 96 ?_;obtain⟨a8,aj,b⟩:=fo (fun _=>rfl) b;refine nP 95 97 rfl rfl rfl rfl rfl rfl (fun hC=>me (aj hC)) ?_;refine Y5 ?_;refine cG 103 ?_;obtain⟨a9,al,b⟩:=fG b
    refine aH.gC rfl rfl (fun hC=>fm (k:=101) rfl (fm (k:=102) rfl (fm (k:=104) rfl (eV rfl rfl (MI (al hC) _ au))))) rfl ?_;refine Y2 ?_;obtain⟨C,am,b⟩:=aQ b;refine aH.sH (bF rfl rfl (tO am _ au au)) rfl ?_;refine aH.Dh ((tS H f 2 C.aC).set g (some (.cells (Z3.cg (some f) C)))) ?_;refine Y1 ?_;exact y _ C wA (ku B b:)
   refine Y4 ?_;refine cO b (fun an b=>?_) (fun an b=>?_)
   ·refine Y4 ?_;obtain⟨ao,ap,b⟩:=eB b;refine aN (tl [0,2,3,9,20,21,22]) (fun(z:Bs×Z3)=>[(12,.a (.d (.str z.1)))]) (fun z=>((tS H f 2 z.2.aC).set g (some (.cells (Z3.cg (some f) z.2))))) (fun z=>ao (z.1,z.2)=some r) ?_ ?_
    ·intro a_ N;refine Y5 ?_;refine cO b (fun av b=>?_) (fun av b=>?_)
     ·refine kH ?_;obtain⟨a',aw,b⟩:=dm b;refine ck rfl rfl (me aw) (Y7 ?_);obtain⟨O,ax,b⟩:=aQ b;refine sH (bF rfl rfl (tO ax _ au au)) rfl ?_;refine hq ((tS H f 2 O.aC).set g (some (.cells (Z3.cg (some f) O)))) (Y8 ?_);refine Gk 134 ?_;obtain⟨ba,ay,b⟩:=fG b
      refine gC rfl rfl (fun hC=>fm (k:=132) rfl (fm (k:=133) rfl (fm (k:=135) rfl (eV rfl rfl (MI (ay hC) _ au))))) rfl ?_;refine Y2 ?_;obtain⟨E,az,b⟩:=aQ b;refine sH (bF rfl rfl (tO az _ au au)) rfl ?_;refine hq ((tS H f 2 E.aC).set g (some (.cells (Z3.cg (some f) E)))) (Y1 ?_);exact N _ (q.b9,E) wA b
     refine ag.skip ?_;exact N _ (s,j) wA b
    rintro ⟨bb,bc⟩ b;try dsimp only at b
    have b:=ku ap b;try dsimp only at b
    refine Y3 ?_;refine s0 (cA (TK rfl) rfl rfl (congrArg (fun x=>some (A.d x)) (ai.gD _))) rfl ?_;refine Y2 ?_;obtain⟨F,aA,b⟩:=aQ b;refine sH (bF rfl rfl (K aA _ au au)) rfl ?_;refine hq ((tS H f 2 F.aC).set g (some (.cells (Z3.cg (some f) F)))) (Y1 ?_);exact y _ F wA (ku B b:)
   refine Y6 ?_;obtain⟨aB,aD,b⟩:=gB b;refine aN (tl [0,2,3,9,15,20,21,22]) (fun(z:Bs)=>[(14,.a (.d (.str z)))]) (fun z=>((tS H f 2 j.aC).set g (some (.cells (Z3.cg (some f) j))))) (fun z=>aB z=some r) ?_ ?_
   ·intro bd P;refine Y4 ?_;refine cP b (fun aE b=>?_) (fun aE b=>?_)
    ·refine Y5 ?_;exact P _ q.aa wA b
    refine ag.skip ?_;exact P _ q.cq wA b
   rintro aF b;try dsimp only at b
   have b:=ku aD b;refine aN (tl [0,2,3,9,14,20,21,22]) (fun(z:Bs)=>[(15,.a (.d (.str z)))]) (fun z=>((tS H f 2 j.aC).set g (some (.cells (Z3.cg (some f) j))))) (fun z=>Option.bind ((cC t ([47]:Bs)).bind fun Q=>(cC Q aF).bind fun R=>((iE n) j q.aK z R).bind fun m=>some m) ab=some r) ?_ ?_
   ·intro be G;refine Y6 ?_;obtain⟨bf,aG,b⟩:=dm b;refine Sc rfl rfl (iM aG) (Y7 ?_);refine bl 16 _ rfl (kl [0,2,3,9,14,15,17,20,21,22]) ?_;refine Y4 ?_;refine Gk 45 ?_;refine bE 46 rfl (fun hC=>iJ (TK rfl) rfl rfl (TK rfl) rfl rfl) ?_;refine bE 47 rfl (fun hC=>iI (TK rfl) rfl rfl au rfl) ?_;refine Y1 ?_;obtain⟨bg,aJ,b⟩:=fo (fun _=>rfl) b
    refine fV 48 49 rfl rfl rfl rfl rfl rfl (fun hC=>me (aJ hC)) ?_;refine Y2 ?_;obtain⟨bh,I,b⟩:=gB b;refine cP b (fun aL b=>?_) (fun aL b=>?_)
    ·refine Y4 ?_;obtain⟨aO,aP,b⟩:=eL b;refine Sc rfl rfl (CD aP) (Y7 ?_);refine bl 18 _ rfl (kl [0,2,3,9,14,15,19,20,21,22]) ?_;refine Y3 ?_;refine cP b (fun aR b=>?_) (fun aR b=>?_)
     ·refine Y6 ?_;exact G _ aO.1.aM.aa wA (ku I b:)
     refine ag.skip ?_;exact G _ ([]:Bs) wA (ku I b:)
    refine ag.skip ?_;exact G _ ([]:Bs) wA (ku I b:)
   rintro bi b;try dsimp only at b
   refine Y3 ?_;refine s0 (cA (TK rfl) rfl rfl (congrArg (fun x=>some (A.d x)) (ai.gD _))) rfl ?_;refine Y2 ?_;obtain⟨Q,aS,b⟩:=aQ b;refine S (eN aS) (Y1 ?_);obtain⟨R,aT,b⟩:=aQ b;refine S (eN aT) ?_;obtain⟨m,aU,b⟩:=aQ b;refine sH (bF rfl rfl (K aU _ au au)) rfl ?_;refine hq ((tS H f 2 m.aC).set g (some (.cells (Z3.cg (some f) m)))) (Y1 ?_)
   exact y _ m wA (ku B b:)
  rintro aW b;try dsimp only at b
  refine Y4 ?_;exact X _ ((v+1),aW) wA b (dl L)
 rw [lT] at b;have b:=ku W b;refine ag.exit ?_;repeat (first|refine eS ?_|refine eR ?_|refine eP ?_)
 obtain rfl:=oJ b;refine bR.eX ((tS H f 2 j.aC).set g (some (.cells (Z3.cg (some f) j)))) (xs:=[]) rfl ⟨rfl,rfl⟩ ?_;exact(fun _ _ h=>h)
theorem MJ:∀(n:Nat),(Gm (ak:=ak) n)
 | 0=>fun b=>by first|cases b|(rw [iE] at b; cases b)
 | n+1=>Wj n (MJ n)
def Wl (f:Z3) (b:(Sl ai)) (g:Bs) (j:Bs):Option Z3:=iE F0 f b g j
theorem MK {g j k m p f b r}(q:Wl g j k m=some r) (H:ah) (s:H f=some (.cells (Z3.cg (some b) g))) (t:H b=some (.tok 2 g.aC.l.length)):At 37 [.d (.ptr f 0),.d (Sl.d 7 ai.c p j),.d (.str k),.d (.str m)] H (RT (.b_ []) (((tS H b 2 r.aC).set f (some (.cells (Z3.cg (some b) r)))))):=(MJ F0) q H s t
def Fb (f:Z3) (b:(Sl ai)) (g:Bs) (j:Bs):Option Z3:=iE F0 f b g j
def wi  (b:(Sl Bs)) (f:Bool):Option ((Sl Bs)×Bool):=some (b,f)
def wj (b:Nat) (f:(Sl Bs)->Bool->Nat->Option ((Sl Bs)×Bool)) (g:(Sl Bs)) (j:Bool):Option ((Sl Bs)×Bool):=f g j (b+1)
def wm (p:aR) (f:Nat) (g:(Sl Bs)->Bool->Nat->Option ((Sl Bs)×Bool)) (j:aR->(Sl ai)->(Sl Bs)->Option ((Sl Bs)×Bool)) (k:(Sl Bs)) (l:Bool) (m:(Sl ai)):Option ((Sl Bs)×Bool):=(j p m k).bind fun b=>wj f g b.1 (l&&b.2)
def kZ (b:aR) (f:(Sl ai)) (g:aR->(Sl ai)->(Sl Bs)->Option ((Sl Bs)×Bool)):Nat->(Sl Bs)->Bool->Nat->Option ((Sl Bs)×Bool)
 | 0,_,_,_=>none
 | r+1,j,q,k=>bif (decide (((k:Nat):Int)<((f.l.length:Nat):Int))) then((f.l[k]?).bind fun m=>bif (decide (m.aj=(2:Int))) then((CA b m.aa).bind fun p=>a_ (!(!p.2)) (zm j m.aa) false fun s=>bif ((!p.2)||s) then(wj k ((kZ b f g r)) j (q&&p.2)) else((bq 16 j (⟨false,[m.aa]⟩:Sl Bs)).bind fun t=>wm b k ((kZ b f g r)) g t (q&&p.2) p.1.aK)) else(wm b k ((kZ b f g r)) g j q m.aK)) else(wi   j q)
def k5:Nat->aR->(Sl ai)->(Sl Bs)->Option ((Sl Bs)×Bool)
 | 0,_,_,_=>none
 | n+1,f,b,g=>kZ f b (k5 n) (b.l.length+1) g true 0
def Gn (n:Nat):Prop:=∀{a0:aR}{b:(Sl ai)}{a2:(Sl Bs)}{f:Option Nat}{g2:Nat}{r:((Sl Bs)×Bool)},k5 n a0 b a2=some r->∀(H:ah) (g:H g2=some (.tok 1 a2.l.length)),At 39 [.agg (aR.c a0),.d (Sl.d 7 ai.c f b),.d (Sl.d 1 aW (some g2) a2)] H (RT (.b_ [.d (Sl.d 1 aW (some g2) r.1),.d (.bool r.2)]) ((tS H g2 1 r.1)))
theorem Wm (n:Nat) (B:Gn (ak:=ak) n):Gn (ak:=ak) (n+1):=by
 intro m f y W g2 r b H X;rw [k5] at b;refine AC.oW 66 [.tmp 6,.tmp 7] Tryz.call39 Tryz.func39 ?_;refine hz (tS H g2 1 y) (Y8 ?_);refine aN kN (fun(z:(Sl Bs)×Bool)=>[(2,.a (.d (Sl.d 1 aW (some g2) z.1))),(8,.a (.d (.bool z.2)))]) (fun z=>(tS H g2 1 z.1)) (fun z=>wi z.1 z.2=some r) ?_ ?_
 ·intro Y C;refine Y2 ?_;refine aV ai.c f fun Z=>Y3 ?_;refine bx (tl [3,15,16]) (fun(z:Nat×(Sl Bs)×Bool×Nat)=>[(2,.a (.d (Sl.d 1 aW (some g2) z.2.1))),(8,.a (.d (.bool z.2.2.1))),(17,vi z.2.2.2)]) (fun z=>(tS H g2 1 z.2.1)) (fun z=>z.1) (fun z=>kZ m f (k5 n) z.1 z.2.1 z.2.2.1 z.2.2.2=some r) ((f.l.length+1),y,true,0) b wA ?_;rintro ⟨g,p,j,k⟩ b aa E;try dsimp only at b
  cases g with
  | zero=>cases b
  | succ g =>
    rw [kZ] at b;refine Y3 ?_;refine ar fun ab F=>?_;refine cE b (fun q b=>?_) (fun q b=>?_)
    ·try dsimp only at q
     have ad:=oD q;refine sk F (aN (tl [3,15,16,17]) (fun(z:(Sl Bs)×Bool)=>[(2,.a (.d (Sl.d 1 aW (some g2) z.1))),(8,.a (.d (.bool z.2)))]) (fun z=>(tS H g2 1 z.1)) (fun z=>wj k ((kZ m f (k5 n) g)) z.1 z.2=some r) ?_ ?_)
     ·intro ae u;refine Y2 ?_;obtain⟨G,I,b⟩:=bO b;refine S (ix ai.c k I) (Y4 ?_);refine bl 10 _ rfl (kl [2,3,8,15,16,17]) ?_;refine Y2 ?_;refine s0 (cA (TK rfl) rfl rfl (congrArg (fun x=>some (A.d x)) (ai.gD _))) rfl ?_;refine Y2 ?_
      refine aN (tl [3,15,16,17]) (fun(z:(Sl Bs)×Bool×(Sl ai))=>[(2,.a (.d (Sl.d 1 aW (some g2) z.1))),(8,.a (.d (.bool z.2.1))),(11,.a (.d (Sl.d 7 ai.c none z.2.2)))]) (fun z=>(tS H g2 1 z.1)) (fun z=>wm m k ((kZ m f (k5 n) g)) (k5 n) z.1 z.2.1 z.2.2=some r) ?_ ?_
      ·intro af v;refine Y5 ?_;refine cE b (fun J b=>?_) (fun J b=>?_)
       ·refine Y4 ?_;obtain⟨s,K,b⟩:=bO b;refine Sc rfl rfl (v8 K) (Y7 ?_);refine bl 12 _ rfl (kl [2,3,8,10,13,15,16,17]) ?_;refine Y7 ?_;refine ar fun aj L=>Y6 ?_;refine Gk 41 ?_;obtain⟨al,M,b⟩:=gO b;refine fV 40 42 rfl rfl rfl rfl rfl rfl (fun hC=>tP (M hC)) ?_;refine Y2 ?_;refine cE b (fun N b=>?_) (fun N b=>?_)
        ·refine ag.exit ?_;exact u _ (p,(j&&s.2)) wA b
        refine sk L (Y5 ?_);obtain⟨w,O,b⟩:=bO b;refine SH (am aW (TK rfl) rfl (TK rfl) (TK rfl) O) ?_;refine hq (tS H g2 1 w) (Y7 ?_);exact v _ (w,(j&&s.2),s.1.aK) wA b
       refine ag.skip ?_;exact v _ (p,j,G.aK) wA b
      rintro ⟨an,P,ao⟩ b;try dsimp only at b
      unfold wm at b;refine Y7 ?_;obtain⟨t,Q,b⟩:=bO b;refine sH (bF rfl rfl (B Q _ au)) rfl ?_;refine hq (tS H g2 1 t.1) (xB ?_);exact u _ (t.1,(P&&t.2)) wA b
     rintro ⟨R,U⟩ b;try dsimp only at b
     unfold wj at b;refine Y4 ?_;exact E _ (g,R,U,(k+1)) wA b (nS _)
    refine ag.exit ?_;exact C _ (p,j) wA b
 rintro ⟨ap,av⟩ b;try dsimp only at b
 unfold wi at b;refine Y6 ?_;exact rt b
theorem ML:∀(n:Nat),(Gn (ak:=ak) n)
 | 0=>fun b=>by first|cases b|(rw [k5] at b; cases b)
 | n+1=>Wm n (ML n)
def Gp (f:aR) (b:(Sl ai)) (g:(Sl Bs)):Option ((Sl Bs)×Bool):=k5 F0 f b g
theorem Gq {g f b j g2 r}(k:Gp g f b=some r) (H:ah) (m:H g2=some (.tok 1 b.l.length)):At 39 [.agg (aR.c g),.d (Sl.d 7 ai.c j f),.d (Sl.d 1 aW (some g2) b)] H (RT (.b_ [.d (Sl.d 1 aW (some g2) r.1),.d (.bool r.2)]) ((tS H g2 1 r.1))):=(ML F0) k H m
def mZ (k:aR) (l:aR->(Sl ai)->(Sl Bs)->Option ((Sl Bs)×Bool)):List ai->(Sl Bs)->Bool->Option (((Sl Bs)×Bool))
 | [],b,f=>some (b,f)
 | r::s,b,f=>on (r) fun g=>Option.bind (on (fun(t:(Sl Bs)) (u:Bool) (v:(Sl ai))=>(l k v t).bind fun m=>some (m.1,(u&&m.2))) fun p=>bif (decide (g.aj=(2:Int))) then(on (jV k g.aa) fun j=>on (bif !(!j.2) then jW b g.aa else false) fun w=>bif ((!j.2)||w) then(some (b,(f&&j.2))) else((bq 16 b (⟨false,[g.aa]⟩:Sl Bs)).bind fun y=>p y (f&&j.2) j.1.aK)) else(p b f g.aK)) fun q=>mZ k l (s) q.1 q.2
theorem Wn {p:aR}{k:Sl ai}{m:aR->(Sl ai)->(Sl Bs)->Option ((Sl Bs)×Bool)}(v:(((Sl Bs)×Bool))->Option ((Sl Bs)×Bool)) (C:∀(b:Nat) (g:(Sl Bs)) (j:Bool) (f:Nat),wi   g j=v (g,j)):∀(b:Nat) (g:(Sl Bs)) (j:Bool) (f:Nat),(0<b/\k.l.length<f+b)->kZ p k m b g j f=Option.bind (mZ p m (k.l.drop f) g j) v:=by
 intro b;induction b with
 | zero=>intro g j f hn; exact absurd hn.1 (by omega)
 | succ b E =>
  intro g j f hn;rw [kZ];by_cases aJ:f<k.l.length
  ·obtain⟨I,w⟩:=Qa aJ;rw [Q.gP w,mZ];refine QT aJ ?_;refine Q.iB w fun J K=>?_;refine Q.kF fun y F=>?_;have z:∀(q:(Sl Bs)) (r:Bool),wj f (kZ p k m b) q r=y (q,r):=by
    intro q r;refine Qe (F _) ?_;try dsimp only
    unfold wj;all_goals exact E _ _ _ ⟨by omega,by omega⟩
   refine Q.I4 fun G H=>?_;have B:∀(s:(Sl Bs)) (t:Bool) (u:(Sl ai)),wm p f (kZ p k m b) m s t u=Option.bind (G s t u) y:=by
    intro s t u;unfold wm;rw [H];try dsimp only
    refine Q.ji rfl fun L=>?_;all_goals exact z _ _
   refine Q.kE ?_ ?_
   ·refine Q.iB rfl fun M N=>?_;refine Q.I2 rfl fun O P=>?_;refine Q.kE ?_ ?_
    ·all_goals exact z _ _
    refine Q.ji rfl fun R=>?_;all_goals exact B _ _ _
   all_goals exact B _ _ _
  rw [dL (by omega),mZ];refine QF aJ ?_;exact C b g j f
def iX:Nat->aR->(Sl ai)->(Sl Bs)->Option ((Sl Bs)×Bool)
 | 0,_,_,_=>none
 | n+1,f,b,g=>Option.bind (mZ f (iX n) b.l g true) fun z9=>on ((z9.1,z9.2)) fun z3=>some (z3.1,z3.2)
theorem Wo:∀n:Nat,k5 n=iX n:=by
 intro n;induction n with
 | zero=>exact(by funext r g s; first|rfl|(rw [k5,iX]))
 | succ n j =>
  funext r g s
  refine Qs ?_;rw [k5,iX];try rw [j]
  refine Q.kF fun k l=>?_;refine Wn  k ?_ _ _ _ _ ⟨Nat.succ_pos _,by omega⟩;intro t u v w;refine Qe (l _) ?_;try dsimp only
  refine Q.lu fun m p=>?_;have q:∀(b:(Sl Bs)) (f:Bool),wi  b f=m (b,f):=by
   intro b f;refine Qe (p _) ?_;try dsimp only
   unfold wi;all_goals rfl
  all_goals exact q _ _
def sP (f:aR) (b:(Sl ai)) (g:(Sl Bs)):Option ((Sl Bs)×Bool):=iX F0 f b g
theorem Gr (a0:aR) (b:(Sl ai)) (a2:(Sl Bs)):Gp a0 b a2=sP a0 b a2:=by
 unfold Gp sP; rw [(Wo F0)]
def jX (j:aR) (b:aY):Option Bool:=(sP j b.aK (Sl.nil:Sl Bs)).bind fun f=>on (jW f.1 b.aa) fun g=>some g
theorem MM {j f r}(b:jX j f=some r) (H:ah) :At 42 [.agg (aR.c j),.agg (aY.c f)] H (RT (.a (.d (.bool r))) H):=by
 unfold jX at b;refine AC.oW 18 [.tmp 4] Tryz.call42 Tryz.func42 ?_;refine Y5 ?_;refine ag.tok 1 fun g p=>?_;refine Y4 ?_;obtain⟨k,l,b⟩:=qT (Gr _ _ _) b;refine sH (bF rfl rfl (AC.uk (.cons (.refl _) (.cons (.refl _) (.cons (jf.nil (k':=1) (t:=g) au) .nil))) (Gq l _ au))) rfl ?_;refine hq (tS H g 1 k.1) (Y6 ?_);refine ag.eG 5 rfl ?_;refine Y4 ?_
 obtain⟨q,m,b⟩:=dD b;refine Sc rfl rfl (tP m) (Y2 ?_);refine ry ?_;obtain rfl:=oJ b;refine bR.cK H rfl ⟨rfl,rfl⟩ ?_;exact sy
def sQ :List Bs->(List Bs)->(List Bs)
 | [],b=>b
 | f::g,b=>on (f) fun j=>sQ  (g) (cB b j)
def lU (j:aR):List bJ->Z3->(List Bs)->Option ((Z3×(List Bs)))
 | [],f,g=>some (f,g)
 | m::p,f,g=>on (m) fun b=>on (gE b.aj) fun q=>(Fb f b.aK q b.aa).bind fun r=>(sP j b.aK (Sl.nil:Sl Bs)).bind fun s=>on (sQ  s.1.l g) fun t=>on ((r,t)) fun k=>lU j (p) k.1 k.2
def lV (k:an) (g:aR) (j:(List Bs)):List aY->Z3->Option (Z3)
 | [],f=>some f
 | l::m,f=>on (l) fun b=>on (fC k b.b9) fun p=>(iW f (!p) (24:Int) b.aa).bind fun q=>(jX g b).bind fun r=>(iW q r (24:Int) b.aa).bind fun s=>(iW s (!(j.contains b.aa)) (26:Int) b.aa).bind fun t=>(Fb t b.aK b.b9 b.aa).bind fun u=>lV k g j (m) u
def sS (j:an) (b:aR):Option (Sl Z9):=Option.bind (lU b b.bw.l (Z3.mk j b Sl.nil) ([]:List Bs)) fun f=>on ((f.1,f.2)) fun g=>Option.bind (lV j b g.2 b.aL.l g.1) fun k=>on (k) fun m=>some m.aC
def CE (f:an) (b:aR):Option (Sl Z9):=sS f b
theorem UO (a0:an) (b:aR):CE a0 b=sS a0 b:=rfl
theorem Wp {s g r}(b:CE s g=some r) (H:ah) :At 18 [.agg (an.c s),.agg (aR.c g)] H (RT (.a (.d (Sl.d 2 Z9.c none r))) H):=by
 unfold CE sS at b;refine AC.oW 98 [.tmp 4] Tryz.call18 Tryz.func18 ?_;refine Y3 ?_;refine s0 (dM (k':=2) rfl) rfl ?_;refine Y5 ?_;refine aI.tok 2 fun f bb=>?_;refine sE (dA.rN rfl) rfl (fun _ _ _ ⟨k,R,G,I,J⟩=>?_);subst G I J;obtain⟨bc,R⟩:=ah.dP R
 refine aI.lp k _ au (fun j w cs hh hx=>tok_cell 3 2 2 hh (t:=f) au hx rfl) ?_;refine hq ((H.set f (some (.tok 2 0))).set k (some (.cells (Z3.cg (some f) (Z3.mk s g Sl.nil))))) (Y3 ?_);refine sE dA.makeMap rfl (fun _ _ _ ⟨m,C,G,I,J⟩=>?_);subst G I J;obtain⟨bd,C⟩:=ah.dP C;obtain⟨be,C⟩:=ah.dP C
 refine hq (((H.set f (some (.tok 2 0))).set k (some (.cells (Z3.cg (some f) (Z3.mk s g Sl.nil))))).set m (some (.map (bg ([]:List Bs))))) (Y2 ?_)
 refine aN (tl [2,3,5,6]) (fun(z:Z3×(List Bs))=>[]) (fun z=>(((tS H f 2 z.1.aC).set k (some (.cells (Z3.cg (some f) z.1)))).set m (some (.map (bg z.2))))) (fun z=>(Option.bind (lV s g z.2 g.aL.l z.1) fun E=>on (E) fun U=>some U.aC)=some r) ?_ ?_
 ·intro bf al;refine Y3 ?_;refine aV bJ.c g.bw fun bh=>Y3 ?_;obtain⟨K,am,b⟩:=b5 b
  refine bx (tl [2,3,5,6,21,22]) (fun(z:Nat×Z3×(List Bs))=>[(23,vi z.1)]) (fun z=>(((tS H f 2 z.2.1.aC).set k (some (.cells (Z3.cg (some f) z.2.1)))).set m (some (.map (bg z.2.2))))) (fun z=>g.bw.l.length-z.1) (fun z=>Option.bind (lU g (g.bw.l.drop z.1) z.2.1 z.2.2) K=some r) (0,(Z3.mk s g Sl.nil),([]:List Bs)) b wA ?_;rintro ⟨L,W,y⟩ b bi ao
  try dsimp only at b
  refine Y3 ?_;refine ar fun bj ap=>?_;refine ag.bW (fun l=>Option.bind (lU g l W y) K=some r) b rfl (fun bk X M b=>?_) (fun M b=>?_)
  ·rw [lU] at b;try dsimp only at M
   have bm:=oD M;refine sk ap (aN (tl [2,3,5,6,21,22,23]) (fun(z:Z3×(List Bs))=>[]) (fun z=>(((tS H f 2 z.1.aC).set k (some (.cells (Z3.cg (some f) z.1)))).set m (some (.map (bg z.2))))) (fun z=>Option.bind (lU g (g.bw.l.drop (L+1)) z.1 z.2) K=some r) ?_ ?_)
   ·intro bn av;refine Y2 ?_;obtain⟨bo,aw,b⟩:=vO X b;refine S (ix bJ.c L aw) (Y4 ?_);refine bl 8 _ rfl (kl [2,3,5,6,21,22,23]) ?_;refine Y6 ?_;obtain⟨bp,ax,b⟩:=dm b;refine ck rfl rfl (zk ax) (Y2 ?_);obtain⟨p,ay,b⟩:=aQ b;refine aH.sH (bF rfl rfl (MK ay _ au au)) rfl ?_
    refine aH.Dh (((tS H f 2 p.aC).set k (some (.cells (Z3.cg (some f) p)))).set m (some (.map (bg y)))) ?_;refine Y1 ?_;refine ag.tok 1 fun B u=>?_;obtain⟨az,u⟩:=ah.dP u;obtain⟨aA,u⟩:=ah.dP u;obtain⟨aB,u⟩:=ah.dP u;refine Y4 ?_
    obtain⟨v,aD,b⟩:=qO (Gr _ _ _) b;refine sH (bF rfl rfl (AC.uk (.cons (.refl _) (.cons (.refl _) (.cons (jf.nil (k':=1) (t:=B) au) .nil))) (Gq aD _ au))) rfl ?_;refine hq ((((tS H f 2 p.aC).set k (some (.cells (Z3.cg (some f) p)))).set m (some (.map (bg y)))).set B (some (.tok 1 v.1.l.length))) (Y6 ?_);refine ag.eG 9 rfl ?_
    refine Y2 ?_;refine aV aW v.1 fun bq=>Y3 ?_;obtain⟨Y,aE,b⟩:=gB b
    refine bx (tl [2,3,5,6,21,22,23,43,44]) (fun(z:Nat×(List Bs))=>[(45,vi z.1)]) (fun z=>((((tS H f 2 p.aC).set k (some (.cells (Z3.cg (some f) p)))).set m (some (.map (bg z.2)))).set B (some (.tok 1 v.1.l.length)))) (fun z=>v.1.l.length-z.1) (fun z=>Y (sQ  (v.1.l.drop z.1) z.2)=some r) (0,y) b wA ?_;rintro ⟨Z,F⟩ b br aF;try dsimp only at b
    refine Y3 ?_;refine ar fun bs aG=>?_;refine ag.bW (fun l=>Y (sQ  l F)=some r) b rfl (fun bt aa N b=>?_) (fun N b=>?_)
    ·rw [sQ] at b;try dsimp only at N
     have bu:=oD N;refine sk aG (ar fun bv aJ=>Y2 ?_);obtain⟨ab,aK,b⟩:=vP aa b;refine S (ix aW Z aK) (Y6 ?_);refine eW (mapUpdate (TK rfl) rfl (TK rfl) rfl rfl rfl rfl au (mr _ _) rfl) rfl rfl ?_
     refine hq ((((tS H f 2 p.aC).set k (some (.cells (Z3.cg (some f) p)))).set m (some (.map (bg (cB F ab))))).set B (some (.tok 1 v.1.l.length))) (Y1 ?_);refine aJ _ ?_;refine Y4 ?_;exact aF _ ((Z+1),(cB F ab)) wA b (dl aa)
    rw [sQ] at b;have b:=ku aE b;refine ag.exit ?_;obtain⟨bz,aM,b⟩:=gB b;have b:=ku aM b;exact av _ (p,F) (cI.toFA (by(intro aO bA O); (have aP:aO≠B:=fun aS=>by rw [aS] at O; simp [ah.set,u,aB,aA,az] at O); (rw [<- O]); (simp only [ah.set,if_neg aP]); (first|done|rfl))) b
   rintro ⟨aT,aU⟩ b;try dsimp only at b
   refine Y4 ?_;exact ao _ ((L+1),aT,aU) wA b (dl X)
  rw [lU] at b;have b:=ku am b;try dsimp only at b
  refine ag.exit ?_;obtain⟨bB,aX,b⟩:=b8 b;exact al _ (W,y) wA (ku aX b:)
 rintro ⟨aZ,q⟩ b;try dsimp only at b
 refine aN (tl [5]) (fun(z:Z3)=>[]) (fun z=>(((tS H f 2 z.aC).set k (some (.cells (Z3.cg (some f) z)))).set m (some (.map (bg q))))) (fun z=>(some z.aC)=some r) ?_ ?_
 ·intro bC a0;refine Y3 ?_;refine aV aY.c g.aL fun bD=>Y3 ?_;obtain⟨ad,a1,b⟩:=b5 b
  refine bx (tl [2,3,5,6,54,55]) (fun(z:Nat×Z3)=>[(56,vi z.1)]) (fun z=>(((tS H f 2 z.2.aC).set k (some (.cells (Z3.cg (some f) z.2)))).set m (some (.map (bg q))))) (fun z=>g.aL.l.length-z.1) (fun z=>Option.bind (lV s g q (g.aL.l.drop z.1) z.2) ad=some r) (0,aZ) b wA ?_;rintro ⟨ae,E⟩ b bE a2;try dsimp only at b
  refine Y3 ?_;refine ar fun bG a3=>?_;refine ag.bW (fun l=>Option.bind (lV s g q l E) ad=some r) b rfl (fun bH af P b=>?_) (fun P b=>?_)
  ·rw [lV] at b;try dsimp only at P
   have bI:=oD P;refine sk a3 (ar fun bK a4=>Y2 ?_);obtain⟨bL,a5,b⟩:=vO af b;refine S (ix aY.c ae a5) (Y4 ?_);refine bl 14 _ rfl (kl [2,3,5,6,54,55,56]) ?_;refine Y5 ?_;obtain⟨bM,a6,b⟩:=dm b;refine ck rfl rfl (me a6) (Y3 ?_);obtain⟨ai,a7,b⟩:=aQ b;refine aH.sH (bF rfl rfl (tO a7 _ au au)) rfl ?_
   refine aH.Dh (((tS H f 2 ai.aC).set k (some (.cells (Z3.cg (some f) ai)))).set m (some (.map (bg q)))) ?_;refine Y5 ?_;obtain⟨bN,a8,b⟩:=aQ b;refine ck rfl rfl (MM a8) (Y2 ?_);obtain⟨aj,a9,b⟩:=aQ b;refine aH.sH (bF rfl rfl (tO a9 _ au au)) rfl ?_
   refine aH.Dh (((tS H f 2 aj.aC).set k (some (.cells (Z3.cg (some f) aj)))).set m (some (.map (bg q)))) ?_;refine Y6 ?_;refine s0 (ul (TK rfl) rfl (TK rfl) (TK rfl) rfl rfl rfl rfl au) rfl ?_;refine Y3 ?_;obtain⟨ak,a_,b⟩:=aQ b;refine sH (bF rfl rfl (tO a_ _ au au)) rfl ?_
   refine hq (((tS H f 2 ak.aC).set k (some (.cells (Z3.cg (some f) ak)))).set m (some (.map (bg q)))) (Y9 ?_);obtain⟨Q,a',b⟩:=aQ b;refine sH (bF rfl rfl (MK a' _ au au)) rfl ?_;refine hq (((tS H f 2 Q.aC).set k (some (.cells (Z3.cg (some f) Q)))).set m (some (.map (bg q)))) (Y1 ?_);refine a4 _ ?_;refine Y4 ?_
   exact a2 _ ((ae+1),Q) wA b (dl af)
  rw [lV] at b;have b:=ku a1 b;refine ag.exit ?_;obtain⟨bO,ba,b⟩:=b8 b;exact a0 _ E wA (ku ba b:)
 rintro U b;try dsimp only at b
 refine Y7 ?_;refine ag.eG 4 rfl ?_;exact rs b
def jw (p:Z2) (f:ai) (j:Z2->(Sl ai)->(List Bs)->(List Bs)->Option ((List Bs)×(List Bs))):List aY->(List Bs)->(List Bs)->Option (((List Bs)×(List Bs)))
 | [],g,b=>some (g,b)
 | q::r,g,b=>on (q) fun k=>Option.bind (bif (((k.aa==f.aa))&&(!(b.contains f.aa))) then((j p k.aK g (cB b f.aa)).bind fun l=>some (l.1,l.2)) else(some (g,b))) fun m=>jw p f j (r) m.1 m.2
def kO (j:Z2) (k:Z2->(Sl ai)->(List Bs)->(List Bs)->Option ((List Bs)×(List Bs))):List ai->(List Bs)->(List Bs)->Option (((List Bs)×(List Bs)))
 | [],f,g=>some (f,g)
 | q::r,f,g=>on (q) fun b=>Option.bind (bif (decide (b.aj=(3:Int))) then((k j b.aK f g).bind fun m=>some (m.1,m.2)) else(bif (decide (b.aj=(2:Int))) then(Option.bind (jw j b k j.Fq.aL.l f g) fun z23=>some (z23.1,z23.2)) else(bif (!(b.cq==([]:Bs))) then(some ((cB f b.cq),g)) else(some ((cB f b.aa),g))))) fun p=>kO j k (r) p.1 p.2
def iN:Nat->Z2->(Sl ai)->(List Bs)->(List Bs)->Option ((List Bs)×(List Bs))
 | 0,_,_,_,_=>none
 | n+1,f,b,g,j=>Option.bind (kO f (iN n) b.l g j) fun z3=>some (z3.1,z3.2)
def Gs (n:Nat):Prop:=∀{a0:Z2}{b:(Sl ai)}{a2:(List Bs)}{a3:(List Bs)}{g:Option Nat}{j:Option Nat}{f:Nat}{c2:Nat}{c3:Nat}{r:((List Bs)×(List Bs))},iN n a0 b a2 a3=some r->∀(H:ah) (k:H f=some (.cells (Z2.cg j a0))) (l:H c2=some (.map (bg a2))) (m:H c3=some (.map (bg a3))) (p:c3≠c2),At 44 [.d (.ptr f 0),.d (Sl.d 7 ai.c g b),.d (.map c2),.d (.map c3)] H (RT (.b_ []) (((H.set c2 (some (.map (bg r.1)))).set c3 (some (.map (bg r.2))))))
theorem Wq (n:Nat) (I:Gs (ak:=ak) n):Gs (ak:=ak) (n+1):=by
 intro f m O P aw ax J c2 c3 r b H ay az aA aB;rw [iN] at b;refine AC.oW 72 [] Tryz.call44 Tryz.func44 ?_;have aC:c2≠J:=fun w=>by subst w; simp_all
 have aD:c3≠J:=fun w=>by subst w; simp_all
 refine hz ((H.set c2 (some (.map (bg O)))).set c3 (some (.map (bg P)))) (Y2 ?_);refine aV ai.c m fun aE=>Y3 ?_;obtain⟨y,Q,b⟩:=b5 b
 refine bx (tl [0,2,3,12,13]) (fun(z:Nat×(List Bs)×(List Bs))=>[(14,vi z.1)]) (fun z=>((H.set c2 (some (.map (bg z.2.1)))).set c3 (some (.map (bg z.2.2))))) (fun z=>m.l.length-z.1) (fun z=>Option.bind (kO f (iN n) (m.l.drop z.1) z.2.1 z.2.2) y=some r) (0,O,P) b wA ?_;rintro ⟨B,j,k⟩ b aF R;try dsimp only at b
 refine Y3 ?_;refine ar fun aG U=>?_;refine ag.bW (fun l=>Option.bind (kO f (iN n) l j k) y=some r) b rfl (fun aJ K C b=>?_) (fun C b=>?_)
 ·rw [kO] at b;try dsimp only at C
  have aK:=oD C;refine sk U (aN (tl [0,2,3,12,13,14]) (fun(z:(List Bs)×(List Bs))=>[]) (fun z=>((H.set c2 (some (.map (bg z.1)))).set c3 (some (.map (bg z.2))))) (fun z=>Option.bind (kO f (iN n) (m.l.drop (B+1)) z.1 z.2) y=some r) ?_ ?_)
  ·intro aM p;refine Y2 ?_;obtain⟨g,W,b⟩:=vO K b;refine S (ix ai.c B W) (Y4 ?_);refine bl 9 _ rfl (kl [0,2,3,12,13,14]) ?_;refine Y9 ?_;obtain⟨aO,q,b⟩:=eB b;refine cO b (fun X b=>?_) (fun X b=>?_)
   ·refine Y3 ?_;refine s0 (cA (TK rfl) rfl rfl (congrArg (fun x=>some (A.d x)) (ai.gD _))) rfl ?_;refine Y2 ?_;obtain⟨s,Y,b⟩:=aQ b;refine sH (bF rfl rfl (I Y _ au au au (by assumption))) rfl ?_;refine hq ((H.set c2 (some (.map (bg s.1)))).set c3 (some (.map (bg s.2)))) (Y1 ?_);exact p _ (s.1,s.2) wA (ku q b:)
   refine Y4 ?_;refine cO b (fun Z b=>?_) (fun Z b=>?_)
   ·refine Y6 ?_;refine aV aY.c f.Fq.aL fun aP=>Y3 ?_;obtain⟨E,ab,b⟩:=eB b
    refine bx (tl [0,2,3,9,12,13,14,43,44]) (fun(z:Nat×(List Bs)×(List Bs))=>[(45,vi z.1)]) (fun z=>((H.set c2 (some (.map (bg z.2.1)))).set c3 (some (.map (bg z.2.2))))) (fun z=>f.Fq.aL.l.length-z.1) (fun z=>Option.bind (jw f g (iN n) (f.Fq.aL.l.drop z.1) z.2.1 z.2.2) E=some r) (0,j,k) b wA ?_;rintro ⟨F,t,u⟩ b aR ad;try dsimp only at b
    refine Y3 ?_;refine ar fun aS ae=>?_;refine ag.bW (fun l=>Option.bind (jw f g (iN n) l t u) E=some r) b rfl (fun aT L G b=>?_) (fun G b=>?_)
    ·rw [jw] at b;try dsimp only at G
     have aU:=oD G;refine sk ae (aN (tl [0,2,3,9,12,13,14,43,44,45]) (fun(z:(List Bs)×(List Bs))=>[]) (fun z=>((H.set c2 (some (.map (bg z.1)))).set c3 (some (.map (bg z.2))))) (fun z=>Option.bind (jw f g (iN n) (f.Fq.aL.l.drop (F+1)) z.1 z.2) E=some r) ?_ ?_)
     ·intro aW M;refine Y2 ?_;obtain⟨aX,af,b⟩:=vO L b;refine S (ix aY.c F af) (Y4 ?_);refine bl 11 _ rfl (kl [0,2,3,9,12,13,14,43,44,45]) ?_;refine Y9 ?_;refine Gk 56 ?_;refine fc 55 57 rfl rfl (fun hC=>ul (TK rfl) rfl (TK rfl) (TK rfl) rfl rfl rfl rfl au) ?_;refine Gk 58 ?_;refine Y2 ?_;obtain⟨aZ,N,b⟩:=eB b;refine cO b (fun aj b=>?_) (fun aj b=>?_)
      ·refine Y4 ?_;refine eW (mapUpdate (TK rfl) rfl (TK rfl) rfl rfl rfl rfl au (mr _ _) rfl) rfl rfl ?_;refine hq ((H.set c2 (some (.map (bg t)))).set c3 (some (.map (bg (cB u g.aa))))) (Y7 ?_);obtain⟨v,al,b⟩:=aQ b;refine sH (bF rfl rfl (I al _ au au au (by assumption))) rfl ?_;refine hq ((H.set c2 (some (.map (bg v.1)))).set c3 (some (.map (bg v.2)))) (Y1 ?_)
       exact M _ (v.1,v.2) wA (ku N b:)
      refine ag.skip ?_;exact M _ (t,u) wA (ku N b:)
     rintro ⟨am,an⟩ b;try dsimp only at b
     refine Y4 ?_;exact ad _ ((F+1),am,an) wA b (dl L)
    rw [jw] at b;have b:=ku ab b;try dsimp only at b
    refine ag.exit ?_;exact p _ (t,u) wA (ku q b:)
   refine Y5 ?_;refine cO b (fun ao b=>?_) (fun ao b=>?_)
   ·refine Y4 ?_;refine eW (mapUpdate (TK rfl) rfl (TK rfl) rfl rfl rfl rfl au (mr _ _) rfl) rfl rfl ?_;refine hq ((H.set c2 (some (.map (bg (cB j g.cq))))).set c3 (some (.map (bg k)))) (Y1 ?_);exact p _ ((cB j g.cq),k) wA (ku q b:)
   refine Y4 ?_;refine eW (mapUpdate (TK rfl) rfl (TK rfl) rfl rfl rfl rfl au (mr _ _) rfl) rfl rfl ?_;refine hq ((H.set c2 (some (.map (bg (cB j g.aa))))).set c3 (some (.map (bg k)))) (Y1 ?_);exact p _ ((cB j g.aa),k) wA (ku q b:)
  rintro ⟨ap,av⟩ b;try dsimp only at b
  refine Y4 ?_;exact R _ ((B+1),ap,av) wA b (dl K)
 rw [kO] at b;have b:=ku Q b;try dsimp only at b
 refine ag.exit ?_;repeat (first|refine eS ?_|refine eR ?_|refine eP ?_)
 obtain rfl:=oJ b;refine bR.eX ((H.set c2 (some (.map (bg j)))).set c3 (some (.map (bg k)))) (xs:=[]) rfl ⟨rfl,rfl⟩ ?_;exact(fun _ _ h=>h)
theorem MN:∀(n:Nat),(Gs (ak:=ak) n)
 | 0=>fun b=>by first|cases b|(rw [iN] at b; cases b)
 | n+1=>Wq n (MN n)
def Ws (f:Z2) (b:(Sl ai)) (g:(List Bs)) (j:(List Bs)):Option ((List Bs)×(List Bs)):=iN F0 f b g j
theorem Wt {g b j k l m f c2 c3 r}(p:Ws g b j k=some r) (H:ah) (q:H f=some (.cells (Z2.cg m g))) (s:H c2=some (.map (bg j))) (t:H c3=some (.map (bg k))) (u:c3≠c2):At 44 [.d (.ptr f 0),.d (Sl.d 7 ai.c l b),.d (.map c2),.d (.map c3)] H (RT (.b_ []) (((H.set c2 (some (.map (bg r.1)))).set c3 (some (.map (bg r.2)))))):=(MN F0) p H q s t u
def yo (f:Z2) (b:(Sl ai)) (g:(List Bs)) (j:(List Bs)):Option ((List Bs)×(List Bs)):=iN F0 f b g j
def ir (b:Z2) (f:Bool) (j:Int) (k:Bs):Option Z2:=bif f then((bq 24 b.aC (⟨false,[(Z9.mk j k)]⟩:Sl Z9)).bind fun g=>some (Z2.mk b.Fd b.Fq g)) else(some b)
theorem pH {f m p q g b r}(j:ir f m p q=some r) (H:ah) (v:H g=some (.cells (Z2.cg (some b) f))) (w:H b=some (.tok 2 f.aC.l.length)):At 45 [.d (.ptr g 0),.d (.bool m),.d (.int .i64 p),.d (.str q)] H (RT (.b_ []) (((tS H b 2 r.aC).set g (some (.cells (Z2.cg (some b) r)))))):=by
 unfold ir at j;refine AC.oW 21 [] Tryz.call45 Tryz.func45 ?_;have y:g≠b:=fun s=>by subst s; simp_all
 refine hz ((tS H b 2 f.aC).set g (some (.cells (Z2.cg (some b) f)))) (Y3 ?_);refine cE j (fun t j=>?_) (fun t j=>?_)
 ·refine jM ?_;obtain⟨k,u,j⟩:=bz j;refine SH (am Z9.c (TK rfl) rfl (TK rfl) (TK rfl) u) ?_;refine hq ((tS H b 2 k).set g (some (.cells (Z2.cg (some b) f)))) (Y2 ?_);refine eW (kz (TK rfl) rfl rfl au rfl (by repeat (first|exact cZ.zero|apply cZ.succ))) rfl rfl ?_;refine hq ((tS H b 2 k).set g (some (.cells (Z2.cg (some b) (Z2.mk f.Fd f.Fq k))))) (Y1 ?_)
  repeat (first|refine eS ?_|refine eR ?_|refine eP ?_)
  obtain rfl:=oJ j;refine bR.eX ((tS H b 2 k).set g (some (.cells (Z2.cg (some b) (Z2.mk f.Fd f.Fq k))))) (xs:=[]) rfl ⟨rfl,rfl⟩ ?_;exact(fun _ _ h=>h)
 refine ag.skip ?_;repeat (first|refine eS ?_|refine eR ?_|refine eP ?_)
 obtain rfl:=oJ j;refine bR.eX ((tS H b 2 f.aC).set g (some (.cells (Z2.cg (some b) f)))) (xs:=[]) rfl ⟨rfl,rfl⟩ ?_;exact(fun _ _ h=>h)
def ij (b:ax):Bool:=on (bif (decide ((0:Int)<((b.av.l.length:Nat):Int))) then((b.av.l)[0]?.getD (0:Int)) else(0:Int)) fun f=>((decide ((0:Int)<((b.av.l.length:Nat):Int)))&&(decide (f=(1:Int))))
def zu (b:ax):Option Bool:=some (ij b)
theorem Lp (a0:ax):zu a0=some (ij a0):=rfl
theorem pI {f r}(b:zu f=some r) (H:ah) :At 137 [.agg (ax.c f)] H (RT (.a (.d (.bool r))) H):=by
 unfold zu ij at b;refine AC.oW 14 [.tmp 2] Tryz.call137 Tryz.func137 ?_;refine Y7 ?_;refine aV (bM .i64) f.av fun j=>Y3 ?_;refine Gk 8 ?_;obtain⟨k,g,b⟩:=lz (fun hc=>Q.getD_some (by simp at hc; omega)) b;refine bE 9 rfl (fun hC=>ix (bM .i64) 0 (g hC)) ?_;refine Gk 10 ?_;refine Gk 11 ?_;refine Y3 ?_;exact rt b
def mN (b:(Sl Int)):Option (Sl Int):=bif b.nl then(some (Sl.nil:Sl Int)) else((bq 8 (⟨false,[]⟩:Sl Int) b).bind fun f=>some f)
def CF (b:(Sl Int)):Option (Sl Int):=mN b
theorem Gu {g w0 r}(b:CF g=some r) (H:ah) :At 174 [.d (Sl.d 1 (bM .i64) w0 g)] H (RT (.a (.d (Sl.d 1 (bM .i64) none r))) H):=by
 unfold CF mN at b;refine AC.oW 8 [.tmp 2] Tryz.call174 Tryz.func174 ?_;refine Y1 ?_;refine s0 (dM (k':=1) rfl) rfl ?_;refine Y1 ?_;refine ar fun m j=>Y2 ?_;refine s0 (Aw (TK rfl) rfl rfl) rfl ?_;refine Y1 ?_;refine cE b (fun k b=>?_) (fun k b=>?_)
 ·refine Y1 ?_;refine s0 (dM (k':=1) rfl) rfl ?_;refine Y1 ?_;exact rt b
 refine sk j (Y1 ?_);refine s0 (pS (TK rfl) rfl (TK rfl) rfl rfl rfl rfl rfl rfl) rfl ?_;refine Y1 ?_;obtain⟨p,l,b⟩:=bz b;refine s0 (um (f:=(bM .i64)) (TK rfl) rfl (TK rfl) (TK rfl) ⟨_,rfl⟩ rfl rfl (by decide) rfl rfl rfl (by intro q h; cases h<;>decide) rfl rfl l) rfl ?_;refine Y2 ?_;exact rt b
theorem Wu {j:Sl Int}{w0:Option Nat}{b:Nat}{r:Sl Int}(g:CF j=some r) (H:ah) (t:H b=some (.arr 1 [])) :At 174 [.d (Sl.d 1 (bM .i64) w0 j)] H (RT (.a (.d (.arr 1 b r.nl r.l.length))) (H.set b (some (.arr 1 (r.l.map (bM .i64)))))):=by
 unfold CF mN at g;refine AC.oW 8 [.tmp 2] Tryz.call174 Tryz.func174 ?_;refine hz (H.set b (some (.arr 1 []))) (Y1 ?_);refine s0 (dM (k':=1) rfl) rfl ?_;refine aI.Iq 2 1 b rfl au ?_;refine Y1 ?_;refine ar fun u k=>Y2 ?_;refine s0 (Aw (TK rfl) rfl rfl) rfl ?_;refine Y1 ?_;refine cE g (fun m g=>?_) (fun m g=>?_)
 ·refine Y1 ?_;refine s0 (dM (k':=1) rfl) rfl ?_;refine aI.Iq 2 1 b rfl au ?_;refine Y1 ?_;exact rt g
 refine sk k (Y1 ?_);refine s0 (pS (TK rfl) rfl (TK rfl) rfl rfl rfl rfl rfl rfl) rfl ?_;refine aI.OP 5 1 b rfl au ?_;refine Y1 ?_;obtain⟨p,q,g⟩:=bz g;refine sH (OM (f:=(bM .i64)) (s:=(⟨false,[]⟩:Sl Int)) (TK rfl) rfl (TK rfl) (TK rfl) ⟨_,rfl⟩ rfl rfl rfl rfl rfl rfl au (by first|rfl|simp [Sl.Ir,Sl.nil,IE]) rfl q) rfl ?_
 refine hq (H.set b (some (.arr 1 (p.l.map (bM .i64))))) (Y2 ?_);exact rt g
def ou (b:ax):Option ax:=on (ij b) fun f=>bif f then((mN b.av).bind fun g=>some (ax.mk b.aa g)) else((bq 8 (⟨false,[(1:Int)]⟩:Sl Int) b.av).bind fun j=>some (ax.mk b.aa j))
theorem Gv {g r}(b:ou g=some r) (H:ah) :At 147 [.agg (ax.c g)] H (RT (.a (.agg (ax.c r))) H):=by
 unfold ou at b;refine AC.oW 18 [.cell 2 56] Tryz.call147 Tryz.func147 ?_;refine Y4 ?_;refine ar fun s j=>Y2 ?_;obtain⟨t,k,b⟩:=dD b;refine Sc rfl rfl (pI k) (Y1 ?_);refine cE b (fun l b=>?_) (fun l b=>?_)
 ·refine Y5 ?_;obtain⟨u,m,b⟩:=bz b;refine ck rfl rfl (Gu m) (Y3 ?_);exact rt b
 refine sk j (Y3 ?_);refine aH.s0 (pS (TK rfl) rfl (TK rfl) rfl rfl rfl rfl rfl rfl) rfl ?_;refine Y2 ?_;obtain⟨v,p,b⟩:=bz b;refine aH.s0 (um (f:=(bM .i64)) (TK rfl) rfl (TK rfl) (TK rfl) ⟨_,rfl⟩ rfl rfl (by decide) rfl rfl rfl (by intro q h; cases h<;>decide) rfl rfl p) rfl ?_;refine Y3 ?_;exact rt b
def ov (b:Bs):ax:=(ax.mk b Sl.nil)
theorem Gw {f r}(b:some (ov f)=some r) (H:ah) :At 148 [.d (.str f)] H (RT (.a (.agg (ax.c r))) H):=by
 unfold ov at b;refine AC.oW 5 [.cell 2 56] Tryz.call148 Tryz.func148 ?_;refine Y8 ?_;exact rt b
def qA (j:Bs) (b:Bs):Option az:=on (ov b) fun f=>(ou f).bind fun g=>some (az.mk j g false af.zero Sl.nil)
theorem CG {g f r}(b:qA g f=some r) (H:ah) :At 169 [.d (.str g),.d (.str f)] H (RT (.a (.agg (az.c r))) H):=by
 unfold qA at b;refine AC.oW 10 [.cell 4 112] Tryz.call169 Tryz.func169 ?_;refine Y6 ?_;obtain⟨l,j,b⟩:=dD b;refine Sc rfl rfl (Gw j) ?_;obtain⟨m,k,b⟩:=bz b;refine Sc rfl rfl (Gv k) (Y3 ?_);exact rt b
def yh (b:Bs) (f:Bool):Option (Sl az):=bif (((b==([115,107,105,112]:Bs)))||((b==([105,110,99,108,117,100,101]:Bs)))) then((qA ([105,102]:Bs) ([66,111,111,108,101,97,110]:Bs)).bind fun g=>some (⟨false,[g]⟩:Sl az)) else(bif (((b==([100,101,102,101,114]:Bs)))&&(!f)) then((qA ([108,97,98,101,108]:Bs) ([83,116,114,105,110,103]:Bs)).bind fun j=>some (⟨false,[j]⟩:Sl az)) else(bif (((b==([115,116,114,101,97,109]:Bs)))&&f) then((qA ([108,97,98,101,108]:Bs) ([83,116,114,105,110,103]:Bs)).bind fun k=>(qA ([105,110,105,116,105,97,108,67,111,117,110,116]:Bs) ([73,110,116]:Bs)).bind fun l=>some (⟨false,[k,l]⟩:Sl az)) else(some (Sl.nil:Sl az))))
theorem Ww {g f r}(b:yh g f=some r) (H:ah) :At 128 [.d (.str g),.d (.bool f)] H (RT (.a (.d (Sl.d 10 az.c none r))) H):=by
 unfold yh at b;refine AC.oW 32 [.tmp 4] Tryz.call128 Tryz.func128 ?_;refine Y1 ?_;refine s0 (dM (k':=10) rfl) rfl ?_;refine Y1 ?_;refine ar fun u j=>Y6 ?_;refine Gk 9 ?_;refine Y3 ?_;refine cE b (fun k b=>?_) (fun k b=>?_)
 ·refine Y1 ?_;obtain⟨v,l,b⟩:=bz b;refine Sc rfl rfl (CG l) (Y3 ?_);exact rt b
 refine Y5 ?_;refine Gk 18 ?_;refine Y3 ?_;refine cE b (fun m b=>?_) (fun m b=>?_)
 ·refine Y1 ?_;obtain⟨w,p,b⟩:=bz b;refine Sc rfl rfl (CG p) (Y3 ?_);exact rt b
 refine Y8 ?_;refine cE b (fun q b=>?_) (fun q b=>?_)
 ·refine Y1 ?_;obtain⟨y,s,b⟩:=bz b;refine Sc rfl rfl (CG s) ?_;obtain⟨z,t,b⟩:=bz b;refine Sc rfl rfl (CG t) (Y3 ?_);exact rt b
 refine sk j (Y1 ?_);refine s0 (dM (k':=10) rfl) rfl ?_;refine Y1 ?_;exact rt b
def uS (b:ax):Option ax:=on (ij b) fun f=>Option.bind (bif f then((js b.av (some (1:Int)) none).bind fun g=>some g) else(some b.av)) fun j=>(mN j).bind fun k=>some (ax.mk b.aa k)
theorem MO {g r}(b:uS g=some r) (H:ah) :At 170 [.agg (ax.c g)] H (RT (.a (.agg (ax.c r))) H):=by
 unfold uS at b;refine AC.oW 15 [.cell 2 56] Tryz.call170 Tryz.func170 ?_;refine Y9 ?_;refine aN (tl [1,2]) (fun(z:(Sl Int))=>[(3,.a (.d (Sl.d 1 (bM .i64) none z)))]) (fun z=>H) (fun z=>((mN z).bind fun j=>some (ax.mk g.aa j))=some r) ?_ ?_
 ·intro v k;refine Y2 ?_;obtain⟨w,p,b⟩:=dD b;refine Sc rfl rfl (pI p) (Y1 ?_);obtain⟨y,m,b⟩:=b5 b;refine cO b (fun q b=>?_) (fun q b=>?_)
  ·refine Y2 ?_;obtain⟨s,t,b⟩:=aQ b;refine s0 (jg (f:=(bM .i64)) (l:=(some (1:Int))) (r:=none) (TK rfl) rfl (TK rfl) rfl rfl rfl trivial t) rfl ?_;refine Y2 ?_;exact k _ s wA (ku m b:)
  refine ag.skip ?_;exact k _ g.av wA (ku m b:)
 rintro B b;try dsimp only at b
 refine Y4 ?_;obtain⟨j,u,b⟩:=bz b;refine ck rfl rfl (Gu u) (Y3 ?_);exact rt b
def sx (g:ax):Option Bool:=(uS g).bind fun b=>on (bif (decide ((0:Int)<((b.av.l.length:Nat):Int))) then((b.av.l)[0]?.getD (0:Int)) else(0:Int)) fun f=>some ((decide ((0:Int)<((b.av.l.length:Nat):Int)))&&(decide (f=(2:Int))))
theorem MP {f r}(b:sx f=some r) (H:ah) :At 129 [.agg (ax.c f)] H (RT (.a (.d (.bool r))) H):=by
 unfold sx at b;refine AC.oW 16 [.tmp 2] Tryz.call129 Tryz.func129 ?_;refine Y1 ?_;refine sL (pX rfl) rfl ?_;refine Y4 ?_;obtain⟨g,j,b⟩:=bz b;refine Sc rfl rfl (MO j) (Y5 ?_);refine aV (bM .i64) g.av fun m=>Y3 ?_;refine gC rfl rfl (fun hC=>Ax (k:=10) rfl (xb (TK rfl) rfl rfl rfl rfl)) rfl ?_
 obtain⟨p,l,b⟩:=jv (fun hc=>Q.getD_some (by simp at hc; omega)) b;refine bE 11 rfl (fun hC=>ix (bM .i64) 0 (l hC)) ?_;refine Gk 12 ?_;refine Gk 13 ?_;refine Y3 ?_;exact rt b
def wo  :Option Int:=some (-1:Int)
def wq (f:(Sl aP)) (g:(aP->Option Bool)) :Nat->Nat->Option Int
 | 0,_=>none
 | j+1,b=>bif (decide (((b:Nat):Int)<((f.l.length:Nat):Int))) then((f.l[b]?).bind fun k=>(g k).bind fun m=>bif m then(some ((b:Nat):Int)) else((wq f g j) (b+1))) else(wo   )
def zw (b:(Sl aP)) (f:(aP->Option Bool)):Option Int:=wq b f (b.l.length+1) 0
theorem Wx {f g w0 m r}(b:zw f g=some r) (H:ah) (s:∀p r,g p=some r->iL Tryz.prog m [.agg (aP.c p)] H (RT (.a (.d (.bool r))) H)):At 171 [.d (Sl.d 2 aP.c w0 f),.d m] H (RT (.a (.d (.int .i64 r))) H):=by
 unfold zw at b;refine AC.oW 19 [.tmp 4] Tryz.call171 Tryz.func171 ?_;refine Y3 ?_;refine aN kN (fun(z:Unit)=>[]) (fun z=>H) (fun z=>wo =some r) ?_ ?_
 ·intro E t;refine Y2 ?_;refine aV aP.c f fun F=>Y3 ?_;refine bx (tl [0,1,7]) (fun(z:Nat×Nat)=>[(8,vi z.2)]) (fun z=>H) (fun z=>z.1) (fun z=>wq f g z.1 z.2=some r) ((f.l.length+1),0) b wA ?_;rintro ⟨j,q⟩ b G u;try dsimp only at b
  cases j with
  | zero=>cases b
  | succ j =>
    rw [wq] at b;refine Y3 ?_;refine ar fun I v=>?_;refine cE b (fun k b=>?_) (fun k b=>?_)
    ·try dsimp only at k
     have J:=oD k;refine sk v (ar fun K w=>Y9 ?_);obtain⟨L,y,b⟩:=bO b;refine S (ix aP.c q y) (Y1 ?_);obtain⟨M,B,b⟩:=bO b;refine s0 (mA rfl rfl (s _ _ B)) rfl ?_;refine Y1 ?_;refine cE b (fun C b=>?_) (fun C b=>?_)
     ·refine Y4 ?_;exact rt b
     refine sk w (Y4 ?_);exact u _ (j,(q+1)) wA b (nS _)
    refine ag.exit ?_;exact t _ () wA b
 rintro _ b;try dsimp only at b
 unfold wo at b;refine Y3 ?_;exact rt b
def zx (f:(aP->Bool)):List aP->Nat->Unit ⊕ Int
 | [],b=>Sum.inl ()
 | g::j,b=>on (g) fun k=>on (f k) fun l=>bif l then(Sum.inr ((b:Nat):Int)) else(zx f (j) (b+1) )
theorem Wy {g:Sl aP}{k:aP->Bool}(j:(Unit ⊕ Int)->Option Int) (p:∀(f:Nat) (b:Nat),wo   =j (Sum.inl ())) (q:∀e:Int,some e=j (Sum.inr e)):∀(f:Nat) (b:Nat),(0<f/\g.l.length<b+f)->wq g (fun r=>some (k r)) f b=j (zx k (g.l.drop b) b ):=by
 intro f;induction f with
 | zero=>intro b hn; exact absurd hn.1 (by omega)
 | succ f s =>
  intro b hn;rw [wq];by_cases aJ:b<g.l.length
  ·obtain⟨t,m⟩:=Qa aJ;rw [Q.gP m,zx];refine QT aJ ?_;refine Q.ii m fun u v=>?_;refine Q.ii rfl fun w y=>?_;refine Q.nO ?_ ?_
   ·all_goals exact q _
   all_goals exact s _ ⟨by omega,by omega⟩
  rw [dL (by omega),zx];refine QF aJ ?_;exact p f b
def Gx (j:(Sl aP)) (b:(aP->Bool)):Int:=on (zx b j.l 0 ) fun f=>match f with|Sum.inl _=>(on (()) fun _=>(-1:Int))|Sum.inr g=>(g)
theorem Wz (a0:(Sl aP)) (b:(aP->Bool)):zw a0 (fun g=>some (b g))=some (Gx a0 b):=by
 unfold zw Gx;refine Q.jt fun j f=>?_;refine Wy  j ?_ ?_ _ _ ⟨Nat.succ_pos _,by omega⟩
 ·intro p q;refine Qe (f _) ?_;try dsimp only
  refine Q.jt fun k l=>?_;have m:wo  =k ():=by
   refine Qe (l _) ?_;unfold wo;all_goals rfl
  all_goals exact m
 intro r;refine Qe (f _) ?_;try dsimp only
 all_goals rfl
def zy (g:(Sl aP)) (b:(aP->Option Bool)):Option Bool:=(zw g b).bind fun f=>some (decide ((0:Int)<=f))
theorem WA {k f w0 g r}(b:zy k f=some r) (H:ah) (l:∀j r,f j=some r->iL Tryz.prog g [.agg (aP.c j)] H (RT (.a (.d (.bool r))) H)):At 130 [.d (Sl.d 2 aP.c w0 k),.d g] H (RT (.a (.d (.bool r))) H):=by
 unfold zy at b;refine AC.oW 9 [.tmp 4] Tryz.call130 Tryz.func130 ?_;refine Y6 ?_;obtain⟨p,m,b⟩:=bO b;refine s0 (eV rfl rfl (Wx m _ l)) rfl ?_;refine Y3 ?_;exact rt b
def yj (g:(Sl aP)) (b:(aP->Bool)):Bool:=on (Gx g b) fun f=>(decide ((0:Int)<=f))
theorem WB (a0:(Sl aP)) (b:(aP->Bool)):zy a0 (fun f=>some (b f))=some (yj a0 b):=by
 unfold zy yj;refine Q.ii (Wz _ _) fun g j=>?_;all_goals rfl
def uV (f:aP) (b:aP):Bool:=((f.aa==b.aa))
def CH (f:aP) (b:aP):Option Bool:=some (uV f b)
theorem WC (a0:aP) (b:aP):CH a0 b=some (uV a0 b):=rfl
theorem WD {g b r}(f:CH g b=some r) (H:ah) :At 131 [.agg (aP.c g),.d (.view (aP.c b))] H (RT (.a (.d (.bool r))) H):=by
 unfold CH uV at f;refine AC.oW 9 [.tmp 3] Tryz.call131 Tryz.func131 ?_;refine kH ?_;exact rt f
def wu (b:Bs):List aO->Unit ⊕ ((af×Bool))
 | []=>Sum.inl ()
 | g::j=>on (g) fun f=>bif ((f.aa==b)) then(Sum.inr (f.dr,true)) else(wu b (j) )
def lR (j:(Sl aO)) (b:Bs):(af×Bool):=on (wu b j.l ) fun f=>match f with|Sum.inl _=>(on (()) fun _=>((af.mk 0 0 [] true [] Sl.nil),false))|Sum.inr g=>(g)
theorem Gy {f g w0 r}(b:some (lR f g)=some r) (H:ah) :At 133 [.d (Sl.d 6 aO.c w0 f),.d (.str g)] H (RT (.b_ [.agg (af.c r.1),.d (.bool r.2)]) H):=by
 unfold lR at b;refine AC.oW 22 [.cell 4 110,.tmp 5] Tryz.call133 Tryz.func133 ?_;refine Y4 ?_;refine fh (tl [4]) (fun(z:af)=>[]) (fun z=>[af.c z]) (fun z=>H) (fun z=>some (((af.mk 0 0 [] true [] Sl.nil),false))=some r) ?_ ?_
 ·intro E t;refine Y2 ?_;refine aV aO.c f fun F=>Y3 ?_;obtain⟨k,m,b⟩:=eH b;refine iA (tl [1,4,8,9]) (fun(z:Nat×af)=>[(10,vi z.1)]) (fun z=>[af.c z.2]) (fun z=>H) (fun z=>f.l.length-z.1) (fun z=>k (wu g (f.l.drop z.1) )=some r) (0,af.zero) b wA ?_;rintro ⟨p,q⟩ b G u;try dsimp only at b
  refine Y3 ?_;refine ar fun I v=>?_;refine ag.bW (fun l=>k (wu g l )=some r) b rfl (fun J s j b=>?_) (fun j b=>?_)
  ·rw [wu] at b;try dsimp only at j
   have K:=oD j;refine sk v (ar fun L w=>Y2 ?_);obtain⟨M,y,b⟩:=vP s b;refine S (ix aO.c p y) (Y4 ?_);refine bl 7 _ rfl (kl [1,4,8,9,10]) ?_;refine Y6 ?_;refine cP b (fun B b=>?_) (fun B b=>?_)
   ·refine Y6 ?_;exact rs (ku m b:)
   refine sk w (Y4 ?_);exact u _ ((p+1),q) wA b (dl s)
  rw [wu] at b;have b:=ku m b;try dsimp only at b
  refine ag.exit ?_;obtain⟨N,C,b⟩:=eH b;exact t _ q wA (ku C b:)
 rintro O b;try dsimp only at b
 refine Y5 ?_;exact rt b
def lQ (b:Bs):List az->Unit ⊕ ((az×Bool))
 | []=>Sum.inl ()
 | g::j=>on (g) fun f=>bif ((f.aa==b)) then(Sum.inr (f,true)) else(lQ b (j) )
def iq (j:(Sl az)) (b:Bs):(az×Bool):=on (lQ b j.l ) fun f=>match f with|Sum.inl _=>(on (()) fun _=>((az.mk [] ax.zero false af.zero Sl.nil),false))|Sum.inr g=>(g)
theorem wv {f g w0 r}(b:some (iq f g)=some r) (H:ah) :At 149 [.d (Sl.d 10 az.c w0 f),.d (.str g)] H (RT (.b_ [.agg (az.c r.1),.d (.bool r.2)]) H):=by
 unfold iq at b;refine AC.oW 21 [.cell 4 112,.tmp 5] Tryz.call149 Tryz.func149 ?_;refine Y4 ?_;refine fh (tl [4]) (fun(z:az)=>[]) (fun z=>[az.c z]) (fun z=>H) (fun z=>some (((az.mk [] ax.zero false af.zero Sl.nil),false))=some r) ?_ ?_
 ·intro E t;refine Y2 ?_;refine aV az.c f fun F=>Y3 ?_;obtain⟨k,m,b⟩:=eH b;refine iA (tl [1,4,8,9]) (fun(z:Nat×az)=>[(10,vi z.1)]) (fun z=>[az.c z.2]) (fun z=>H) (fun z=>f.l.length-z.1) (fun z=>k (lQ g (f.l.drop z.1) )=some r) (0,az.zero) b wA ?_;rintro ⟨p,q⟩ b G u;try dsimp only at b
  refine Y3 ?_;refine ar fun I v=>?_;refine ag.bW (fun l=>k (lQ g l )=some r) b rfl (fun J s j b=>?_) (fun j b=>?_)
  ·rw [lQ] at b;try dsimp only at j
   have K:=oD j;refine sk v (ar fun L w=>Y2 ?_);obtain⟨M,y,b⟩:=vP s b;refine S (ix az.c p y) (Y4 ?_);refine bl 7 _ rfl (kl [1,4,8,9,10]) ?_;refine Y6 ?_;refine cP b (fun B b=>?_) (fun B b=>?_)
   ·refine Y5 ?_;exact rs (ku m b:)
   refine sk w (Y4 ?_);exact u _ ((p+1),q) wA b (dl s)
  rw [lQ] at b;have b:=ku m b;try dsimp only at b
  refine ag.exit ?_;obtain⟨N,C,b⟩:=eH b;exact t _ q wA (ku C b:)
 rintro O b;try dsimp only at b
 refine Y5 ?_;exact rt b
def qB (j:an) (b:Bs):Bool:=on (oS b) fun f=>on (bif !f then zl j b else(0:Int)) fun g=>(f||(decide (g=(4:Int))))
theorem MQ {g f r}(b:some (qB g f)=some r) (H:ah) :At 136 [.agg (an.c g),.d (.str f)] H (RT (.a (.d (.bool r))) H):=by
 unfold qB at b;refine AC.oW 13 [.tmp 4] Tryz.call136 Tryz.func136 ?_;refine Y6 ?_;obtain⟨l,j,b⟩:=eL b;refine Sc rfl rfl (rY j) (Y3 ?_);obtain⟨m,k,b⟩:=lz (fun _=>rfl) b;refine fV 8 9 rfl rfl rfl rfl rfl rfl (fun hC=>Cz (k hC)) ?_;refine Gk 10 ?_;refine Y3 ?_;exact rt b
def ni (g:an) (b:Bs):Bool:=on (qB g b) fun f=>on (bif !f then zl g b else(0:Int)) fun j=>(f||(decide (j=(5:Int))))
theorem CI {g f r}(b:some (ni g f)=some r) (H:ah) :At 98 [.agg (an.c g),.d (.str f)] H (RT (.a (.d (.bool r))) H):=by
 unfold ni at b;refine AC.oW 14 [.tmp 4] Tryz.call98 Tryz.func98 ?_;refine Y7 ?_;obtain⟨l,j,b⟩:=eL b;refine Sc rfl rfl (MQ j) (Y3 ?_);obtain⟨m,k,b⟩:=lz (fun _=>rfl) b;refine fV 9 10 rfl rfl rfl rfl rfl rfl (fun hC=>Cz (k hC)) ?_;refine Gk 11 ?_;refine Y3 ?_;exact rt b
end Go.Proofs
