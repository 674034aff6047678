import Derived.Test.YtgkmefkmmafocaaGreatDoorV4
set_option maxRecDepth 100000
set_option maxHeartbeats 2000000
set_option linter.unusedVariables false
set_option linter.unusedSimpArgs false
namespace Go.Proofs
open Go Go.Ab
open aP ar ah aS fp
variable {ax:bK}
def rz (f:Z8) (g:Z2):Bool:=on (jB g f.aA.aa) fun b=>on (bif b then vE f else false) fun i=>(b&&i)
def ym (f:Z8) (b:Z2):Option Bool:=some (rz f b)
theorem PW (a0:Z8) (b:Z2):ym a0 b=some (rz a0 b):=rfl
theorem PX {g:Z8}{f:Z2}{c1:Nat}{r:Bool}(b:ym g f=some r) (H:ai) (k:H c1=some (.cells (Z2.c f))):AC Tryz.prog 105 [.agg (Z8.c g),.d (.view [.ptr c1 0])] H fun v h'=>v=.a (.d (.bool r))/\h'=H:=by
 unfold ym rz at b;refine AC.oW 13 [.tmp 3] Tryz.call105 Tryz.func105 ?_;refine ag (S BX (S As (nil ?_)));refine ag (S Ld (S Fv (S Fv (S Ld ?_))));obtain⟨l,i,b⟩:=vP (vC _ _) b;refine s0 (eu rfl rfl (vD i _ av)) rfl ?_;refine S Mv (G0 Ld ?_);obtain⟨m,j,b⟩:=iu (fun _=>(G7 _)) b;refine dz 10 rfl rfl rfl rfl rfl (fun hC=>G8 (j hC)) ?_;refine S PA (S As (nil ?_))
 exact rt b
def pQ (b:Z2) (f:(Sl Z8)):Option ((Sl Z8)×Bool×Z2):=on (yh f (fun g=>tU g b)) fun j=>(tV f (fun g=>some (rz g b))).bind fun i=>some (i,j,(Z2.mk b.Fd (b.dX||(decide (((i.l.length:Nat):Int)<((f.l.length:Nat):Int))))))
def B3 (f:Z2) (b:(Sl Z8)):Option ((Sl Z8)×Bool×Z2):=pQ f b
theorem G9 (a0:Z2) (b:(Sl Z8)):B3 a0 b=pQ a0 b:=rfl
theorem G_ {b:Z2}{g:Sl Z8}{q:Option Nat}{j:Nat}{r:((Sl Z8)×Bool×Z2)}(i:B3 b g=some r) (H:ai) (w:H j=some (.cells (Z2.c b))):AC Tryz.prog 65 [.d (.ptr j 0),.d (Sl.d 10 Z8.c q g)] H fun v h'=>v=.cF [.d (Sl.d 10 Z8.c none r.1),.d (.bool r.2.1)]/\h'=(H.set j (some (.cells (Z2.c r.2.2)))):=by
 unfold B3 pQ at i;refine AC.oW 31 [.tmp 4,.tmp 5] Tryz.call65 Tryz.func65 ?_;refine ah.dx (h':=(H.set j (some (.cells (Z2.c b))))) (by funext n_; simp only [ai.set]; (repeat' split)<;>simp_all) ?_;refine ag (S BX ?_);refine s0 (dR (k':=10) rfl) rfl ?_;refine S As (nil ?_);refine ag (S Mv ?_);refine s0 (makeFunc rfl) rfl ?_;obtain⟨x,t,i⟩:=vT (o:=vB g (fun m=>yl m b)) (by simp only [PT,PS]) i
 refine s0 (eu rfl rfl (PR t _ (fun _ _ hx=>PU hx _ av))) rfl ?_;refine S As (nil ?_);refine ag (S Mv ?_);refine sLen (f:=Z8.c) (s:=g) (TK rfl) rfl rfl rfl rfl fun y=>?_;refine S As (nil ?_);refine ag (S Mv ?_);refine s0 (makeFunc rfl) rfl ?_;obtain⟨p,u,i⟩:=qT (o':=tV g (fun m=>ym m b)) (by simp only [PW]) i;refine s0 (eu rfl rfl (PV u _ (fun _ _ hx=>PX hx _ av))) rfl ?_
 refine S As (nil ?_);refine ah.cr (Sd Ld (Sd Ld (Sd NP ?_)));refine au.s0 (bE (TK rfl) rfl rfl (TK rfl) rfl rfl) rfl ?_;refine au.s0 (bZ (TK rfl) rfl rfl av rfl) rfl ?_;refine Sd Mv (dr Mv ?_);refine au.gC rfl rfl (fun hC=>aK (k:=22) rfl (cK (f:=Z8.c) (s:=p) (TK rfl) rfl rfl rfl)) rfl ?_;refine dr Mv ?_;refine xk 23 24 rfl rfl BI ?_;refine Sd PO (Sd NP ?_);refine au.s0 (bE (TK rfl) rfl rfl (TK rfl) rfl rfl) rfl ?_
 refine au.dA (fO (TK rfl) rfl rfl av rfl (by repeat (first|exact bJ.zero|apply bJ.succ))) rfl rfl ?_;refine au.Dh (H.set j (some (.cells (Z2.c (Z2.mk b.Fd (b.dX||(decide (((p.l.length:Nat):Int)<((g.l.length:Nat):Int))))))))) ?_;refine au.nil (by decide +kernel) ?_;refine ag (S Mv (S Mv (S As (S As (nil ?_)))));exact rt i
def tW  :Option Int:=some (-1:Int)
def pR (f:(Sl Z9)) (g:(Z9->Option Bool)) :Nat->Nat->Option Int
 | 0,_=>none
 | i+1,b=>bif (decide (((b:Nat):Int)<((f.l.length:Nat):Int))) then((f.l[b]?).bind fun j=>(g j).bind fun k=>bif k then(some ((b:Nat):Int)) else((pR f g i) (b+1))) else(tW   )
def rA (b:(Sl Z9)) (f:(Z9->Option Bool)):Option Int:=pR b f (b.l.length+1) 0
theorem He {g:Sl Z9}{i:Z9->Option Bool}{w0:Option Nat}{m:D}{r:Int}(b:rA g i=some r) (H:ai) (u:∀o r,i o=some r->k7 Tryz.prog m [.agg (Z9.c o)] H fun v h'=>v=.a (.d (.bool r))/\h'=H):AC Tryz.prog 107 [.d (Sl.d 2 Z9.c w0 g),.d m] H fun v h'=>v=.a (.d (.int .i64 r))/\h'=H:=by
 unfold rA at b;refine AC.oW 19 [.tmp 4] Tryz.call107 Tryz.func107 ?_;refine ag (S As (nil ?_));refine aQ kN (fun(z:Unit)=>[]) (fun z=>H) (fun z=>tW =some r) ?_ ?_
 ·intro G w;refine ag (S Mv ?_);refine sLen (f:=Z9.c) (s:=g) (TK rfl) rfl rfl rfl rfl fun I=>?_;refine S Mv (nil ?_);refine block ?_;refine bA (TA 0 (TA 1 (TA 7 kN))) (fun(z:Nat×Nat)=>[(8,.a (.d (.int .i64 ((z.2:Nat):Int))))]) (fun z=>H) (fun z=>z.1) (fun z=>pR g i z.1 z.2=some r) ((g.l.length+1),0) b wA ?_;rintro ⟨j,p⟩ b J x;try dsimp only at b
  cases j with
  | zero=>cases b
  | succ j =>
    rw [pR] at b;refine ag (S BI (nil ?_));refine ay fun y q=>?_;refine cE b (fun k b=>?_) (fun k b=>?_)
    ·try dsimp only at k
     have K:=oD k;refine sk q ?_;clear q y;refine ay fun B t=>?_;refine block ?_;refine ag (S Mv (S As (nil ?_)));refine ag (S Mv (S Mv (S Mv ?_)));obtain⟨L,C,b⟩:=bO b;refine S (ix Z9.c p C) (S Ld ?_);obtain⟨M,E,b⟩:=bO b;refine s0 (Ag rfl rfl (u _ _ E)) rfl ?_;refine nil ?_;refine cE b (fun F b=>?_) (fun F b=>?_)
     ·refine ag (S Mv (S As (nil ?_)));exact rt b
     refine sk t ?_;clear t B;refine region ?_;refine SI ?_;refine S Mv (nil ?_);exact x _ (j,(p+1)) wA b (nS _)
    refine ah.exit ?_;exact w _ () wA b
 rintro _ b;try dsimp only at b
 unfold tW at b;refine ag (S As (nil ?_));exact rt b
def lU (f:(Z9->Bool)):List Z9->Nat->Unit ⊕ Int
 | [],b=>Sum.inl ()
 | g::i,b=>on (g) fun j=>on (f j) fun k=>bif k then(Sum.inr ((b:Nat):Int)) else(lU f (i) (b+1) )
theorem PY {g:Sl Z9}{j:Z9->Bool}(i:(Unit ⊕ Int)->Option Int) (m:∀(f:Nat) (b:Nat),tW   =i (Sum.inl ())) (o:∀e:Int,some e=i (Sum.inr e)):∀(f:Nat) (b:Nat),(0<f/\g.l.length<b+f)->pR g (fun p=>some (j p)) f b=i (lU j (g.l.drop b) b ):=by
 intro f;induction f with
 | zero=>intro b hn; exact absurd hn.1 (by omega)
 | succ f q =>
  intro b hn;rw [pR];by_cases bw:b<g.l.length
  ·obtain⟨r,k⟩:=Qa bw;rw [Q.k8 k,lU];refine QT bw ?_;refine Q.nD k fun s t=>?_;refine Q.nD rfl fun u v=>?_;refine Q.uY ?_ ?_
   ·all_goals exact o _
   all_goals exact q _ ⟨by omega,by omega⟩
  rw [dL (by omega),lU];refine QF bw ?_;exact m f b
def vF (i:(Sl Z9)) (b:(Z9->Bool)):Int:=on (lU b i.l 0 ) fun f=>match f with|Sum.inl _=>(on (()) fun _=>(-1:Int))|Sum.inr g=>(g)
theorem PZ (a0:(Sl Z9)) (b:(Z9->Bool)):rA a0 (fun g=>some (b g))=some (vF a0 b):=by
 unfold rA vF;refine Q.sZ fun i f=>?_;refine PY  i ?_ ?_ _ _ ⟨Nat.succ_pos _,by omega⟩
 ·intro m o;refine Qe (f _) ?_;try dsimp only
  refine Q.sZ fun j k=>?_;have l:tW  =j ():=by
   refine Qe (k _) ?_;unfold tW;all_goals rfl
  all_goals exact l
 intro p;refine Qe (f _) ?_;try dsimp only
 all_goals rfl
def pS (b:(Sl Z9)) (f:(Z9->Option Bool)):Option (Sl Z9):=(rA b f).bind fun g=>bif (decide (g=(-1:Int))) then(some b) else(none)
theorem P0 {j:Sl Z9}{f:Z9->Option Bool}{w0:Option Nat}{g:D}{r:Sl Z9}(b:pS j f=some r) (H:ai) (k:∀i r,f i=some r->k7 Tryz.prog g [.agg (Z9.c i)] H fun v h'=>v=.a (.d (.bool r))/\h'=H):AC Tryz.prog 67 [.d (Sl.d 2 Z9.c w0 j),.d g] H fun v h'=>v=.a (.d (Sl.d 2 Z9.c none r))/\h'=H:=by
 unfold pS at b;refine AC.oW 42 [.tmp 4] Tryz.call67 Tryz.func67 ?_;refine ag ?_;refine s0 (dR (k':=2) rfl) rfl ?_;refine nil ?_;refine ag (S Mv (S Mv ?_));obtain⟨o,l,b⟩:=bO b;refine s0 (eu rfl rfl (He l _ k)) rfl ?_;refine S As (nil ?_);refine ay fun p q=>?_;refine ag (S Mv (S BI (nil ?_)));refine cE b (fun m b=>?_) (fun m b=>?_)
 ·refine ag (S Mv (S As (nil ?_)));refine ah.dU 4 rfl ?_;exact rt b
 cases b
def oh (g:Z9) (b:Z2):Bool:=on (jB b g.aa) fun f=>f
def yo (f:Z9) (b:Z2):Option Bool:=some (oh f b)
theorem P3 (a0:Z9) (b:Z2):yo a0 b=some (oh a0 b):=rfl
theorem P4 {g:Z9}{f:Z2}{c1:Nat}{r:Bool}(b:yo g f=some r) (H:ai) (j:H c1=some (.cells (Z2.c f))):AC Tryz.prog 68 [.agg (Z9.c g),.d (.view [.ptr c1 0])] H fun v h'=>v=.a (.d (.bool r))/\h'=H:=by
 unfold yo oh at b;refine AC.oW 8 [.tmp 3] Tryz.call68 Tryz.func68 ?_;refine ag (S BX (S As (nil ?_)));refine ag (S Ld (S Fv (S Ld ?_)));obtain⟨k,i,b⟩:=vP (vC _ _) b;refine s0 (eu rfl rfl (vD i _ av)) rfl ?_;refine S As (nil ?_);exact rt b
def rB (b:(Sl Bs)) (f:(Bs->Option Bool)):Option (Sl Bs):=(q_ b f).bind fun g=>bif (decide (g=(-1:Int))) then(some b) else(none)
theorem P5 {j:Sl Bs}{f:Bs->Option Bool}{w0:Option Nat}{g:D}{r:Sl Bs}(b:rB j f=some r) (H:ai) (k:∀i r,f i=some r->k7 Tryz.prog g [.d (.str i)] H fun v h'=>v=.a (.d (.bool r))/\h'=H):AC Tryz.prog 69 [.d (Sl.d 1 aO w0 j),.d g] H fun v h'=>v=.a (.d (Sl.d 1 aO none r))/\h'=H:=by
 unfold rB at b;refine AC.oW 42 [.tmp 4] Tryz.call69 Tryz.func69 ?_;refine ag ?_;refine s0 (dR (k':=1) rfl) rfl ?_;refine nil ?_;refine ag (S Mv (S Mv ?_));obtain⟨o,l,b⟩:=bO b;refine s0 (eu rfl rfl (GR l _ k)) rfl ?_;refine S As (nil ?_);refine ay fun p q=>?_;refine ag (S Mv (S BI (nil ?_)));refine cE b (fun m b=>?_) (fun m b=>?_)
 ·refine ag (S Mv (S As (nil ?_)));refine ah.dU 4 rfl ?_;exact rt b
 cases b
def mM :List Z7->(Sl Z7)->Z2->Option (((Sl Z7)×Z2))
 | [],g,i=>some (g,i)
 | k::l,g,i=>on (k) fun f=>(pQ i f.aH).bind fun b=>on (bif !b.2.1 then jB b.2.2 f.aA.aa else false) fun m=>Option.bind (bif (b.2.1||m) then(some (g,(Z2.mk b.2.2.Fd true))) else((aW 104 g (⟨false,[(Z7.mk f.aa b.1 f.aA f.bp)]⟩:Sl Z7)).bind fun o=>some (o,b.2.2))) fun j=>mM  (l) j.1 j.2
def tX (s:Z2) (f:aj):Option (Bool×Z2×aj):=Option.bind (mM  f.aB.l (Sl.nil:Sl Z7) s) fun o=>on ((o.1,o.2)) fun z3=>(pQ z3.2 f.aL).bind fun g=>(cG ((f.aG.l.length:Nat):Int) ((f.aX.l.length:Nat):Int)).bind fun j=>Option.bind (bif (decide (f.an=(3:Int))) then((pS f.aG (fun k=>some (oh k g.2.2))).bind fun p=>some (aj.mk f.an f.aa f.aX f.bp z3.1 p g.1)) else(some (aj.mk f.an f.aa f.aX f.bp z3.1 f.aG g.1))) fun b=>(rB b.aX (fun k=>some (jB g.2.2 k))).bind fun i=>aR (!g.2.2.dX) (cG ((b.aG.l.length:Nat):Int) ((i.l.length:Nat):Int)) (0:Int) fun m=>on (bif (decide (b.an=(1:Int))) then((decide (b.an=(1:Int)))) else((decide (b.an=(2:Int))))) fun q=>bif q then(some ((decide ((0:Int)<((b.aB.l.length:Nat):Int))),(Z2.mk g.2.2.Fd (g.2.2.dX||(decide (m<j)))),(aj.mk b.an b.aa i b.bp b.aB b.aG b.aL))) else(on (bif (decide (b.an=(3:Int))) then((decide (b.an=(3:Int)))) else((decide (b.an=(4:Int))))) fun r=>bif r then(some ((decide ((0:Int)<((b.aG.l.length:Nat):Int))),(Z2.mk g.2.2.Fd (g.2.2.dX||(decide (m<j)))),(aj.mk b.an b.aa i b.bp b.aB b.aG b.aL))) else(on (()) fun _=>some (((!g.2.1)&&(decide ((0:Int)<((b.aL.l.length:Nat):Int)))),(Z2.mk g.2.2.Fd (g.2.2.dX||(decide (m<j)))),(aj.mk b.an b.aa i b.bp b.aB b.aG b.aL))))
def B4 (f:Z2) (b:aj):Option (Bool×Z2×aj):=tX f b
theorem P6 (a0:Z2) (b:aj):B4 a0 b=tX a0 b:=rfl
theorem P7 {I:Z2}{i:aj}{m c1:Nat}{r:Bool×Z2×aj}(b:B4 I i=some r) (H:ai) (a7:H m=some (.cells (Z2.c I))) (a8:H c1=some (.cells (aj.c i))) (a9:c1≠m):AC Tryz.prog 40 [.d (.ptr m 0),.d (.ptr c1 0)] H fun v h'=>v=.a (.d (.bool r.1))/\h'=((H.set m (some (.cells (Z2.c r.2.1)))).set c1 (some (.cells (aj.c r.2.2)))):=by
 unfold B4 tX at b;refine AC.oW 149 [.tmp 4] Tryz.call40 Tryz.func40 ?_;refine ah.dx (h':=((H.set m (some (.cells (Z2.c I)))).set c1 (some (.cells (aj.c i))))) (by funext n_; simp only [ai.set]; (repeat' split)<;>simp_all) ?_;refine ah.tok 5 fun o F=>?_;obtain⟨a_,F⟩:=ai.dP F;obtain⟨a',F⟩:=ai.dP F;refine ag (S BX (S As (nil ?_)))
 refine ag (S As (nil ?_));refine ah.fJ 5 5 o rfl av ?_;refine aQ (TA 1 (TA 2 kN)) (fun(z:(Sl Z7)×Z2)=>[(5,.a (.d (Sl.d 5 Z7.c (some o) z.1)))]) (fun z=>(((H.set m (some (.cells (Z2.c z.2)))).set c1 (some (.cells (aj.c i)))).set o (some (.tok 5 z.1.l.length)))) (fun z=>((pQ z.2 i.aL).bind fun j=>(cG ((i.aG.l.length:Nat):Int) ((i.aX.l.length:Nat):Int)).bind fun t=>Option.bind (bif (decide (i.an=(3:Int))) then((pS i.aG (fun x=>some (oh x j.2.2))).bind fun G=>some (aj.mk i.an i.aa i.aX i.bp z.1 G j.1)) else(some (aj.mk i.an i.aa i.aX i.bp z.1 i.aG j.1))) fun g=>(rB g.aX (fun x=>some (jB j.2.2 x))).bind fun q=>aR (!j.2.2.dX) (cG ((g.aG.l.length:Nat):Int) ((q.l.length:Nat):Int)) (0:Int) fun u=>on (bif (decide (g.an=(1:Int))) then((decide (g.an=(1:Int)))) else((decide (g.an=(2:Int))))) fun M=>bif M then(some ((decide ((0:Int)<((g.aB.l.length:Nat):Int))),(Z2.mk j.2.2.Fd (j.2.2.dX||(decide (u<t)))),(aj.mk g.an g.aa q g.bp g.aB g.aG g.aL))) else(on (bif (decide (g.an=(3:Int))) then((decide (g.an=(3:Int)))) else((decide (g.an=(4:Int))))) fun N=>bif N then(some ((decide ((0:Int)<((g.aG.l.length:Nat):Int))),(Z2.mk j.2.2.Fd (j.2.2.dX||(decide (u<t)))),(aj.mk g.an g.aa q g.bp g.aB g.aG g.aL))) else(on (()) fun _=>some (((!j.2.1)&&(decide ((0:Int)<((g.aL.l.length:Nat):Int)))),(Z2.mk j.2.2.Fd (j.2.2.dX||(decide (u<t)))),(aj.mk g.an g.aa q g.bp g.aB g.aG g.aL)))))=some r) ?_ ?_
 ·intro ba af;refine ag (S Mv (S NP ?_));refine s0 (bE (TK rfl) rfl rfl (TK rfl) rfl rfl) rfl ?_;refine s0 (bZ (TK rfl) rfl rfl av rfl) rfl ?_;refine sLen (f:=Z7.c) (s:=i.aB) (TK rfl) rfl rfl rfl rfl fun bb=>?_;refine S Mv (nil ?_);refine block ?_;obtain⟨J,ak,b⟩:=b_ b;refine bA (TA 1 (TA 2 (TA 14 (TA 15 kN)))) (fun(z:(Sl Z7)×Nat×Z2)=>[(5,.a (.d (Sl.d 5 Z7.c (some o) z.1))),(16,.a (.d (.int .i64 ((z.2.1:Nat):Int))))]) (fun z=>(((H.set m (some (.cells (Z2.c z.2.2)))).set c1 (some (.cells (aj.c i)))).set o (some (.tok 5 z.1.l.length)))) (fun z=>i.aB.l.length-z.2.1) (fun z=>Option.bind (mM  (i.aB.l.drop z.2.1) z.1 z.2.2) J=some r) ((Sl.nil:Sl Z7),0,I) b wA ?_
  rintro ⟨y,K,O⟩ b bc al;try dsimp only at b
  refine ag (S BI (nil ?_));refine ay fun ao P=>?_;refine ah.bN (fun l=>Option.bind (mM  l y O) J=some r) b rfl (fun bd Q L b=>?_) (fun L b=>?_)
  ·rw [mM] at b;try dsimp only at L
   have be:=oD L;refine sk P ?_;clear P ao;refine aQ (TA 1 (TA 2 (TA 14 (TA 15 (TA 16 kN))))) (fun(z:(Sl Z7)×Z2)=>[(5,.a (.d (Sl.d 5 Z7.c (some o) z.1)))]) (fun z=>(((H.set m (some (.cells (Z2.c z.2)))).set c1 (some (.cells (aj.c i)))).set o (some (.tok 5 z.1.l.length)))) (fun z=>Option.bind (mM  (i.aB.l.drop (K+1)) z.1 z.2) J=some r) ?_ ?_
   ·intro bf R;refine block ?_;refine ag ?_;obtain⟨bg,ap,b⟩:=vO Q b;refine S (ix Z7.c K ap) (S Ld ?_);refine Sl ?_;refine Sf ?_;refine nil ?_;refine ag (S As (nil ?_));refine ag (S Ld (S FL (S LL ?_)));obtain⟨B,aq,b⟩:=qO (G9 _ _) b;refine sH (bP rfl rfl (G_ aq _ av)) rfl ?_;refine hq (((H.set m (some (.cells (Z2.c B.2.2)))).set c1 (some (.cells (aj.c i)))).set o (some (.tok 5 y.l.length))) ?_
    refine S Mv (S EX (S EX (S FL ?_)));refine Sf ?_;refine S As (nil ?_);refine ay fun aw U=>?_;refine ag (S Mv (S Mv (G0 Ld (G0 FL ?_))));refine gC rfl rfl (fun hC=>sW (k:=31) rfl (EM (TK rfl) rfl rfl (TK rfl) rfl rfl)) rfl ?_;refine gC rfl rfl (fun hC=>sW (k:=32) rfl (sJ (TK rfl) rfl rfl rfl rfl)) rfl ?_;obtain⟨bh,ax,b⟩:=eH (fun _=>(vC _ _)) b;refine gC rfl rfl (fun hC=>aK (k:=30) rfl (aK (k:=33) rfl (eu rfl rfl (vD (ax hC) _ av)))) rfl ?_
    refine S PO (nil ?_);obtain⟨bi,W,b⟩:=dI b;refine cO b (fun az b=>?_) (fun az b=>?_)
    ·refine ag (S Ld (S NP ?_));refine s0 (bE (TK rfl) rfl rfl (TK rfl) rfl rfl) rfl ?_;refine dA (fO (TK rfl) rfl rfl av rfl (by repeat (first|exact bJ.zero|apply bJ.succ))) rfl rfl ?_;refine hq (((H.set m (some (.cells (Z2.c (Z2.mk B.2.2.Fd true))))).set c1 (some (.cells (aj.c i)))).set o (some (.tok 5 y.l.length))) ?_;refine nil ?_;refine ah.exit ?_;have b:=ku W b
     exact R _ (y,(Z2.mk B.2.2.Fd true)) wA b
    refine sk U ?_;clear U aw;refine region ?_;refine S Mv (S LL (S BV ?_));obtain⟨X,aA,b⟩:=qO rfl b;refine SH (am Z7.c (TK rfl) rfl (TK rfl) (TK rfl) aA) ?_;refine hq (((H.set m (some (.cells (Z2.c B.2.2)))).set c1 (some (.cells (aj.c i)))).set o (some (.tok 5 X.l.length))) ?_;refine S As (nil ?_);have b:=ku W b;exact R _ (X,B.2.2) wA b
   rintro ⟨aC,aD⟩ b;try dsimp only at b
   refine region ?_;refine SI ?_;refine S Mv (nil ?_);exact al _ (aC,(K+1),aD) wA b (dl Q)
  rw [mM] at b;have b:=ku ak b;try dsimp only at b
  refine ah.exit ?_;obtain⟨bj,aE,b⟩:=bW b;have b:=ku aE b;exact af _ (y,O) wA b
 rintro ⟨p,aF⟩ b;try dsimp only at b
 refine ag (S Mv (S Mv (S NP ?_)));refine s0 (bE (TK rfl) rfl rfl (TK rfl) rfl rfl) rfl ?_;refine aP.dU 45 rfl ?_;refine dA (fO (TK rfl) rfl rfl av rfl (by repeat (first|exact bJ.zero|apply bJ.succ))) rfl rfl ?_;refine hq (((H.set m (some (.cells (Z2.c aF)))).set c1 (some (.cells (aj.c (aj.mk i.an i.aa i.aX i.bp p i.aG i.aL))))).set o (some (.tok 5 p.l.length))) ?_
 refine nil ?_;refine ag (S As (nil ?_));refine ah.cr (Sd Mv (Sd Ld (Sd Mv (Sd NP ?_))));refine au.s0 (bE (TK rfl) rfl rfl (TK rfl) rfl rfl) rfl ?_;refine au.s0 (bZ (TK rfl) rfl rfl av rfl) rfl ?_;obtain⟨j,aH,b⟩:=qT (G9 _ _) b;refine au.sH (bP rfl rfl (G_ aH _ av)) rfl ?_;refine au.Dh (((H.set m (some (.cells (Z2.c j.2.2)))).set c1 (some (.cells (aj.c (aj.mk i.an i.aa i.aX i.bp p i.aG i.aL))))).set o (some (.tok 5 p.l.length))) ?_
 refine Sd Mv (Sd EX (Sd EX (Sd NP ?_)));refine au.s0 (bE (TK rfl) rfl rfl (TK rfl) rfl rfl) rfl ?_;refine au.dA (fO (TK rfl) rfl rfl av rfl (by repeat (first|exact bJ.zero|apply bJ.succ))) rfl rfl ?_;refine au.Dh (((H.set m (some (.cells (Z2.c j.2.2)))).set c1 (some (.cells (aj.c (aj.mk i.an i.aa i.aX i.bp p i.aG j.1))))).set o (some (.tok 5 p.l.length))) ?_
 refine Sd As ?_;refine au.nil (by decide +kernel) ?_;refine ah.cr (Sd Mv (Sd NP ?_));refine au.s0 (bE (TK rfl) rfl rfl (TK rfl) rfl rfl) rfl ?_;refine au.s0 (bZ (TK rfl) rfl rfl av rfl) rfl ?_;refine au.s0 (cK (f:=Z9.c) (s:=i.aG) (TK rfl) rfl rfl rfl) rfl ?_;refine Sd Mv (Sd NP ?_);refine au.s0 (bE (TK rfl) rfl rfl (TK rfl) rfl rfl) rfl ?_;refine au.s0 (bZ (TK rfl) rfl rfl av rfl) rfl ?_
 refine au.s0 (cK (f:=aO) (s:=i.aX) (TK rfl) rfl rfl rfl) rfl ?_;obtain⟨t,aI,b⟩:=qT rfl b;refine au.s0 (eR rfl rfl aI) rfl ?_;refine Sd As ?_;refine au.nil (by decide +kernel) ?_;obtain⟨aJ,aM,b⟩:=b_ b;refine aQ (TA 1 (TA 2 (TA 9 (TA 10 kN)))) (fun(z:aj)=>[]) (fun z=>(((H.set m (some (.cells (Z2.c j.2.2)))).set c1 (some (.cells (aj.c z)))).set o (some (.tok 5 p.l.length)))) (fun z=>aJ z=some r) ?_ ?_
 ·intro bk Y;refine ag (S Mv (S NP ?_));refine s0 (bE (TK rfl) rfl rfl (TK rfl) rfl rfl) rfl ?_;refine s0 (bZ (TK rfl) rfl rfl av rfl) rfl ?_;refine S BI (nil ?_);refine cO b (fun aN b=>?_) (fun aN b=>?_)
  ·refine region ?_;refine S Mv (S Mv (S NP ?_));refine s0 (bE (TK rfl) rfl rfl (TK rfl) rfl rfl) rfl ?_;refine s0 (bZ (TK rfl) rfl rfl av rfl) rfl ?_;refine s0 (makeFunc rfl) rfl ?_;obtain⟨G,aT,b⟩:=qO (o':=pS i.aG (fun x=>yo x j.2.2)) (by simp only [P3]) b;refine s0 (eu rfl rfl (P0 aT _ (fun _ _ hx=>P4 hx _ av))) rfl ?_;refine S NP ?_;refine s0 (bE (TK rfl) rfl rfl (TK rfl) rfl rfl) rfl ?_
   refine dA (fO (TK rfl) rfl rfl av rfl (by repeat (first|exact bJ.zero|apply bJ.succ))) rfl rfl ?_;refine hq (((H.set m (some (.cells (Z2.c j.2.2)))).set c1 (some (.cells (aj.c (aj.mk i.an i.aa i.aX i.bp p G j.1))))).set o (some (.tok 5 p.l.length))) ?_;refine nil ?_;exact Y _ (aj.mk i.an i.aa i.aX i.bp p G j.1) wA b
  refine ah.skip ?_;exact Y _ (aj.mk i.an i.aa i.aX i.bp p i.aG j.1) wA b
 rintro g b;try dsimp only at b
 have b:=ku aM b;refine ah.cr (Sd Mv (Sd Mv (Sd NP ?_)));refine au.s0 (bE (TK rfl) rfl rfl (TK rfl) rfl rfl) rfl ?_;refine au.s0 (bZ (TK rfl) rfl rfl av rfl) rfl ?_;refine Sd Ld ?_;refine au.s0 (M5 rfl) rfl ?_;obtain⟨q,aU,b⟩:=qT (o':=rB g.aX (fun x=>yj j.2.2 x)) (by simp only [vC]) b;refine au.s0 (eu rfl rfl (P5 aU _ (fun _ _ hx=>vD hx _ av))) rfl ?_
 refine Sd NP ?_;refine au.s0 (bE (TK rfl) rfl rfl (TK rfl) rfl rfl) rfl ?_;refine au.dA (fO (TK rfl) rfl rfl av rfl (by repeat (first|exact bJ.zero|apply bJ.succ))) rfl rfl ?_;refine au.Dh (((H.set m (some (.cells (Z2.c j.2.2)))).set c1 (some (.cells (aj.c (aj.mk g.an g.aa q g.bp g.aB g.aG g.aL))))).set o (some (.tok 5 p.l.length))) ?_
 refine au.nil (by decide +kernel) ?_;refine ah.cr (Sd Ld (Sd Ld (Sd NP ?_)));refine au.s0 (bE (TK rfl) rfl rfl (TK rfl) rfl rfl) rfl ?_;refine au.s0 (bZ (TK rfl) rfl rfl av rfl) rfl ?_;refine Sd Mv (dr Mv ?_);refine dK 101 rfl NP ?_;refine au.gC rfl rfl (fun hC=>aK (k:=102) rfl (bE (TK rfl) rfl rfl (TK rfl) rfl rfl)) rfl ?_;refine au.gC rfl rfl (fun hC=>aK (k:=103) rfl (bZ (TK rfl) rfl rfl av rfl)) rfl ?_
 refine au.gC rfl rfl (fun hC=>aK (k:=104) rfl (cK (f:=Z9.c) (s:=g.aG) (TK rfl) rfl rfl rfl)) rfl ?_;refine dr Mv ?_;refine dK 106 rfl NP ?_;refine au.gC rfl rfl (fun hC=>aK (k:=107) rfl (bE (TK rfl) rfl rfl (TK rfl) rfl rfl)) rfl ?_;refine au.gC rfl rfl (fun hC=>aK (k:=108) rfl (bZ (TK rfl) rfl rfl av rfl)) rfl ?_;refine au.gC rfl rfl (fun hC=>aK (k:=109) rfl (cK (f:=aO) (s:=q) (TK rfl) rfl rfl rfl)) rfl ?_
 obtain⟨u,aV,b⟩:=dQ rfl b;refine au.gC rfl rfl (fun hC=>aK (k:=105) rfl (aK (k:=110) rfl (eR rfl rfl (aV hC)))) rfl ?_;refine dr Mv ?_;refine xk 111 112 rfl rfl BI ?_;refine Sd PO (Sd NP ?_);refine au.s0 (bE (TK rfl) rfl rfl (TK rfl) rfl rfl) rfl ?_;refine au.dA (fO (TK rfl) rfl rfl av rfl (by repeat (first|exact bJ.zero|apply bJ.succ))) rfl rfl ?_;refine au.Dh (((H.set m (some (.cells (Z2.c (Z2.mk j.2.2.Fd (j.2.2.dX||(decide (u<t)))))))).set c1 (some (.cells (aj.c (aj.mk g.an g.aa q g.bp g.aB g.aG g.aL))))).set o (some (.tok 5 p.l.length))) ?_
 refine au.nil (by decide +kernel) ?_;refine aQ (TA 1 (TA 9 kN)) (fun(z:Unit)=>[]) (fun z=>(((H.set m (some (.cells (Z2.c (Z2.mk j.2.2.Fd (j.2.2.dX||(decide (u<t)))))))).set c1 (some (.cells (aj.c (aj.mk g.an g.aa q g.bp g.aB g.aG g.aL))))).set o (some (.tok 5 p.l.length)))) (fun z=>(some (((!j.2.1)&&(decide ((0:Int)<((g.aL.l.length:Nat):Int)))),(Z2.mk j.2.2.Fd (j.2.2.dX||(decide (u<t)))),(aj.mk g.an g.aa q g.bp g.aB g.aG g.aL)))=some r) ?_ ?_
 ·intro bl aW;refine ag (S Mv (S NP ?_));refine s0 (bE (TK rfl) rfl rfl (TK rfl) rfl rfl) rfl ?_;refine s0 (bZ (TK rfl) rfl rfl av rfl) rfl ?_;refine nil ?_;refine block ?_;obtain⟨aY,aZ,b⟩:=bW b;refine aQ (TA 1 (TA 9 (TA 120 kN))) (fun(z:Bool)=>[(121,.a (.d (.bool z)))]) (fun z=>(((H.set m (some (.cells (Z2.c (Z2.mk j.2.2.Fd (j.2.2.dX||(decide (u<t)))))))).set c1 (some (.cells (aj.c (aj.mk g.an g.aa q g.bp g.aB g.aG g.aL))))).set o (some (.tok 5 p.l.length)))) (fun z=>aY z=some r) ?_ ?_
  ·intro bm Z;refine ag (S BI (S As (nil ?_)));refine cP b (fun a0 b=>?_) (fun a0 b=>?_)
   ·refine ah.skip ?_;exact Z _ (decide (g.an=(1:Int))) wA b
   refine region ?_;refine S BI (S As (nil ?_));exact Z _ (decide (g.an=(2:Int))) wA b
  rintro M b;try dsimp only at b
  have b:=ku aZ b;refine cE b (fun a1 b=>?_) (fun a1 b=>?_)
  ·refine ag (S Mv (S NP ?_));refine s0 (bE (TK rfl) rfl rfl (TK rfl) rfl rfl) rfl ?_;refine s0 (bZ (TK rfl) rfl rfl av rfl) rfl ?_;refine sLen (f:=Z7.c) (s:=g.aB) (TK rfl) rfl rfl rfl rfl fun bo=>?_;refine S BI (S As (nil ?_));refine ah.ret ?_;repeat (first|refine bF ?_|refine bG ?_)
   obtain rfl:=oJ b;refine bn.bH ((H.set m (some (.cells (Z2.c (Z2.mk j.2.2.Fd (j.2.2.dX||(decide (u<t)))))))).set c1 (some (.cells (aj.c (aj.mk g.an g.aa q g.bp g.aB g.aG g.aL))))) rfl ⟨rfl,rfl⟩ ?_;intro C ab w;have ad:C≠o:=fun E=>by subst E; simp_all [ai.set]
   rw [<- w];simp only [ai.set] at w ⊢
   (repeat' split)<;>simp_all
  obtain⟨a2,a3,b⟩:=bW b;refine aQ (TA 1 (TA 9 kN)) (fun(z:Bool)=>[(130,.a (.d (.bool z)))]) (fun z=>(((H.set m (some (.cells (Z2.c (Z2.mk j.2.2.Fd (j.2.2.dX||(decide (u<t)))))))).set c1 (some (.cells (aj.c (aj.mk g.an g.aa q g.bp g.aB g.aG g.aL))))).set o (some (.tok 5 p.l.length)))) (fun z=>a2 z=some r) ?_ ?_
  ·intro bq ae;refine ag (S BI (S As (nil ?_)));refine cP b (fun a4 b=>?_) (fun a4 b=>?_)
   ·refine ah.skip ?_;exact ae _ (decide (g.an=(3:Int))) wA b
   refine region ?_;refine S BI (S As (nil ?_));exact ae _ (decide (g.an=(4:Int))) wA b
  rintro N b;try dsimp only at b
  have b:=ku a3 b;refine cE b (fun a5 b=>?_) (fun a5 b=>?_)
  ·refine ag (S Mv (S NP ?_));refine s0 (bE (TK rfl) rfl rfl (TK rfl) rfl rfl) rfl ?_;refine s0 (bZ (TK rfl) rfl rfl av rfl) rfl ?_;refine sLen (f:=Z9.c) (s:=g.aG) (TK rfl) rfl rfl rfl rfl fun br=>?_;refine S BI (S As (nil ?_));refine ah.ret ?_;repeat (first|refine bF ?_|refine bG ?_)
   obtain rfl:=oJ b;refine bn.bH ((H.set m (some (.cells (Z2.c (Z2.mk j.2.2.Fd (j.2.2.dX||(decide (u<t)))))))).set c1 (some (.cells (aj.c (aj.mk g.an g.aa q g.bp g.aB g.aG g.aL))))) rfl ⟨rfl,rfl⟩ ?_;intro C ab w;have ad:C≠o:=fun E=>by subst E; simp_all [ai.set]
   rw [<- w];simp only [ai.set] at w ⊢
   (repeat' split)<;>simp_all
  refine ah.skip ?_;obtain⟨bs,a6,b⟩:=bW b;have b:=ku a6 b;exact aW _ () wA b
 rintro _ b;try dsimp only at b
 refine ag (S Mv (S NB (S Mv (G0 Mv ?_))));refine G1 142 rfl NP ?_;refine gC rfl rfl (fun hC=>aK (k:=143) rfl (bE (TK rfl) rfl rfl (TK rfl) rfl rfl)) rfl ?_;refine gC rfl rfl (fun hC=>aK (k:=144) rfl (bZ (TK rfl) rfl rfl av rfl)) rfl ?_;refine gC rfl rfl (fun hC=>aK (k:=145) rfl (cK (f:=Z8.c) (s:=g.aL) (TK rfl) rfl rfl rfl)) rfl ?_;refine G1 146 rfl BI ?_;refine S PA (S As (nil ?_))
 refine ah.ret ?_;repeat (first|refine bF ?_|refine bG ?_)
 obtain rfl:=oJ b;refine bn.bH ((H.set m (some (.cells (Z2.c (Z2.mk j.2.2.Fd (j.2.2.dX||(decide (u<t)))))))).set c1 (some (.cells (aj.c (aj.mk g.an g.aa q g.bp g.aB g.aG g.aL))))) rfl ⟨rfl,rfl⟩ ?_;intro C ab w;have ad:C≠o:=fun E=>by subst E; simp_all [ai.set]
 rw [<- w];simp only [ai.set] at w ⊢
 (repeat' split)<;>simp_all
def mN :List aj->(Sl aj)->Z2->Option (((Sl aj)×Z2))
 | [],b,g=>some (b,g)
 | j::k,b,g=>on (j) fun l=>(tX g l).bind fun f=>Option.bind (bif f.1 then((aW 144 b (⟨false,[f.2.2]⟩:Sl aj)).bind fun m=>some (m,f.2.1)) else(some (b,(Z2.mk f.2.1.Fd true)))) fun i=>mN  (k) i.1 i.2
def vG (f:Z2):Option Z2:=Option.bind (mN  f.Fd.aq.l (Sl.nil:Sl aj) (Z2.mk f.Fd false)) fun b=>on ((b.1,b.2)) fun z3=>some (Z2.mk (ak.mk z3.1) z3.2.dX)
def vH (b:Z2):Option Z2:=vG b
theorem P8 (a0:Z2):vH a0=vG a0:=rfl
theorem Hf {k:Z2}{g:Nat}{r:Z2}(b:vH k=some r) (H:ai) (ap:H g=some (.cells (Z2.c k))):AC Tryz.prog 18 [.d (.ptr g 0)] H fun v h'=>v=.cF []/\h'=(H.set g (some (.cells (Z2.c r)))):=by
 unfold vH vG at b;refine AC.oW 33 [] Tryz.call18 Tryz.func18 ?_;refine ah.dx (h':=(H.set g (some (.cells (Z2.c k))))) (by funext n_; simp only [ai.set]; (repeat' split)<;>simp_all) ?_;refine ah.tok 7 fun i F=>?_;obtain⟨au,F⟩:=ai.dP F;refine ag (S Mv (S NP ?_));refine s0 (bE (TK rfl) rfl rfl (TK rfl) rfl rfl) rfl ?_;refine dA (fO (TK rfl) rfl rfl av rfl (by repeat (first|exact bJ.zero|apply bJ.succ))) rfl rfl ?_
 refine hq ((H.set g (some (.cells (Z2.c (Z2.mk k.Fd false))))).set i (some (.tok 7 0))) ?_;refine nil ?_;refine ag (S As (nil ?_));refine ah.fJ 2 7 i rfl av ?_;refine aQ (TA 0 kN) (fun(z:(Sl aj)×Z2)=>[(2,.a (.d (Sl.d 7 aj.c (some i) z.1)))]) (fun z=>((H.set g (some (.cells (Z2.c z.2)))).set i (some (.tok 7 z.1.l.length)))) (fun z=>(some (Z2.mk (ak.mk z.1) z.2.dX))=some r) ?_ ?_
 ·intro aw Q;refine ag (S Mv (S NP ?_));refine s0 (bE (TK rfl) rfl rfl (TK rfl) rfl rfl) rfl ?_;refine s0 (bE (TK rfl) rfl rfl (TK rfl) rfl rfl) rfl ?_;refine s0 (bZ (TK rfl) rfl rfl av rfl) rfl ?_;refine sLen (f:=aj.c) (s:=k.Fd.aq) (TK rfl) rfl rfl rfl rfl fun ax=>?_;refine S Mv (nil ?_);refine block ?_;obtain⟨x,R,b⟩:=b_ b;refine bA (TA 0 (TA 12 (TA 13 kN))) (fun(z:(Sl aj)×Nat×Z2)=>[(2,.a (.d (Sl.d 7 aj.c (some i) z.1))),(14,.a (.d (.int .i64 ((z.2.1:Nat):Int))))]) (fun z=>((H.set g (some (.cells (Z2.c z.2.2)))).set i (some (.tok 7 z.1.l.length)))) (fun z=>k.Fd.aq.l.length-z.2.1) (fun z=>Option.bind (mN  (k.Fd.aq.l.drop z.2.1) z.1 z.2.2) x=some r) ((Sl.nil:Sl aj),0,(Z2.mk k.Fd false)) b wA ?_
  rintro ⟨o,y,w⟩ b az U;try dsimp only at b
  refine ag (S BI (nil ?_));refine ay fun W G=>?_;refine ah.bN (fun l=>Option.bind (mN  l o w) x=some r) b rfl (fun aA I B b=>?_) (fun B b=>?_)
  ·rw [mN] at b;try dsimp only at B
   have aB:=oD B;refine sk G ?_;clear G W;refine aQ (TA 0 (TA 12 (TA 13 (TA 14 kN)))) (fun(z:(Sl aj)×Z2)=>[(2,.a (.d (Sl.d 7 aj.c (some i) z.1)))]) (fun z=>((H.set g (some (.cells (Z2.c z.2)))).set i (some (.tok 7 z.1.l.length)))) (fun z=>Option.bind (mN  (k.Fd.aq.l.drop (y+1)) z.1 z.2) x=some r) ?_ ?_
   ·intro aC J;refine block ?_;refine ag ?_;obtain⟨X,Y,b⟩:=vO I b;refine S (ix aj.c y Y) (S Ld ?_);refine sE (c_.wU (TK rfl) rfl) rfl (fun _ _ _ ⟨p,q,Z,aa,ab⟩=>?_); subst Z aa ab;obtain⟨K,q⟩:=ai.dP q;obtain⟨L,q⟩:=ai.dP q;refine hq (((H.set g (some (.cells (Z2.c w)))).set i (some (.tok 7 o.l.length))).set p (some (.cells (aj.c aj.zero)))) ?_
    refine dA (qF (TK rfl) rfl rfl av rfl (Nat.le_of_ble_eq_true rfl) rfl rfl) rfl rfl ?_;refine hq (((H.set g (some (.cells (Z2.c w)))).set i (some (.tok 7 o.l.length))).set p (some (.cells (aj.c X)))) ?_;refine nil ?_;refine ag (S Mv ?_);obtain⟨m,ad,b⟩:=qO (P6 _ _) b;refine sH (bP rfl rfl (P7 ad _ av av (by assumption))) rfl ?_;refine hq (((H.set g (some (.cells (Z2.c m.2.1)))).set i (some (.tok 7 o.l.length))).set p (some (.cells (aj.c m.2.2)))) ?_
    refine nil ?_;obtain⟨aD,M,b⟩:=dI b;refine cO b (fun ae b=>?_) (fun ae b=>?_)
    ·refine region ?_;refine S Mv ?_;refine s0 (bZ (TK rfl) rfl rfl av rfl) rfl ?_;refine S BV ?_;obtain⟨N,af,b⟩:=qO rfl b;refine SH (am aj.c (TK rfl) rfl (TK rfl) (TK rfl) af) ?_;refine hq (((H.set g (some (.cells (Z2.c m.2.1)))).set i (some (.tok 7 N.l.length))).set p (some (.cells (aj.c m.2.2)))) ?_;refine S As (nil ?_);have b:=ku M b;exact J _ (N,m.2.1) (cq.toFA (by(intro t O j); (have C:t≠p:=fun u=>by rw [u] at j; simp [ai.set,q,L,K] at j); (rw [<- j]); (simp only [ai.set,if_neg C]); (first|done|rfl))) b
    refine region ?_;refine S Mv (S NP ?_);refine s0 (bE (TK rfl) rfl rfl (TK rfl) rfl rfl) rfl ?_;refine dA (fO (TK rfl) rfl rfl av rfl (by repeat (first|exact bJ.zero|apply bJ.succ))) rfl rfl ?_;refine hq (((H.set g (some (.cells (Z2.c (Z2.mk m.2.1.Fd true))))).set i (some (.tok 7 o.l.length))).set p (some (.cells (aj.c m.2.2)))) ?_;refine nil ?_;have b:=ku M b
    exact J _ (o,(Z2.mk m.2.1.Fd true)) (cq.toFA (by(intro t O j); (have C:t≠p:=fun u=>by rw [u] at j; simp [ai.set,q,L,K] at j); (rw [<- j]); (simp only [ai.set,if_neg C]); (first|done|rfl))) b
   rintro ⟨al,an⟩ b;try dsimp only at b
   refine region ?_;refine SI ?_;refine S Mv (nil ?_);exact U _ (al,(y+1),an) wA b (dl I)
  rw [mN] at b;have b:=ku R b;try dsimp only at b
  refine ah.exit ?_;obtain⟨aE,ao,b⟩:=bW b;have b:=ku ao b;exact Q _ (o,w) wA b
 rintro ⟨E,P⟩ b;try dsimp only at b
 refine region ?_;refine S Mv (S Mv ?_);refine aP.dU 29 rfl ?_;refine S BU (S NP ?_);refine s0 (bE (TK rfl) rfl rfl (TK rfl) rfl rfl) rfl ?_;refine dA (qF (TK rfl) rfl rfl av rfl (Nat.le_of_ble_eq_true rfl) rfl rfl) rfl rfl ?_;refine hq ((H.set g (some (.cells (Z2.c (Z2.mk (ak.mk E) P.dX))))).set i (some (.tok 7 E.l.length))) ?_;refine nil ?_;repeat (first|refine ff ?_|refine fe ?_|refine fc ?_)
 obtain rfl:=oJ b;refine bn.fq (H.set g (some (.cells (Z2.c (Z2.mk (ak.mk E) P.dX))))) (xs:=[]) rfl ⟨rfl,rfl⟩ ?_;intro t O j;have aF:t≠i:=fun u=>by subst u; simp_all [ai.set]
 rw [<- j];simp only [ai.set] at j ⊢
 (repeat' split)<;>simp_all
def eY (b:Z5) (f:Bool) (i:Int) (j:Bs):Option Z5:=bif f then((aW 24 b.bh (⟨false,[(Z6.mk i j)]⟩:Sl Z6)).bind fun g=>some (Z5.mk b.Fd g)) else(some b)
def B5 (f:Z5) (b:Bool) (g:Int) (i:Bs):Option Z5:=eY f b g i
theorem jC (a0:Z5) (b:Bool) (a2:Int) (a3:Bs):B5 a0 b a2 a3=eY a0 b a2 a3:=rfl
theorem jD {f:Z5}{k:Bool}{m:Int}{o:Bs}{g b:Nat}{r:Z5}(i:B5 f k m o=some r) (H:ai) (t:H g=some (.cells (Z5.cg (some b) f))) (u:H b=some (.tok 2 f.bh.l.length)):AC Tryz.prog 71 [.d (.ptr g 0),.d (.bool k),.d (.int .i64 m),.d (.str o)] H fun v h'=>v=.cF []/\h'=((H.set b (some (.tok 2 r.bh.l.length))).set g (some (.cells (Z5.cg (some b) r)))):=by
 unfold B5 eY at i;refine AC.oW 21 [] Tryz.call71 Tryz.func71 ?_;have w:g≠b:=fun p=>by subst p; simp_all
 refine ah.dx (h':=((H.set b (some (.tok 2 f.bh.l.length))).set g (some (.cells (Z5.cg (some b) f))))) (by funext n_; simp only [ai.set]; (repeat' split)<;>simp_all) ?_;refine ag (S Mv (nil ?_));refine cE i (fun q i=>?_) (fun q i=>?_)
 ·refine region ?_;refine S Mv (S Mv (S NP ?_));refine s0 (bE (TK rfl) rfl rfl (TK rfl) rfl rfl) rfl ?_;refine s0 (bZ (TK rfl) rfl rfl av rfl) rfl ?_;refine S Mv (S Mv (S BU (S BV ?_)));obtain⟨j,s,i⟩:=qT rfl i;refine SH (am Z6.c (TK rfl) rfl (TK rfl) (TK rfl) s) ?_;refine hq ((H.set b (some (.tok 2 j.l.length))).set g (some (.cells (Z5.cg (some b) f)))) ?_;refine S NP ?_;refine s0 (bE (TK rfl) rfl rfl (TK rfl) rfl rfl) rfl ?_
  refine dA (fO (TK rfl) rfl rfl av rfl (by repeat (first|exact bJ.zero|apply bJ.succ))) rfl rfl ?_;refine hq ((H.set b (some (.tok 2 j.l.length))).set g (some (.cells (Z5.cg (some b) (Z5.mk f.Fd j))))) ?_;refine nil ?_;repeat (first|refine ff ?_|refine fe ?_|refine fc ?_)
  obtain rfl:=oJ i;refine bn.fq ((H.set b (some (.tok 2 j.l.length))).set g (some (.cells (Z5.cg (some b) (Z5.mk f.Fd j))))) (xs:=[]) rfl ⟨rfl,rfl⟩ ?_;exact(fun _ _ h=>h)
 refine ah.skip ?_;repeat (first|refine ff ?_|refine fe ?_|refine fc ?_)
 obtain rfl:=oJ i;refine bn.fq ((H.set b (some (.tok 2 f.bh.l.length))).set g (some (.cells (Z5.cg (some b) f)))) (xs:=[]) rfl ⟨rfl,rfl⟩ ?_;exact(fun _ _ h=>h)
def mQ :List UInt8->Unit ⊕ Bool
 | []=>Sum.inl ()
 | f::g=>on (f) fun b=>bif (!(((((decide ((97:Int)<=((b.toNat:Nat):Int)))&&(decide (((b.toNat:Nat):Int)<=(122:Int))))||((decide ((65:Int)<=((b.toNat:Nat):Int)))&&(decide (((b.toNat:Nat):Int)<=(90:Int)))))||((decide ((48:Int)<=((b.toNat:Nat):Int)))&&(decide (((b.toNat:Nat):Int)<=(57:Int)))))||(decide (((b.toNat:Nat):Int)=(95:Int))))) then(Sum.inr false) else(mQ  (g) )
def pT (b:Bs):Option Bool:=aR (!(((b==([]:Bs)))||(decide ((64:Int)<((b.length:Nat):Int))))) (b[0]?) (0:UInt8) fun f=>aR ((!(((b==([]:Bs)))||(decide ((64:Int)<((b.length:Nat):Int))))&&(decide ((48:Int)<=((f.toNat:Nat):Int))))) (b[0]?) (0:UInt8) fun g=>bif ((((b==([]:Bs)))||(decide ((64:Int)<((b.length:Nat):Int))))||((decide ((48:Int)<=((f.toNat:Nat):Int)))&&(decide (((g.toNat:Nat):Int)<=(57:Int))))) then(some false) else(on (mQ  b ) fun i=>match i with|Sum.inl _=>(on (()) fun _=>some true)|Sum.inr j=>(some j))
def B6 (b:Bs):Option Bool:=pT b
theorem B7 (a0:Bs):B6 a0=pT a0:=rfl
theorem B8 {f:Bs}{r:Bool}(b:B6 f=some r) (H:ai) :AC Tryz.prog 108 [.d (.str f)] H fun v h'=>v=.a (.d (.bool r))/\h'=H:=by
 unfold B6 pT at b;refine AC.oW 58 [.tmp 2] Tryz.call108 Tryz.func108 ?_;refine ag (S As (nil ?_));refine ay fun t i=>?_;refine ag (S Mv (S BS (S Mv (G0 Mv ?_))));refine gC rfl rfl (fun hC=>aK (k:=8) rfl (wS (TK rfl) rfl rfl rfl)) rfl ?_;refine G1 9 rfl BI ?_;refine S PO (S Mv (G0 Mv ?_));obtain⟨J,u,b⟩:=dQ rfl b;refine gC rfl rfl (fun hC=>aK (k:=13) rfl (qK (n:=0) (TK rfl) rfl rfl rfl (u hC))) rfl ?_
 refine G1 14 rfl BI ?_;refine G1 15 rfl Mv ?_;refine G0 Mv ?_;obtain⟨K,w,b⟩:=dQ rfl b;refine gC rfl rfl (fun hC=>aK (k:=17) rfl (qK (n:=0) (TK rfl) rfl rfl rfl (w hC))) rfl ?_;refine G1 18 rfl BI ?_;refine gC rfl rfl (fun hC=>aK (k:=16) rfl (iM rfl rfl rfl)) rfl ?_;refine S PO (nil ?_);refine cE b (fun x b=>?_) (fun x b=>?_)
 ·refine ag (S As (nil ?_));exact rt b
 refine sk i ?_;clear i t;refine aQ kN (fun(z:Unit)=>[]) (fun z=>H) (fun z=>(some true)=some r) ?_ ?_
 ·intro L y;refine ag (S Mv ?_);refine sV (TK rfl) rfl rfl rfl rfl fun M=>?_;refine S Mv (nil ?_);refine block ?_;obtain⟨j,m,b⟩:=bW b;refine bA (TA 0 (TA 23 kN)) (fun(z:Nat)=>[(24,.a (.d (.int .i64 ((z:Nat):Int))))]) (fun z=>H) (fun z=>f.length-z) (fun z=>j (mQ  (f.drop z) )=some r) 0 b wA ?_;rintro o b N B;try dsimp only at b
  refine ag (S BI (nil ?_));refine ay fun C p=>?_;refine ah.bN (fun l=>j (mQ  l )=some r) b rfl (fun O q g b=>?_) (fun g b=>?_)
  ·rw [mQ] at b;try dsimp only at g
   have P:=oD g;refine sk p ?_;clear p C;refine ay fun E s=>?_;refine block ?_;refine ag (S Mv (S As (nil ?_)));refine ag (S Mv (S Mv ?_));obtain⟨Q,F,b⟩:=vP q b;refine s0 (qK (n:=o) (TK rfl) rfl rfl rfl F) rfl ?_;refine S As (nil ?_);refine ag (S Mv (S BI (S Mv (G0 Mv ?_))));refine G1 33 rfl BI ?_;refine S PA (S Mv (G0 Mv ?_));refine G1 37 rfl BI ?_
   refine G1 38 rfl Mv ?_;refine G0 Mv ?_;refine G1 40 rfl BI ?_;refine gC rfl rfl (fun hC=>aK (k:=39) rfl (iM rfl rfl rfl)) rfl ?_;refine S PO (S Mv (G0 Mv ?_));refine G1 45 rfl BI ?_;refine G1 46 rfl Mv ?_;refine G0 Mv ?_;refine G1 48 rfl BI ?_;refine gC rfl rfl (fun hC=>aK (k:=47) rfl (iM rfl rfl rfl)) rfl ?_;refine S PO (S Mv (G0 Mv ?_));refine G1 53 rfl BI ?_;refine S PO (S NB (nil ?_))
   refine cP b (fun G b=>?_) (fun G b=>?_)
   ·refine ag (S As (nil ?_));refine ah.ret ?_;repeat (first|refine bF ?_|refine bG ?_)
    have b:=ku m b;obtain rfl:=oJ b;refine bn.bH H rfl ⟨rfl,rfl⟩ ?_;exact(fun _ _ h=>h)
   refine sk s ?_;clear s E;refine region ?_;refine SI ?_;refine S Mv (nil ?_);exact B _ (o+1) wA b (dl q)
  rw [mQ] at b;have b:=ku m b;try dsimp only at b
  refine ah.exit ?_;obtain⟨R,I,b⟩:=bW b;have b:=ku I b;exact y _ () wA b
 rintro _ b;try dsimp only at b
 refine ag (S As (nil ?_));exact rt b
def vI (f:Bs) (b:Bs):Bool:=on (bif (decide (((b.length:Nat):Int)<=((f.length:Nat):Int))) then(List.take (b.length) f) else([]:Bs)) fun g=>((decide (((b.length:Nat):Int)<=((f.length:Nat):Int)))&&((g==b)))
def B9 (f:Bs) (b:Bs):Option Bool:=some (vI f b)
theorem P9 (a0:Bs) (b:Bs):B9 a0 b=some (vI a0 b):=rfl
theorem P_ {g f:Bs}{r:Bool}(b:B9 g f=some r) (H:ai) :AC Tryz.prog 161 [.d (.str g),.d (.str f)] H fun v h'=>v=.a (.d (.bool r))/\h'=H:=by
 unfold B9 vI at b;refine AC.oW 18 [.tmp 4] Tryz.call161 Tryz.func161 ?_;refine ag (S As (nil ?_));refine ag (S Mv ?_);refine sV (TK rfl) rfl rfl rfl rfl fun j=>?_;refine S Mv ?_;refine sV (TK rfl) rfl rfl rfl rfl fun m=>?_;refine S BI (S Mv (G0 Mv (G0 Mv ?_)));refine gC rfl rfl (fun hC=>aK (k:=12) rfl (wS (TK rfl) rfl rfl rfl)) rfl ?_;obtain⟨o,i,b⟩:=iu (fun hc=>Q.M_ (by simp at hc; omega)) b
 refine gC rfl rfl (fun hC=>aK (k:=11) rfl (aK (k:=13) rfl (MB (l:=none) (r:=(some ((f.length:Nat):Int))) (TK rfl) rfl rfl trivial rfl (by simp) (i hC)))) rfl ?_;refine G0 Mv ?_;refine G2 14 15 rfl rfl BS ?_;refine S PA (S As (nil ?_));exact rt b
def vJ (g:Bs) (b:Bs):Bool:=on (vI g b) fun f=>f
def B_ (f:Bs) (b:Bs):Option Bool:=some (vJ f b)
theorem Qb (a0:Bs) (b:Bs):B_ a0 b=some (vJ a0 b):=rfl
theorem Qd {g f:Bs}{r:Bool}(b:B_ g f=some r) (H:ai) :AC Tryz.prog 133 [.d (.str g),.d (.str f)] H fun v h'=>v=.a (.d (.bool r))/\h'=H:=by
 unfold B_ vJ at b;refine AC.oW 8 [.tmp 4] Tryz.call133 Tryz.func133 ?_;refine ag (S As (nil ?_));refine ag (S Mv (S Mv ?_));obtain⟨j,i,b⟩:=vP (P9 _ _) b;refine Sc rfl rfl (P_ i) ?_;refine S As (nil ?_);exact rt b
def ii (f:Bs):Bool:=on (vJ f ([95,95]:Bs)) fun b=>b
def Ca (b:Bs):Option Bool:=some (ii b)
theorem Cb (a0:Bs):Ca a0=some (ii a0):=rfl
theorem Cc {f:Bs}{r:Bool}(b:Ca f=some r) (H:ai) :AC Tryz.prog 109 [.d (.str f)] H fun v h'=>v=.a (.d (.bool r))/\h'=H:=by
 unfold Ca ii at b;refine AC.oW 5 [.tmp 2] Tryz.call109 Tryz.func109 ?_;refine ag (S As (nil ?_));refine ag (S Mv ?_);obtain⟨i,g,b⟩:=vP (Qb _ _) b;refine Sc rfl rfl (Qd g) ?_;refine S As (nil ?_);exact rt b
def ij (i:aj) (m:Z5) (o:aj->aj->Z5->(List Bs)->Option (Bool×(List Bs))):List Z8->(List Bs)->Option (((List Bs)) ⊕ ((Bool×(List Bs))))
 | [],b=>some (Sum.inl b)
 | p::q,b=>on (p) fun f=>aR (!(!decide (((f.aA.aF.l.length:Nat):Int)=(1:Int)))) (f.aA.aF.l[0]?) (0:Int) fun r=>on (fun(s:(List Bs))=>ij i m o (q) s) fun j=>bif ((!decide (((f.aA.aF.l.length:Nat):Int)=(1:Int)))||(!decide (r=(1:Int)))) then(j b) else(bif ((f.aA.aa==i.aa)) then(some (Sum.inr (true,b))) else(on (eT m.Fd f.aA.aa) fun g=>bif ((g.2&&(decide (g.1.an=(5:Int))))&&(!(b.contains g.1.aa))) then((o g.1 i m (b7 b g.1.aa)).bind fun k=>bif k.1 then(some (Sum.inr (true,k.2))) else(j k.2)) else(j b)))
def iU:Nat->aj->aj->Z5->(List Bs)->Option (Bool×(List Bs))
 | 0,_,_,_,_=>none
 | n+1,k,b,m,o=>Option.bind (ij b m (iU n) k.aL.l o) fun f=>match f with|Sum.inl g=>(on (g) fun i=>some (false,i))|Sum.inr j=>(some j)
def Cd (n:Nat):Prop:=∀{a0:aj}{b:aj}{a2:Z5}{a3:(List Bs)}{g:Option Nat}{c2:Nat}{c3:Nat}{f:Nat}{r:(Bool×(List Bs))},iU n a0 b a2 a3=some r->∀(H:ai) (i:H c2=some (.cells (Z5.cg g a2))) (j:H c3=some (.map (bf a3))) (k:H f=some (.cells [.func 134 [.view (aj.c b),.view [.ptr c2 0],.view [.map c3],.ptr f 0]])),AC Tryz.prog 134 [.agg (aj.c a0),.d (.view (aj.c b)),.d (.view [.ptr c2 0]),.d (.view [.map c3]),.d (.ptr f 0)] H fun v h'=>v=.a (.d (.bool r.1))/\h'=(H.set c3 (some (.map (bf r.2))))
theorem Qf (n:Nat) (F:Cd (ax:=ax) n):Cd (ax:=ax) (n+1):=by
 intro i j w E ae c2 c3 G r b H af aj ak;rw [iU] at b;refine AC.oW 68 [.tmp 6] Tryz.call134 Tryz.func134 ?_;have al:c3≠c2:=fun m=>by subst m; simp_all
 have am:G≠c3:=fun m=>by subst m; simp_all
 refine ah.dx (h':=(H.set c3 (some (.map (bf E))))) (by funext n_; simp only [ai.set]; (repeat' split)<;>simp_all) ?_;refine ag (S BX (S As (nil ?_)));refine aQ kN (fun(z:(List Bs))=>[]) (fun z=>(H.set c3 (some (.map (bf z))))) (fun z=>(some (false,z))=some r) ?_ ?_
 ·intro an I;refine ag (S Fv (S Ld ?_));refine sLen (f:=Z8.c) (s:=i.aL) (TK rfl) rfl rfl rfl rfl fun ao=>?_;refine S Mv (nil ?_);refine block ?_;obtain⟨o,p,b⟩:=b_ b;refine bA (TA 1 (TA 2 (TA 3 (TA 4 (TA 12 (TA 13 kN)))))) (fun(z:Nat×(List Bs))=>[(14,.a (.d (.int .i64 ((z.1:Nat):Int))))]) (fun z=>(H.set c3 (some (.map (bf z.2))))) (fun z=>i.aL.l.length-z.1) (fun z=>Option.bind (ij j w (iU n) (i.aL.l.drop z.1) z.2) o=some r) (0,E) b wA ?_
  rintro ⟨q,g⟩ b ap J;try dsimp only at b
  refine ag (S BI (nil ?_));refine ay fun K x=>?_;refine ah.bN (fun l=>Option.bind (ij j w (iU n) l g) o=some r) b rfl (fun aq y t b=>?_) (fun t b=>?_)
  ·rw [ij] at b;try dsimp only at t
   have aw:=oD t;refine sk x ?_;clear x K;refine aQ (TA 1 (TA 2 (TA 3 (TA 4 (TA 12 (TA 13 (TA 14 kN))))))) (fun(z:(List Bs))=>[]) (fun z=>(H.set c3 (some (.map (bf z))))) (fun z=>Option.bind (ij j w (iU n) (i.aL.l.drop (q+1)) z) o=some r) ?_ ?_
   ·intro az u;refine block ?_;refine ag ?_;obtain⟨L,M,b⟩:=vO y b;refine S (ix Z8.c q M) (S Ld ?_);refine Sl ?_;refine Sf ?_;refine nil ?_;refine bu 8 _ rfl (KA 1 (KA 2 (KA 3 (KA 4 (KA 12 (KA 13 (KA 14 aS.nil))))))) ?_;refine ay fun N B=>?_;refine ag (S Fv (S Fv (S Ld ?_)));refine sLen (f:=(bC .i64)) (s:=L.aA.aF) (TK rfl) rfl rfl rfl rfl fun aB=>?_
    refine S BI (S Mv (G0 Fv ?_));refine G1 24 rfl Fv ?_;refine G1 25 rfl Ld ?_;obtain⟨aC,O,b⟩:=eS rfl b;refine gC rfl rfl (fun hC=>aK (k:=26) rfl (ee (f:=(bC .i64)) (n:=0) (TK rfl) rfl (TK rfl) rfl rfl rfl (O hC))) rfl ?_;refine G1 27 rfl Ld ?_;refine G1 28 rfl BI ?_;refine S PO (nil ?_);obtain⟨_,rfl,b⟩:=mO b;refine cO b (fun P b=>?_) (fun P b=>?_)
    ·refine ah.exit ?_;exact u _ g wA b
    refine sk B ?_;clear B N;refine ay fun Q C=>?_;refine ag (S Fv (S Fv (S Ld (S Fv (S Ld (S BS (nil ?_)))))));refine cO b (fun R b=>?_) (fun R b=>?_)
    ·refine ag (S As (nil ?_));refine ah.ret ?_;repeat (first|refine bF ?_|refine bG ?_)
     have b:=ku p b;obtain rfl:=oJ b;refine bn.bH (H.set c3 (some (.map (bf g)))) rfl ⟨rfl,rfl⟩ ?_;exact(fun _ _ h=>h)
    refine sk C ?_;clear C Q;refine ah.cr (Sd Ld (Sd NP ?_));refine au.s0 (bE (TK rfl) rfl rfl (TK rfl) rfl rfl) rfl ?_;refine au.s0 (bZ (TK rfl) rfl rfl av rfl) rfl ?_;refine Sd Fv (Sd Fv (Sd Ld ?_));obtain⟨U,W,b⟩:=vO (lT _ _) b;refine cM rfl rfl (kz W) ?_;refine Sd Mv (Sd EX (Sd EX ?_));refine au.sB (TK rfl) rfl rfl ?_ (by repeat (first|exact bL.nil|apply bL.cons))
    refine au.dB (eG (TK rfl) rfl rfl rfl rfl rfl) ?_;refine Sd As ?_;refine au.nil (by decide +kernel) ?_;refine bu 9 _ rfl (KA 1 (KA 2 (KA 3 (KA 4 (KA 10 (KA 12 (KA 13 (KA 14 aS.nil)))))))) ?_;refine ag (S Mv (S Mv (G0 Fv ?_)));refine G1 50 rfl Ld ?_;refine G1 51 rfl BI ?_;refine S PA (S Mv (G0 Ld (G0 Fv ?_)));refine G1 56 rfl Ld ?_;refine gC rfl rfl (fun hC=>aK (k:=55) rfl (aK (k:=57) rfl (qI (TK rfl) rfl (TK rfl) (TK rfl) rfl rfl rfl rfl av))) rfl ?_
    refine G1 58 rfl NB ?_;refine S PA (nil ?_);refine cO b (fun X b=>?_) (fun X b=>?_)
    ·refine ag (S Ld (S Fv (S Ld ?_)));refine dA (mapUpdate (TK rfl) rfl (TK rfl) rfl rfl rfl rfl av (o9 _ _) rfl) rfl rfl ?_;refine hq (H.set c3 (some (.map (bf (b7 g U.1.aa))))) ?_;refine nil ?_;refine ag ?_;refine s0 (bZ (TK rfl) rfl rfl av rfl) rfl ?_;refine S Ld ?_;obtain⟨v,Y,b⟩:=qO rfl b;refine sH (bP rfl rfl (F Y _ av av av)) rfl ?_;refine hq (H.set c3 (some (.map (bf v.2)))) ?_
     refine nil ?_;refine cO b (fun Z b=>?_) (fun Z b=>?_)
     ·refine ag (S As (nil ?_));refine ah.ret ?_;repeat (first|refine bF ?_|refine bG ?_)
      have b:=ku p b;obtain rfl:=oJ b;refine bn.bH (H.set c3 (some (.map (bf v.2)))) rfl ⟨rfl,rfl⟩ ?_;exact(fun _ _ h=>h)
     refine ah.skip ?_;exact u _ v.2 wA b
    refine ah.skip ?_;exact u _ g wA b
   rintro ab b;try dsimp only at b
   refine region ?_;refine SI ?_;refine S Mv (nil ?_);exact J _ ((q+1),ab) wA b (dl y)
  rw [ij] at b;have b:=ku p b;try dsimp only at b
  refine ah.exit ?_;obtain⟨aD,ad,b⟩:=bW b;have b:=ku ad b;exact I _ g wA b
 rintro aE b;try dsimp only at b
 refine ag (S As (nil ?_));exact rt b
theorem Hg:∀(n:Nat),(Cd (ax:=ax) n)
 | 0=>fun b=>by first|cases b|(rw [iU] at b; cases b)
 | n+1=>Qf n (Hg n)
def Hh (f:aj) (b:aj) (g:Z5) (i:(List Bs)):Option (Bool×(List Bs)):=iU F0 f b g i
theorem Qg {g b:aj}{i:Z5}{j:List Bs}{k:Option Nat}{c2 c3 f:Nat}{r:(Bool×(List Bs))}(l:Hh g b i j=some r) (H:ai) (m:H c2=some (.cells (Z5.cg k i))) (o:H c3=some (.map (bf j))) (p:H f=some (.cells [.func 134 [.view (aj.c b),.view [.ptr c2 0],.view [.map c3],.ptr f 0]])):AC Tryz.prog 134 [.agg (aj.c g),.d (.view (aj.c b)),.d (.view [.ptr c2 0]),.d (.view [.map c3]),.d (.ptr f 0)] H fun v h'=>v=.a (.d (.bool r.1))/\h'=(H.set c3 (some (.map (bf r.2)))):=(Hg F0) l H m o p
def yp (f:aj) (b:aj) (g:Z5) (i:(List Bs)):Option (Bool×(List Bs)):=iU F0 f b g i
theorem Qh (a0:aj) (b:aj) (a2:Z5) (a3:(List Bs)):Hh a0 b a2 a3=yp a0 b a2 a3:=rfl
def ol (g:Z5) (b:aj):Option Bool:=(yp b b g ([]:List Bs)).bind fun f=>some f.1
def Ce (f:Z5) (b:aj):Option Bool:=ol f b
theorem Qi (a0:Z5) (b:aj):Ce a0 b=ol a0 b:=rfl
theorem Qj {t:Z5}{j:aj}{u:Option Nat}{i:Nat}{r:Bool}(k:Ce t j=some r) (H:ai) (y:H i=some (.cells (Z5.cg u t))):AC Tryz.prog 110 [.d (.ptr i 0),.agg (aj.c j)] H fun v h'=>v=.a (.d (.bool r))/\h'=H:=by
 unfold Ce ol at k;refine AC.oW 12 [.tmp 4] Tryz.call110 Tryz.func110 ?_;refine ag (S BX (S BX (S As (nil ?_))));refine ag ?_;refine sE c_.makeMap rfl (fun _ _ _ ⟨b,z,l,m,o⟩=>?_); subst l m o;have B:b≠i:=fun f=>by subst f; simp_all
 refine hq (H.set b (some (.map (bf ([]:List Bs))))) ?_;refine Sl ?_;refine Sf ?_;refine nil ?_;refine bu 5 _ rfl (KA 2 (KA 3 aS.nil)) ?_;refine ag ?_;refine sE (c_.wU (TK rfl) rfl) rfl (fun _ _ _ ⟨g,p,l,m,o⟩=>?_); subst l m o;obtain⟨C,p⟩:=ai.dP p;have E:g≠i:=fun f=>by subst f; simp_all
 refine hq ((H.set b (some (.map (bf ([]:List Bs))))).set g (some (.cells [.nilFunc]))) ?_;refine nil ?_;refine ag ?_;refine s0 (makeFunc rfl) rfl ?_;refine dA (fO (TK rfl) rfl rfl av rfl (by repeat (first|exact bJ.zero|apply bJ.succ))) rfl rfl ?_;refine hq ((H.set b (some (.map (bf ([]:List Bs))))).set g (some (.cells [.func 134 [.view (aj.c j),.view [.ptr i 0],.view [.map b],.ptr g 0]]))) ?_
 refine nil ?_;refine ag ?_;refine s0 (bZ (TK rfl) rfl rfl av rfl) rfl ?_;refine S Ld ?_;obtain⟨w,x,k⟩:=qT (Qh _ _ _ _) k;refine sH (bP rfl rfl (Qg x _ av av av)) rfl ?_;refine hq ((H.set b (some (.map (bf w.2)))).set g (some (.cells [.func 134 [.view (aj.c j),.view [.ptr i 0],.view [.map b],.ptr g 0]]))) ?_;refine S As (nil ?_);refine ah.ret ?_
 repeat (first|refine bF ?_|refine bG ?_)
 obtain rfl:=oJ k;refine bn.bH H rfl ⟨rfl,rfl⟩ ?_;intro q F s;have G:q≠b:=fun f=>by subst f; simp_all [ai.set]
 have I:q≠g:=fun f=>by subst f; simp_all [ai.set]
 rw [<- s];simp only [ai.set] at s ⊢
 (repeat' split)<;>simp_all
def oo (m:Z5) (b:Bs) (g:Bs) (i:(List Bs)):Option (Z5×(List Bs)):=(pT b).bind fun f=>on (bif !(!f) then ii b else false) fun j=>(eY m ((!f)||j) (6:Int) g).bind fun k=>(eY k (i.contains b) (7:Int) g).bind fun l=>some (l,(b7 i b))
def Cf (f:Z5) (b:Bs) (g:Bs) (i:(List Bs)):Option (Z5×(List Bs)):=oo f b g i
theorem Hi (a0:Z5) (b:Bs) (a2:Bs) (a3:(List Bs)):Cf a0 b a2 a3=oo a0 b a2 a3:=rfl
theorem Hj {m:Z5}{o q:Bs}{i:List Bs}{f b c3:Nat}{r:(Z5×(List Bs))}(g:Cf m o q i=some r) (H:ai) (x:H f=some (.cells (Z5.cg (some b) m))) (y:H b=some (.tok 2 m.bh.l.length)) (z:H c3=some (.map (bf i))):AC Tryz.prog 135 [.d (.ptr f 0),.d (.str o),.d (.str q),.d (.map c3)] H fun v h'=>v=.cF []/\h'=(((H.set b (some (.tok 2 r.1.bh.l.length))).set f (some (.cells (Z5.cg (some b) r.1)))).set c3 (some (.map (bf r.2)))):=by
 unfold Cf oo at g;refine AC.oW 26 [] Tryz.call135 Tryz.func135 ?_;have B:f≠b:=fun k=>by subst k; simp_all
 have C:c3≠b:=fun k=>by subst k; simp_all
 have E:c3≠f:=fun k=>by subst k; simp_all
 refine ah.dx (h':=(((H.set b (some (.tok 2 m.bh.l.length))).set f (some (.cells (Z5.cg (some b) m)))).set c3 (some (.map (bf i))))) (by funext n_; simp only [ai.set]; (repeat' split)<;>simp_all) ?_;refine ag (S Mv (S Mv ?_));obtain⟨F,s,g⟩:=qT (B7 _) g;refine Sc rfl rfl (B8 s) ?_;refine S NB (S Mv (G0 Mv ?_));obtain⟨G,t,g⟩:=k9 (fun _=>(Cb _)) g
 refine dz 13 rfl rfl rfl rfl rfl (fun hC=>Cc (t hC)) ?_;refine S PO (S Mv ?_);obtain⟨p,u,g⟩:=qT (jC _ _ _ _) g;refine sH (bP rfl rfl (jD u _ av av)) rfl ?_;refine hq (((H.set b (some (.tok 2 p.bh.l.length))).set f (some (.cells (Z5.cg (some b) p)))).set c3 (some (.map (bf i)))) ?_;refine nil ?_;refine ag (S Mv (S Mv (S Mv ?_)));refine s0 (qI (TK rfl) rfl (TK rfl) (TK rfl) rfl rfl rfl rfl av) rfl ?_
 refine S Mv ?_;obtain⟨j,w,g⟩:=qT (jC _ _ _ _) g;refine sH (bP rfl rfl (jD w _ av av)) rfl ?_;refine hq (((H.set b (some (.tok 2 j.bh.l.length))).set f (some (.cells (Z5.cg (some b) j)))).set c3 (some (.map (bf i)))) ?_;refine nil ?_;refine region ?_;refine S Mv (S Mv ?_);refine dA (mapUpdate (TK rfl) rfl (TK rfl) rfl rfl rfl rfl av (o9 _ _) rfl) rfl rfl ?_
 refine hq (((H.set b (some (.tok 2 j.bh.l.length))).set f (some (.cells (Z5.cg (some b) j)))).set c3 (some (.map (bf (b7 i o))))) ?_;refine nil ?_;repeat (first|refine ff ?_|refine fe ?_|refine fc ?_)
 obtain rfl:=oJ g;refine bn.fq (((H.set b (some (.tok 2 j.bh.l.length))).set f (some (.cells (Z5.cg (some b) j)))).set c3 (some (.map (bf (b7 i o))))) (xs:=[]) rfl ⟨rfl,rfl⟩ ?_;exact(fun _ _ h=>h)
def lV (g:ak) (b:Bs):Int:=on (eT g b) fun f=>f.1.an
def Cg (f:ak) (b:Bs):Option Int:=some (lV f b)
theorem Ch (a0:ak) (b:Bs):Cg a0 b=some (lV a0 b):=rfl
theorem Ci {g:ak}{f:Bs}{r:Int}(b:Cg g f=some r) (H:ai) :AC Tryz.prog 143 [.agg (ak.c g),.d (.str f)] H fun v h'=>v=.a (.d (.int .i64 r))/\h'=H:=by
 unfold Cg lV at b;refine AC.oW 15 [.tmp 4] Tryz.call143 Tryz.func143 ?_;refine ag (S BX (S As (nil ?_)));refine ag (S Ld (S Mv ?_));obtain⟨j,i,b⟩:=vP (lT _ _) b;refine Sc rfl rfl (kz i) ?_;refine S Mv (S EX (S EX ?_));refine Sl ?_;refine Sf ?_;refine S As (nil ?_);refine bu 5 _ rfl aS.nil ?_;refine ag (S Fv (S Ld (S As (nil ?_))));exact rt b
def mR (i:ak) (b:Bs):Bool:=on (cC b) fun f=>on (bif !f then lV i b else(0:Int)) fun g=>(f||(decide (g=(4:Int))))
def Cj (f:ak) (b:Bs):Option Bool:=some (mR f b)
theorem Qk (a0:ak) (b:Bs):Cj a0 b=some (mR a0 b):=rfl
theorem Ql {g:ak}{f:Bs}{r:Bool}(b:Cj g f=some r) (H:ai) :AC Tryz.prog 142 [.agg (ak.c g),.d (.str f)] H fun v h'=>v=.a (.d (.bool r))/\h'=H:=by
 unfold Cj mR at b;refine AC.oW 13 [.tmp 4] Tryz.call142 Tryz.func142 ?_;refine ag (S BX (S As (nil ?_)));refine ag (S Mv ?_);obtain⟨k,i,b⟩:=vP (ru _) b;refine Sc rfl rfl (ry i) ?_;refine S Mv (G0 Ld (G0 Mv ?_));obtain⟨l,j,b⟩:=iu (fun _=>(Ch _ _)) b;refine fw 8 9 rfl rfl rfl rfl rfl rfl (fun hC=>Ci (j hC)) ?_;refine G1 10 rfl BI ?_;refine S PO (S As (nil ?_))
 exact rt b
def gm (g:ak) (b:Bs):Bool:=on (mR g b) fun f=>on (bif !f then lV g b else(0:Int)) fun i=>(f||(decide (i=(5:Int))))
def Ck (f:ak) (b:Bs):Option Bool:=some (gm f b)
theorem Cl (a0:ak) (b:Bs):Ck a0 b=some (gm a0 b):=rfl
theorem Cm {g:ak}{f:Bs}{r:Bool}(b:Ck g f=some r) (H:ai) :AC Tryz.prog 116 [.agg (ak.c g),.d (.str f)] H fun v h'=>v=.a (.d (.bool r))/\h'=H:=by
 unfold Ck gm at b;refine AC.oW 14 [.tmp 4] Tryz.call116 Tryz.func116 ?_;refine ag (S BX (S As (nil ?_)));refine ag (S Ld (S Mv ?_));obtain⟨k,i,b⟩:=vP (Qk _ _) b;refine Sc rfl rfl (Ql i) ?_;refine S Mv (G0 Ld (G0 Mv ?_));obtain⟨l,j,b⟩:=iu (fun _=>(Ch _ _)) b;refine fw 9 10 rfl rfl rfl rfl rfl rfl (fun hC=>Ci (j hC)) ?_;refine G1 11 rfl BI ?_;refine S PO (S As (nil ?_))
 exact rt b
def oq (b:Z5) (f:Bs) (g:Bs) (r:Int):Option Z5:=on (eT b.Fd f) fun i=>on (bif (!i.2) then cC f else false) fun k=>bif ((!i.2)&&(!k)) then((eY b true (8:Int) g).bind fun l=>some l) else(bif (decide (r=(0:Int))) then(on (cC f) fun j=>on (bif (!j) then lV b.Fd f else(0:Int)) fun m=>(eY b ((!j)&&(decide (m=(5:Int)))) (10:Int) g).bind fun o=>some o) else(on (gm b.Fd f) fun p=>(eY b (!p) (10:Int) g).bind fun q=>some q))
def Cn (f:Z5) (b:Bs) (g:Bs) (i:Int):Option Z5:=oq f b g i
theorem Hl (a0:Z5) (b:Bs) (a2:Bs) (a3:Int):Cn a0 b a2 a3=oq a0 b a2 a3:=rfl
theorem Ho {i:Z5}{p q:Bs}{s:Int}{g f:Nat}{r:Z5}(b:Cn i p q s=some r) (H:ai) (I:H g=some (.cells (Z5.cg (some f) i))) (J:H f=some (.tok 2 i.bh.l.length)):AC Tryz.prog 136 [.d (.ptr g 0),.d (.str p),.d (.str q),.d (.int .i64 s)] H fun v h'=>v=.cF []/\h'=((H.set f (some (.tok 2 r.bh.l.length))).set g (some (.cells (Z5.cg (some f) r)))):=by
 unfold Cn oq at b;refine AC.oW 58 [] Tryz.call136 Tryz.func136 ?_;have K:g≠f:=fun t=>by subst t; simp_all
 refine ah.dx (h':=((H.set f (some (.tok 2 i.bh.l.length))).set g (some (.cells (Z5.cg (some f) i))))) (by funext n_; simp only [ai.set]; (repeat' split)<;>simp_all) ?_;refine ag (S Mv (S NP ?_));refine s0 (bE (TK rfl) rfl rfl (TK rfl) rfl rfl) rfl ?_;refine s0 (bZ (TK rfl) rfl rfl av rfl) rfl ?_;refine S Mv ?_;obtain⟨L,u,b⟩:=vT (lT _ _) b;refine Sc rfl rfl (kz u) ?_
 refine S Mv (S EX (S EX ?_));refine Sl ?_;refine Sf ?_;refine S As (nil ?_);refine bu 8 _ rfl (KA 0 (KA 1 (KA 2 (KA 3 (KA 9 aS.nil))))) ?_;refine block ?_;refine ag (S Mv (S NB (S Mv (G0 Mv ?_))));obtain⟨M,w,b⟩:=k9 (fun _=>(ru _)) b;refine dz 33 rfl rfl rfl rfl rfl (fun hC=>ry (w hC)) ?_;refine G1 34 rfl NB ?_;refine S PA (S As (nil ?_));refine cE b (fun x b=>?_) (fun x b=>?_)
 ·refine region ?_;refine S Mv (S Mv ?_);obtain⟨j,y,b⟩:=qT (jC _ _ _ _) b;refine sH (bP rfl rfl (jD y _ av av)) rfl ?_;refine hq ((H.set f (some (.tok 2 j.bh.l.length))).set g (some (.cells (Z5.cg (some f) j)))) ?_;refine nil ?_;repeat (first|refine ff ?_|refine fe ?_|refine fc ?_)
  obtain rfl:=oJ b;refine bn.fq ((H.set f (some (.tok 2 j.bh.l.length))).set g (some (.cells (Z5.cg (some f) j)))) (xs:=[]) rfl ⟨rfl,rfl⟩ ?_;exact(fun _ _ h=>h)
 refine ag (S Mv (S BI (S As (nil ?_))));refine cE b (fun z b=>?_) (fun z b=>?_)
 ·refine region ?_;refine S Mv (S Mv ?_);obtain⟨N,B,b⟩:=vT (ru _) b;refine Sc rfl rfl (ry B) ?_;refine S NB (S Mv (G0 Mv ?_));refine G1 48 rfl NP ?_;refine gC rfl rfl (fun hC=>aK (k:=49) rfl (bE (TK rfl) rfl rfl (TK rfl) rfl rfl)) rfl ?_;refine gC rfl rfl (fun hC=>aK (k:=50) rfl (bZ (TK rfl) rfl rfl av rfl)) rfl ?_;refine G0 Mv ?_;obtain⟨O,C,b⟩:=k9 (fun _=>(Ch _ _)) b
  refine fw 51 52 rfl rfl rfl rfl rfl rfl (fun hC=>Ci (C hC)) ?_;refine G1 53 rfl BI ?_;refine S PA (S Mv ?_);obtain⟨m,E,b⟩:=qT (jC _ _ _ _) b;refine sH (bP rfl rfl (jD E _ av av)) rfl ?_;refine hq ((H.set f (some (.tok 2 m.bh.l.length))).set g (some (.cells (Z5.cg (some f) m)))) ?_;refine nil ?_;repeat (first|refine ff ?_|refine fe ?_|refine fc ?_)
  obtain rfl:=oJ b;refine bn.fq ((H.set f (some (.tok 2 m.bh.l.length))).set g (some (.cells (Z5.cg (some f) m)))) (xs:=[]) rfl ⟨rfl,rfl⟩ ?_;exact(fun _ _ h=>h)
 refine region ?_;refine S Mv (S Mv (S NP ?_));refine s0 (bE (TK rfl) rfl rfl (TK rfl) rfl rfl) rfl ?_;refine s0 (bZ (TK rfl) rfl rfl av rfl) rfl ?_;refine S Mv ?_;obtain⟨P,F,b⟩:=vT (Cl _ _) b;refine Sc rfl rfl (Cm F) ?_;refine S NB (S Mv ?_);obtain⟨o,G,b⟩:=qT (jC _ _ _ _) b;refine sH (bP rfl rfl (jD G _ av av)) rfl ?_;refine hq ((H.set f (some (.tok 2 o.bh.l.length))).set g (some (.cells (Z5.cg (some f) o)))) ?_
 refine nil ?_;repeat (first|refine ff ?_|refine fe ?_|refine fc ?_)
 obtain rfl:=oJ b;refine bn.fq ((H.set f (some (.tok 2 o.bh.l.length))).set g (some (.cells (Z5.cg (some f) o)))) (xs:=[]) rfl ⟨rfl,rfl⟩ ?_;exact(fun _ _ h=>h)
def lW (k:Bs) (l:Bs):List Z8->Z5->(List Bs)->Option (Z5)
 | [],b,g=>some b
 | m::o,b,g=>on (m) fun f=>(bM k f.aa).bind fun p=>(bM p l).bind fun i=>(oo b f.aa i g).bind fun j=>(oq j.1 f.aA.aa i (1:Int)).bind fun q=>lW k l (o) q j.2
def lX (g:Z5) (b:(Sl Z8)) (i:Bs) (j:Bs):Option Z5:=Option.bind (lW i j b.l g ([]:List Bs)) fun f=>some f
def Co (f:Z5) (b:(Sl Z8)) (g:Bs) (i:Bs):Option Z5:=lX f b g i
theorem Hp (a0:Z5) (b:(Sl Z8)) (a2:Bs) (a3:Bs):Co a0 b a2 a3=lX a0 b a2 a3:=rfl
theorem Hq {j:Z5}{k:Sl Z8}{q t:Bs}{J:Option Nat}{i g:Nat}{r:Z5}(b:Co j k q t=some r) (H:ai) (ab:H i=some (.cells (Z5.cg (some g) j))) (ad:H g=some (.tok 2 j.bh.l.length)):AC Tryz.prog 113 [.d (.ptr i 0),.d (Sl.d 10 Z8.c J k),.d (.str q),.d (.str t)] H fun v h'=>v=.cF []/\h'=((H.set g (some (.tok 2 r.bh.l.length))).set i (some (.cells (Z5.cg (some g) r)))):=by
 unfold Co lX at b;refine AC.oW 38 [] Tryz.call113 Tryz.func113 ?_;have ae:i≠g:=fun u=>by subst u; simp_all
 refine ah.dx (h':=((H.set g (some (.tok 2 j.bh.l.length))).set i (some (.cells (Z5.cg (some g) j))))) (by funext n_; simp only [ai.set]; (repeat' split)<;>simp_all) ?_;refine ag ?_;refine sE c_.makeMap rfl (fun _ _ _ ⟨m,p,K,L,M⟩=>?_); subst K L M;obtain⟨af,p⟩:=ai.dP p;obtain⟨aj,p⟩:=ai.dP p;refine hq (((H.set g (some (.tok 2 j.bh.l.length))).set i (some (.cells (Z5.cg (some g) j)))).set m (some (.map (bf ([]:List Bs))))) ?_
 refine S As (nil ?_);refine ag (S Mv ?_);refine sLen (f:=Z8.c) (s:=k) (TK rfl) rfl rfl rfl rfl fun ak=>?_;refine S Mv (nil ?_);refine block ?_;obtain⟨B,N,b⟩:=b_ b;refine bA (TA 0 (TA 2 (TA 3 (TA 8 (TA 13 (TA 14 kN)))))) (fun(z:Nat×Z5×(List Bs))=>[(15,.a (.d (.int .i64 ((z.1:Nat):Int))))]) (fun z=>(((H.set g (some (.tok 2 z.2.1.bh.l.length))).set i (some (.cells (Z5.cg (some g) z.2.1)))).set m (some (.map (bf z.2.2))))) (fun z=>k.l.length-z.1) (fun z=>Option.bind (lW q t (k.l.drop z.1) z.2.1 z.2.2) B=some r) (0,j,([]:List Bs)) b wA ?_
 rintro ⟨C,w,O⟩ b al P;try dsimp only at b
 refine ag (S BI (nil ?_));refine ay fun Q E=>?_;refine ah.bN (fun l=>Option.bind (lW q t l w O) B=some r) b rfl (fun am F x b=>?_) (fun x b=>?_)
 ·rw [lW] at b;try dsimp only at x
  have an:=oD x;refine sk E ?_;clear E Q;refine ay fun R G=>?_;refine block ?_;refine ag ?_;obtain⟨ao,U,b⟩:=vO F b;refine S (ix Z8.c C U) (S Ld ?_);refine Sl ?_;refine Sf ?_;refine nil ?_;refine bu 10 _ rfl (KA 0 (KA 2 (KA 3 (KA 8 (KA 13 (KA 14 (KA 15 aS.nil))))))) ?_;refine ag (S Mv (S Fv (S Ld ?_)));obtain⟨ap,W,b⟩:=qO rfl b;refine s0 (cL rfl rfl W) rfl ?_
  refine S Mv ?_;obtain⟨aq,X,b⟩:=qO rfl b;refine s0 (cL rfl rfl X) rfl ?_;refine S As (nil ?_);refine ag (S Mv (S Fv (S Ld (S Mv (S Mv ?_)))));obtain⟨o,Y,b⟩:=qO (Hi _ _ _ _) b;refine sH (bP rfl rfl (Hj Y _ av av av)) rfl ?_;refine hq (((H.set g (some (.tok 2 o.1.bh.l.length))).set i (some (.cells (Z5.cg (some g) o.1)))).set m (some (.map (bf o.2)))) ?_
  refine nil ?_;refine region ?_;refine S Mv (S Fv (S Fv (S Ld (S Mv ?_))));obtain⟨y,Z,b⟩:=qO (Hl _ _ _ _) b;refine sH (bP rfl rfl (Ho Z _ av av)) rfl ?_;refine hq (((H.set g (some (.tok 2 y.bh.l.length))).set i (some (.cells (Z5.cg (some g) y)))).set m (some (.map (bf o.2)))) ?_;refine nil ?_;refine G _ ?_;clear G R;refine region ?_;refine SI ?_
  refine S Mv (nil ?_);exact P _ ((C+1),y,o.2) wA b (dl F)
 rw [lW] at b;have b:=ku N b;refine ah.exit ?_;repeat (first|refine ff ?_|refine fe ?_|refine fc ?_)
 obtain rfl:=oJ b;refine bn.fq ((H.set g (some (.tok 2 w.bh.l.length))).set i (some (.cells (Z5.cg (some g) w)))) (xs:=[]) rfl ⟨rfl,rfl⟩ ?_;intro aa au I;have aw:aa≠m:=fun u=>by subst u; simp_all [ai.set]
 rw [<- I];simp only [ai.set] at I ⊢
 (repeat' split)<;>simp_all
def lY (i:aj):List Z7->Z5->(List Bs)->Option (Z5)
 | [],f,j=>some f
 | l::m,f,j=>on (l) fun b=>(bM i.aa ([46]:Bs)).bind fun o=>(bM o b.aa).bind fun g=>(oo f b.aa g j).bind fun k=>(oq k.1 b.aA.aa g (0:Int)).bind fun p=>(bM g ([40]:Bs)).bind fun q=>(lX p b.aH q ([41]:Bs)).bind fun r=>lY i (m) r k.2
def pU (g:Z5) (b:aj):Option Z5:=Option.bind (lY b b.aB.l g ([]:List Bs)) fun f=>some f
def Cp (f:Z5) (b:aj):Option Z5:=pU f b
theorem Qm (a0:Z5) (b:aj):Cp a0 b=pU a0 b:=rfl
theorem Qn {j:Z5}{k:aj}{i g:Nat}{r:Z5}(b:Cp j k=some r) (H:ai) (ab:H i=some (.cells (Z5.cg (some g) j))) (ad:H g=some (.tok 2 j.bh.l.length)):AC Tryz.prog 111 [.d (.ptr i 0),.agg (aj.c k)] H fun v h'=>v=.cF []/\h'=((H.set g (some (.tok 2 r.bh.l.length))).set i (some (.cells (Z5.cg (some g) r)))):=by
 unfold Cp pU at b;refine AC.oW 41 [] Tryz.call111 Tryz.func111 ?_;have ae:i≠g:=fun q=>by subst q; simp_all
 refine ah.dx (h':=((H.set g (some (.tok 2 j.bh.l.length))).set i (some (.cells (Z5.cg (some g) j))))) (by funext n_; simp only [ai.set]; (repeat' split)<;>simp_all) ?_;refine ag (S BX (nil ?_));refine ag ?_;refine sE c_.makeMap rfl (fun _ _ _ ⟨m,p,I,J,K⟩=>?_); subst I J K;obtain⟨af,p⟩:=ai.dP p;obtain⟨ak,p⟩:=ai.dP p
 refine hq (((H.set g (some (.tok 2 j.bh.l.length))).set i (some (.cells (Z5.cg (some g) j)))).set m (some (.map (bf ([]:List Bs))))) ?_;refine S As (nil ?_);refine ag (S Fv (S Ld ?_));refine sLen (f:=Z7.c) (s:=k.aB) (TK rfl) rfl rfl rfl rfl fun al=>?_;refine S Mv (nil ?_);refine block ?_;obtain⟨x,L,b⟩:=b_ b;refine bA (TA 0 (TA 3 (TA 4 (TA 10 (TA 11 kN))))) (fun(z:Nat×Z5×(List Bs))=>[(12,.a (.d (.int .i64 ((z.1:Nat):Int))))]) (fun z=>(((H.set g (some (.tok 2 z.2.1.bh.l.length))).set i (some (.cells (Z5.cg (some g) z.2.1)))).set m (some (.map (bf z.2.2))))) (fun z=>k.aB.l.length-z.1) (fun z=>Option.bind (lY k (k.aB.l.drop z.1) z.2.1 z.2.2) x=some r) (0,j,([]:List Bs)) b wA ?_
 rintro ⟨y,t,M⟩ b am N;try dsimp only at b
 refine ag (S BI (nil ?_));refine ay fun O B=>?_;refine ah.bN (fun l=>Option.bind (lY k l t M) x=some r) b rfl (fun an C u b=>?_) (fun u b=>?_)
 ·rw [lY] at b;try dsimp only at u
  have ao:=oD u;refine sk B ?_;clear B O;refine ay fun P E=>?_;refine block ?_;refine ag ?_;obtain⟨ap,Q,b⟩:=vO C b;refine S (ix Z7.c y Q) (S Ld ?_);refine Sl ?_;refine Sf ?_;refine nil ?_;refine bu 6 _ rfl (KA 0 (KA 3 (KA 4 (KA 10 (KA 11 (KA 12 aS.nil)))))) ?_;refine ag (S Fv (S Ld ?_));obtain⟨aq,R,b⟩:=qO rfl b;refine s0 (cL rfl rfl R) rfl ?_
  refine S Fv (S Ld ?_);obtain⟨au,U,b⟩:=qO rfl b;refine s0 (cL rfl rfl U) rfl ?_;refine S As (nil ?_);refine ag (S Mv (S Fv (S Ld (S Mv (S Mv ?_)))));obtain⟨o,W,b⟩:=qO (Hi _ _ _ _) b;refine sH (bP rfl rfl (Hj W _ av av av)) rfl ?_;refine hq (((H.set g (some (.tok 2 o.1.bh.l.length))).set i (some (.cells (Z5.cg (some g) o.1)))).set m (some (.map (bf o.2)))) ?_
  refine nil ?_;refine ag (S Mv (S Fv (S Fv (S Ld (S Mv ?_)))));obtain⟨F,X,b⟩:=qO (Hl _ _ _ _) b;refine sH (bP rfl rfl (Ho X _ av av)) rfl ?_;refine hq (((H.set g (some (.tok 2 F.bh.l.length))).set i (some (.cells (Z5.cg (some g) F)))).set m (some (.map (bf o.2)))) ?_;refine nil ?_;refine region ?_;refine S Mv (S Fv (S Ld (S Mv ?_)));obtain⟨aw,Y,b⟩:=qO rfl b
  refine s0 (cL rfl rfl Y) rfl ?_;obtain⟨w,Z,b⟩:=qO (Hp _ _ _ _) b;refine sH (bP rfl rfl (Hq Z _ av av)) rfl ?_;refine hq (((H.set g (some (.tok 2 w.bh.l.length))).set i (some (.cells (Z5.cg (some g) w)))).set m (some (.map (bf o.2)))) ?_;refine nil ?_;refine E _ ?_;clear E P;refine region ?_;refine SI ?_;refine S Mv (nil ?_);exact N _ ((y+1),w,o.2) wA b (dl C)
 rw [lY] at b;have b:=ku L b;refine ah.exit ?_;repeat (first|refine ff ?_|refine fe ?_|refine fc ?_)
 obtain rfl:=oJ b;refine bn.fq ((H.set g (some (.tok 2 t.bh.l.length))).set i (some (.cells (Z5.cg (some g) t)))) (xs:=[]) rfl ⟨rfl,rfl⟩ ?_;intro aa ax G;have az:aa≠m:=fun q=>by subst q; simp_all [ai.set]
 rw [<- G];simp only [ai.set] at G ⊢
 (repeat' split)<;>simp_all
def kA (i:aj):List Z9->Z5->(List Bs)->Option (Z5)
 | [],f,g=>some f
 | l::m,f,g=>on (l) fun b=>(bM i.aa ([46]:Bs)).bind fun o=>(bM o b.aa).bind fun j=>aR (!((((b.aa==([116,114,117,101]:Bs)))||((b.aa==([102,97,108,115,101]:Bs))))||((b.aa==([110,117,108,108]:Bs))))) (pT b.aa) false fun k=>on (bif !(((((b.aa==([116,114,117,101]:Bs)))||((b.aa==([102,97,108,115,101]:Bs))))||((b.aa==([110,117,108,108]:Bs))))||(!k)) then ii b.aa else false) fun p=>(eY f ((((((b.aa==([116,114,117,101]:Bs)))||((b.aa==([102,97,108,115,101]:Bs))))||((b.aa==([110,117,108,108]:Bs))))||(!k))||p) (6:Int) j).bind fun q=>(eY q (g.contains b.aa) (7:Int) j).bind fun r=>kA i (m) r (b7 g b.aa)
def pV (g:Z5) (b:aj):Option Z5:=Option.bind (kA b b.aG.l g ([]:List Bs)) fun f=>some f
def Cq (f:Z5) (b:aj):Option Z5:=pV f b
theorem Qo (a0:Z5) (b:aj):Cq a0 b=pV a0 b:=rfl
theorem Qp {j:Z5}{k:aj}{i g:Nat}{r:Z5}(b:Cq j k=some r) (H:ai) (ad:H i=some (.cells (Z5.cg (some g) j))) (ae:H g=some (.tok 2 j.bh.l.length)):AC Tryz.prog 112 [.d (.ptr i 0),.agg (aj.c k)] H fun v h'=>v=.cF []/\h'=((H.set g (some (.tok 2 r.bh.l.length))).set i (some (.cells (Z5.cg (some g) r)))):=by
 unfold Cq pV at b;refine AC.oW 62 [] Tryz.call112 Tryz.func112 ?_;have af:i≠g:=fun t=>by subst t; simp_all
 refine ah.dx (h':=((H.set g (some (.tok 2 j.bh.l.length))).set i (some (.cells (Z5.cg (some g) j))))) (by funext n_; simp only [ai.set]; (repeat' split)<;>simp_all) ?_;refine ag (S BX (nil ?_));refine ag ?_;refine sE c_.makeMap rfl (fun _ _ _ ⟨m,q,J,K,L⟩=>?_); subst J K L;obtain⟨ak,q⟩:=ai.dP q;obtain⟨al,q⟩:=ai.dP q
 refine hq (((H.set g (some (.tok 2 j.bh.l.length))).set i (some (.cells (Z5.cg (some g) j)))).set m (some (.map (bf ([]:List Bs))))) ?_;refine S As (nil ?_);refine ag (S Fv (S Ld ?_));refine sLen (f:=Z9.c) (s:=k.aG) (TK rfl) rfl rfl rfl rfl fun am=>?_;refine S Mv (nil ?_);refine block ?_;obtain⟨x,M,b⟩:=b_ b;refine bA (TA 0 (TA 3 (TA 4 (TA 11 (TA 12 kN))))) (fun(z:Nat×Z5×(List Bs))=>[(13,.a (.d (.int .i64 ((z.1:Nat):Int))))]) (fun z=>(((H.set g (some (.tok 2 z.2.1.bh.l.length))).set i (some (.cells (Z5.cg (some g) z.2.1)))).set m (some (.map (bf z.2.2))))) (fun z=>k.aG.l.length-z.1) (fun z=>Option.bind (kA k (k.aG.l.drop z.1) z.2.1 z.2.2) x=some r) (0,j,([]:List Bs)) b wA ?_
 rintro ⟨y,u,o⟩ b an N;try dsimp only at b
 refine ag (S BI (nil ?_));refine ay fun O B=>?_;refine ah.bN (fun l=>Option.bind (kA k l u o) x=some r) b rfl (fun ao C w b=>?_) (fun w b=>?_)
 ·rw [kA] at b;try dsimp only at w
  have ap:=oD w;refine sk B ?_;clear B O;refine ay fun P E=>?_;refine block ?_;refine ag ?_;obtain⟨F,Q,b⟩:=vO C b;refine S (ix Z9.c y Q) (S Ld ?_);refine Sl ?_;refine Sf ?_;refine nil ?_;refine bu 6 _ rfl (KA 0 (KA 3 (KA 4 (KA 11 (KA 12 (KA 13 aS.nil)))))) ?_;refine ag (S Fv (S Ld ?_));obtain⟨aq,R,b⟩:=qO rfl b;refine s0 (cL rfl rfl R) rfl ?_
  refine S Fv (S Ld ?_);obtain⟨au,U,b⟩:=qO rfl b;refine s0 (cL rfl rfl U) rfl ?_;refine S As (nil ?_);refine ag (S Fv (S Ld (S BS (S Mv (G0 Fv ?_)))));refine G1 27 rfl Ld ?_;refine G1 28 rfl BS ?_;refine S PO (S Mv (G0 Fv ?_));refine G1 32 rfl Ld ?_;refine G1 33 rfl BS ?_;refine S PO (S As (nil ?_));refine ag (S Mv (S Mv (S Mv (G0 Fv ?_))));refine G1 39 rfl Ld ?_;obtain⟨aw,W,b⟩:=eS (B7 _) b
  refine dz 40 rfl rfl rfl rfl rfl (fun hC=>B8 (W hC)) ?_;refine G1 41 rfl NB ?_;refine S PO (S Mv (G0 Fv ?_));refine G1 45 rfl Ld ?_;obtain⟨ax,X,b⟩:=eH (fun _=>(Cb _)) b;refine dz 46 rfl rfl rfl rfl rfl (fun hC=>Cc (X hC)) ?_;refine S PO (S Mv ?_);obtain⟨G,Y,b⟩:=qO (jC _ _ _ _) b;refine sH (bP rfl rfl (jD Y _ av av)) rfl ?_;refine hq (((H.set g (some (.tok 2 G.bh.l.length))).set i (some (.cells (Z5.cg (some g) G)))).set m (some (.map (bf o)))) ?_
  refine nil ?_;refine ag (S Mv (S Mv (S Fv (S Ld ?_))));refine s0 (qI (TK rfl) rfl (TK rfl) (TK rfl) rfl rfl rfl rfl av) rfl ?_;refine S Mv ?_;obtain⟨p,Z,b⟩:=qO (jC _ _ _ _) b;refine sH (bP rfl rfl (jD Z _ av av)) rfl ?_;refine hq (((H.set g (some (.tok 2 p.bh.l.length))).set i (some (.cells (Z5.cg (some g) p)))).set m (some (.map (bf o)))) ?_
  refine nil ?_;refine region ?_;refine S Mv (S Fv (S Ld ?_));refine dA (mapUpdate (TK rfl) rfl (TK rfl) rfl rfl rfl rfl av (o9 _ _) rfl) rfl rfl ?_;refine hq (((H.set g (some (.tok 2 p.bh.l.length))).set i (some (.cells (Z5.cg (some g) p)))).set m (some (.map (bf (b7 o F.aa))))) ?_;refine nil ?_;refine E _ ?_;clear E P;refine region ?_;refine SI ?_
  refine S Mv (nil ?_);exact N _ ((y+1),p,(b7 o F.aa)) wA b (dl C)
 rw [kA] at b;have b:=ku M b;refine ah.exit ?_;repeat (first|refine ff ?_|refine fe ?_|refine fc ?_)
 obtain rfl:=oJ b;refine bn.fq ((H.set g (some (.tok 2 u.bh.l.length))).set i (some (.cells (Z5.cg (some g) u)))) (xs:=[]) rfl ⟨rfl,rfl⟩ ?_;intro ab az I;have aA:ab≠m:=fun t=>by subst t; simp_all [ai.set]
 rw [<- I];simp only [ai.set] at I ⊢
 (repeat' split)<;>simp_all
def pW (k:Z5) (m:Int) (f:(List Bs)):Option (Z5×(List Bs)):=(dh k.Fd.aq.l m).bind fun b=>(pT b.aa).bind fun i=>on (bif !(!i) then ii b.aa else false) fun o=>(eY k ((!i)||o) (6:Int) b.aa).bind fun p=>on (bif !(f.contains b.aa) then cC b.aa else false) fun q=>(eY p ((f.contains b.aa)||q) (7:Int) b.aa).bind fun r=>on (bif (decide (b.an=(1:Int))) then((decide (b.an=(1:Int)))) else((decide (b.an=(2:Int))))) fun s=>on (bif s then((decide (((b.aB.l.length:Nat):Int)=(0:Int)))) else(on (bif (decide (b.an=(3:Int))) then((decide (b.an=(3:Int)))) else((decide (b.an=(4:Int))))) fun t=>bif t then((decide (((b.aG.l.length:Nat):Int)=(0:Int)))) else(bif (decide (b.an=(5:Int))) then((decide (((b.aL.l.length:Nat):Int)=(0:Int)))) else(false)))) fun u=>(eY r u (8:Int) b.aa).bind fun v=>(eY v (((((((b.aa==([81,117,101,114,121]:Bs)))||((b.aa==([77,117,116,97,116,105,111,110]:Bs))))||((b.aa==([83,117,98,115,99,114,105,112,116,105,111,110]:Bs))))&&(!decide (b.an=(1:Int))))||(decide (b.an<(1:Int))))||(decide ((5:Int)<b.an))) (9:Int) b.aa).bind fun j=>aR ((decide (b.an=(5:Int)))) (ol j b) false fun w=>(eY j ((decide (b.an=(5:Int)))&&w) (5:Int) b.aa).bind fun g=>on (bif (decide (b.an=(1:Int))) then((decide (b.an=(1:Int)))) else((decide (b.an=(2:Int))))) fun x=>bif x then((pU g b).bind fun y=>some (y,(b7 f b.aa))) else(bif (decide (b.an=(4:Int))) then((pV g b).bind fun z=>some (z,(b7 f b.aa))) else(bif (decide (b.an=(5:Int))) then((bM b.aa ([46]:Bs)).bind fun B=>(lX g b.aL B ([]:Bs)).bind fun C=>some (C,(b7 f b.aa))) else(some (g,(b7 f b.aa)))))
def Cr (f:Z5) (b:Int) (g:(List Bs)):Option (Z5×(List Bs)):=pW f b g
theorem Qq (a0:Z5) (b:Int) (a2:(List Bs)):Cr a0 b a2=pW a0 b a2:=rfl
theorem Qr {y:Z5}{F:Int}{j:List Bs}{m i c2:Nat}{r:(Z5×(List Bs))}(b:Cr y F j=some r) (H:ai) (aI:H m=some (.cells (Z5.cg (some i) y))) (aJ:H i=some (.tok 2 y.bh.l.length)) (aM:H c2=some (.map (bf j))):AC Tryz.prog 70 [.d (.ptr m 0),.d (.int .i64 F),.d (.map c2)] H fun v h'=>v=.cF []/\h'=(((H.set i (some (.tok 2 r.1.bh.l.length))).set m (some (.cells (Z5.cg (some i) r.1)))).set c2 (some (.map (bf r.2)))):=by
 unfold Cr pW at b;refine AC.oW 140 [] Tryz.call70 Tryz.func70 ?_;have aN:m≠i:=fun w=>by subst w; simp_all
 have aO:c2≠i:=fun w=>by subst w; simp_all
 have aP:c2≠m:=fun w=>by subst w; simp_all
 refine ah.dx (h':=(((H.set i (some (.tok 2 y.bh.l.length))).set m (some (.cells (Z5.cg (some i) y)))).set c2 (some (.map (bf j))))) (by funext n_; simp only [ai.set]; (repeat' split)<;>simp_all) ?_;refine ag (S Mv (S NP ?_));refine s0 (bE (TK rfl) rfl rfl (TK rfl) rfl rfl) rfl ?_;refine s0 (bE (TK rfl) rfl rfl (TK rfl) rfl rfl) rfl ?_;refine s0 (bZ (TK rfl) rfl rfl av rfl) rfl ?_
 refine S Mv ?_;obtain⟨g,O,b⟩:=qT rfl b;refine s0 (jS (f:=aj.c) (TK rfl) rfl (TK rfl) rfl rfl rfl O) rfl ?_;refine S Ld ?_;refine Sl ?_;refine Sf ?_;refine nil ?_;refine bu 6 _ rfl (KA 0 (KA 2 aS.nil)) ?_;refine ah.cr (Sd Mv (Sd Fv (Sd Ld ?_)));obtain⟨aT,P,b⟩:=qT (B7 _) b;refine cM rfl rfl (B8 P) ?_;refine Sd NB (Sd Mv (dr Fv ?_));refine dK 23 rfl Ld ?_;obtain⟨aU,Q,b⟩:=k9 (fun _=>(Cb _)) b
 refine pn 24 rfl rfl rfl rfl rfl (fun hC=>Cc (Q hC)) ?_;refine Sd PO (Sd Fv (Sd Ld ?_));obtain⟨G,R,b⟩:=qT (jC _ _ _ _) b;refine au.sH (bP rfl rfl (jD R _ av av)) rfl ?_;refine au.Dh (((H.set i (some (.tok 2 G.bh.l.length))).set m (some (.cells (Z5.cg (some i) G)))).set c2 (some (.map (bf j)))) ?_;refine au.nil (by decide +kernel) ?_;refine ah.cr (Sd Mv (Sd Mv (Sd Fv (Sd Ld ?_))))
 refine au.s0 (qI (TK rfl) rfl (TK rfl) (TK rfl) rfl rfl rfl rfl av) rfl ?_;refine Sd Mv (dr Fv ?_);refine dK 36 rfl Ld ?_;obtain⟨aV,U,b⟩:=k9 (fun _=>(ru _)) b;refine pn 37 rfl rfl rfl rfl rfl (fun hC=>ry (U hC)) ?_;refine Sd PO (Sd Fv (Sd Ld ?_));obtain⟨o,W,b⟩:=qT (jC _ _ _ _) b;refine au.sH (bP rfl rfl (jD W _ av av)) rfl ?_;refine au.Dh (((H.set i (some (.tok 2 o.bh.l.length))).set m (some (.cells (Z5.cg (some i) o)))).set c2 (some (.map (bf j)))) ?_
 refine au.nil (by decide +kernel) ?_;refine ag (S Mv (S Fv (S Ld ?_)));refine dA (mapUpdate (TK rfl) rfl (TK rfl) rfl rfl rfl rfl av (o9 _ _) rfl) rfl rfl ?_;refine hq (((H.set i (some (.tok 2 o.bh.l.length))).set m (some (.cells (Z5.cg (some i) o)))).set c2 (some (.map (bf (b7 j g.aa))))) ?_;refine nil ?_;refine ag (S As (nil ?_));refine aQ (TA 0 (TA 6 kN)) (fun(z:Bool)=>[(7,.a (.d (.bool z)))]) (fun z=>(((H.set i (some (.tok 2 o.bh.l.length))).set m (some (.cells (Z5.cg (some i) o)))).set c2 (some (.map (bf (b7 j g.aa)))))) (fun z=>((eY o z (8:Int) g.aa).bind fun B=>(eY B (((((((g.aa==([81,117,101,114,121]:Bs)))||((g.aa==([77,117,116,97,116,105,111,110]:Bs))))||((g.aa==([83,117,98,115,99,114,105,112,116,105,111,110]:Bs))))&&(!decide (g.an=(1:Int))))||(decide (g.an<(1:Int))))||(decide ((5:Int)<g.an))) (9:Int) g.aa).bind fun x=>aR ((decide (g.an=(5:Int)))) (ol x g) false fun I=>(eY x ((decide (g.an=(5:Int)))&&I) (5:Int) g.aa).bind fun p=>on (bif (decide (g.an=(1:Int))) then((decide (g.an=(1:Int)))) else((decide (g.an=(2:Int))))) fun J=>bif J then((pU p g).bind fun q=>some (q,(b7 j g.aa))) else(bif (decide (g.an=(4:Int))) then((pV p g).bind fun t=>some (t,(b7 j g.aa))) else(bif (decide (g.an=(5:Int))) then((bM g.aa ([46]:Bs)).bind fun K=>(lX p g.aL K ([]:Bs)).bind fun u=>some (u,(b7 j g.aa))) else(some (p,(b7 j g.aa))))))=some r) ?_ ?_
 ·intro aW C;refine ag (S Fv (S Ld (nil ?_)));refine block ?_;obtain⟨X,Y,b⟩:=bW b;refine aQ (TA 0 (TA 6 (TA 7 (TA 47 kN)))) (fun(z:Bool)=>[(48,.a (.d (.bool z)))]) (fun z=>(((H.set i (some (.tok 2 o.bh.l.length))).set m (some (.cells (Z5.cg (some i) o)))).set c2 (some (.map (bf (b7 j g.aa)))))) (fun z=>X z=some r) ?_ ?_
  ·intro aX L;refine ag (S BI (S As (nil ?_)));refine cP b (fun Z b=>?_) (fun Z b=>?_)
   ·refine ah.skip ?_;exact L _ (decide (g.an=(1:Int))) wA b
   refine region ?_;refine S BI (S As (nil ?_));exact L _ (decide (g.an=(2:Int))) wA b
  rintro aY b;try dsimp only at b
  have b:=ku Y b;obtain⟨aZ,E,b⟩:=bW b;refine cP b (fun ab b=>?_) (fun ab b=>?_)
  ·refine region ?_;refine S Fv (S Ld ?_);refine sLen (f:=Z7.c) (s:=g.aB) (TK rfl) rfl rfl rfl rfl fun a0=>?_;refine S BI (S As (nil ?_));have b:=ku E b;exact C _ (decide (((g.aB.l.length:Nat):Int)=(0:Int))) wA b
  obtain⟨ad,ae,b⟩:=eL b;refine aQ (TA 0 (TA 6 (TA 7 (TA 47 kN)))) (fun(z:Bool)=>[(55,.a (.d (.bool z)))]) (fun z=>(((H.set i (some (.tok 2 o.bh.l.length))).set m (some (.cells (Z5.cg (some i) o)))).set c2 (some (.map (bf (b7 j g.aa)))))) (fun z=>ad z=some r) ?_ ?_
  ·intro a1 M;refine ag (S BI (S As (nil ?_)));refine cP b (fun af b=>?_) (fun af b=>?_)
   ·refine ah.skip ?_;exact M _ (decide (g.an=(3:Int))) wA b
   refine region ?_;refine S BI (S As (nil ?_));exact M _ (decide (g.an=(4:Int))) wA b
  rintro a2 b;try dsimp only at b
  have b:=ku ae b;refine cP b (fun ak b=>?_) (fun ak b=>?_)
  ·refine region ?_;refine S Fv (S Ld ?_);refine sLen (f:=Z9.c) (s:=g.aG) (TK rfl) rfl rfl rfl rfl fun a3=>?_;refine S BI (S As (nil ?_));have b:=ku E b;exact C _ (decide (((g.aG.l.length:Nat):Int)=(0:Int))) wA b
  refine ag (S BI (S As (nil ?_)));refine cP b (fun al b=>?_) (fun al b=>?_)
  ·refine region ?_;refine S Fv (S Ld ?_);refine sLen (f:=Z8.c) (s:=g.aL) (TK rfl) rfl rfl rfl rfl fun a4=>?_;refine S BI (S As (nil ?_));have b:=ku E b;exact C _ (decide (((g.aL.l.length:Nat):Int)=(0:Int))) wA b
  refine ah.skip ?_;have b:=ku E b;exact C _ false wA b
 rintro a5 b;try dsimp only at b
 refine ag (S Mv (S Mv (S Fv (S Ld ?_))));obtain⟨B,am,b⟩:=qT (jC _ _ _ _) b;refine sH (bP rfl rfl (jD am _ av av)) rfl ?_;refine hq (((H.set i (some (.tok 2 B.bh.l.length))).set m (some (.cells (Z5.cg (some i) B)))).set c2 (some (.map (bf (b7 j g.aa))))) ?_;refine nil ?_;refine ag (S Fv (S Ld (S BS (S Mv (G0 Fv ?_)))));refine G1 77 rfl Ld ?_;refine G1 78 rfl BS ?_
 refine S PO (S Mv (G0 Fv ?_));refine G1 82 rfl Ld ?_;refine G1 83 rfl BS ?_;refine S PO (S As (nil ?_));refine ag (S Mv (S Mv (S Mv (G0 Fv ?_))));refine G1 89 rfl Ld ?_;refine G1 90 rfl BI ?_;refine S PA (S Mv (G0 Fv ?_));refine G1 94 rfl Ld ?_;refine G1 95 rfl BI ?_;refine S PO (S Mv (G0 Fv ?_));refine G1 99 rfl Ld ?_;refine G1 100 rfl BI ?_;refine S PO (S Fv (S Ld ?_));obtain⟨x,ao,b⟩:=qT (jC _ _ _ _) b
 refine sH (bP rfl rfl (jD ao _ av av)) rfl ?_;refine hq (((H.set i (some (.tok 2 x.bh.l.length))).set m (some (.cells (Z5.cg (some i) x)))).set c2 (some (.map (bf (b7 j g.aa))))) ?_;refine nil ?_;refine ah.cr (Sd Mv (Sd Fv (Sd Ld (Sd BI (Sd Mv (dr Mv (dr Ld ?_)))))));obtain⟨I,ap,b⟩:=dQ (Qi _ _) b;refine au.gC rfl rfl (fun hC=>aK (k:=111) rfl (aK (k:=112) rfl (eu rfl rfl (Qj (ap hC) _ av)))) rfl ?_
 refine Sd PA (Sd Fv (Sd Ld ?_));obtain⟨p,aq,b⟩:=qT (jC _ _ _ _) b;refine au.sH (bP rfl rfl (jD aq _ av av)) rfl ?_;refine au.Dh (((H.set i (some (.tok 2 p.bh.l.length))).set m (some (.cells (Z5.cg (some i) p)))).set c2 (some (.map (bf (b7 j g.aa))))) ?_;refine au.nil (by decide +kernel) ?_;refine ag (S Fv (S Ld (nil ?_)));refine block ?_;obtain⟨aw,ax,b⟩:=bW b
 refine aQ (TA 0 (TA 6 (TA 119 kN))) (fun(z:Bool)=>[(120,.a (.d (.bool z)))]) (fun z=>(((H.set i (some (.tok 2 p.bh.l.length))).set m (some (.cells (Z5.cg (some i) p)))).set c2 (some (.map (bf (b7 j g.aa)))))) (fun z=>aw z=some r) ?_ ?_
 ·intro a6 N;refine ag (S BI (S As (nil ?_)));refine cP b (fun ay b=>?_) (fun ay b=>?_)
  ·refine ah.skip ?_;exact N _ (decide (g.an=(1:Int))) wA b
  refine region ?_;refine S BI (S As (nil ?_));exact N _ (decide (g.an=(2:Int))) wA b
 rintro J b;try dsimp only at b
 have b:=ku ax b;refine cE b (fun az b=>?_) (fun az b=>?_)
 ·refine region ?_;refine S Mv (S Ld ?_);obtain⟨q,aA,b⟩:=qT (Qm _ _) b;refine sH (bP rfl rfl (Qn aA _ av av)) rfl ?_;refine hq (((H.set i (some (.tok 2 q.bh.l.length))).set m (some (.cells (Z5.cg (some i) q)))).set c2 (some (.map (bf (b7 j g.aa))))) ?_;refine nil ?_;repeat (first|refine ff ?_|refine fe ?_|refine fc ?_)
  obtain rfl:=oJ b;refine bn.fq (((H.set i (some (.tok 2 q.bh.l.length))).set m (some (.cells (Z5.cg (some i) q)))).set c2 (some (.map (bf (b7 j g.aa))))) (xs:=[]) rfl ⟨rfl,rfl⟩ ?_;exact(fun _ _ h=>h)
 refine ag (S BI (S As (nil ?_)));refine cE b (fun aC b=>?_) (fun aC b=>?_)
 ·refine region ?_;refine S Mv (S Ld ?_);obtain⟨t,aD,b⟩:=qT (Qo _ _) b;refine sH (bP rfl rfl (Qp aD _ av av)) rfl ?_;refine hq (((H.set i (some (.tok 2 t.bh.l.length))).set m (some (.cells (Z5.cg (some i) t)))).set c2 (some (.map (bf (b7 j g.aa))))) ?_;refine nil ?_;repeat (first|refine ff ?_|refine fe ?_|refine fc ?_)
  obtain rfl:=oJ b;refine bn.fq (((H.set i (some (.tok 2 t.bh.l.length))).set m (some (.cells (Z5.cg (some i) t)))).set c2 (some (.map (bf (b7 j g.aa))))) (xs:=[]) rfl ⟨rfl,rfl⟩ ?_;exact(fun _ _ h=>h)
 refine ag (S BI (S As (nil ?_)));refine cE b (fun aE b=>?_) (fun aE b=>?_)
 ·refine region ?_;refine S Mv (S Fv (S Ld (S Fv (S Ld ?_))));obtain⟨K,aF,b⟩:=qT rfl b;refine s0 (cL rfl rfl aF) rfl ?_;obtain⟨u,aH,b⟩:=qT (Hp _ _ _ _) b;refine sH (bP rfl rfl (Hq aH _ av av)) rfl ?_;refine hq (((H.set i (some (.tok 2 u.bh.l.length))).set m (some (.cells (Z5.cg (some i) u)))).set c2 (some (.map (bf (b7 j g.aa))))) ?_;refine nil ?_
  repeat (first|refine ff ?_|refine fe ?_|refine fc ?_)
  obtain rfl:=oJ b;refine bn.fq (((H.set i (some (.tok 2 u.bh.l.length))).set m (some (.cells (Z5.cg (some i) u)))).set c2 (some (.map (bf (b7 j g.aa))))) (xs:=[]) rfl ⟨rfl,rfl⟩ ?_;exact(fun _ _ h=>h)
 refine ah.skip ?_;repeat (first|refine ff ?_|refine fe ?_|refine fc ?_)
 obtain rfl:=oJ b;refine bn.fq (((H.set i (some (.tok 2 p.bh.l.length))).set m (some (.cells (Z5.cg (some i) p)))).set c2 (some (.map (bf (b7 j g.aa))))) (xs:=[]) rfl ⟨rfl,rfl⟩ ?_;exact(fun _ _ h=>h)
def lZ :List aj->Nat->Z5->(List Bs)->Option (Z5)
 | [],b,f,g=>some f
 | k::j,b,f,g=>(pW f ((b:Nat):Int) g).bind fun i=>lZ  (j) (b+1) i.1 i.2
def tY (b:ak) (g:Bool):Option (Sl Z6):=Option.bind (lZ  b.aq.l 0 (Z5.mk b (Sl.nil:Sl Z6)) ([]:List Bs)) fun i=>on (i) fun f=>on (eT b ([81,117,101,114,121]:Bs)) fun j=>Option.bind (bif (g&&(!j.2)) then((eY f true (30:Int) ([81,117,101,114,121]:Bs)).bind fun k=>some k) else(some f)) fun m=>some m.bh
def Cs (f:ak) (b:Bool):Option (Sl Z6):=tY f b
theorem Qt (a0:ak) (b:Bool):Cs a0 b=tY a0 b:=rfl
theorem Qu {k:ak}{x:Bool}{r:Sl Z6}(b:Cs k x=some r) (H:ai) :AC Tryz.prog 41 [.agg (ak.c k),.d (.bool x)] H fun v h'=>v=.a (.d (Sl.d 2 Z6.c none r))/\h'=H:=by
 unfold Cs tY at b;refine AC.oW 41 [.tmp 4] Tryz.call41 Tryz.func41 ?_;refine ag (S BX ?_);refine s0 (dR (k':=2) rfl) rfl ?_;refine nil ?_;refine ag (S Ld (S BU ?_));refine aP.tok 2 fun g ap=>?_;refine sE (c_.uP rfl) rfl (fun _ _ _ ⟨i,G,y,B,C⟩=>?_); subst y B C;obtain⟨au,G⟩:=ai.dP G;refine aP.iL i _ av (fun j w cs hh hx=>tok_cell 1 2 2 hh (t:=g) av hx rfl) ?_
 refine hq ((H.set g (some (.tok 2 0))).set i (some (.cells (Z5.cg (some g) (Z5.mk k (Sl.nil:Sl Z6)))))) ?_;refine S As (nil ?_);refine ag ?_;refine sE c_.makeMap rfl (fun _ _ _ ⟨m,u,y,B,C⟩=>?_); subst y B C;obtain⟨aw,u⟩:=ai.dP u;obtain⟨ax,u⟩:=ai.dP u;refine hq (((H.set g (some (.tok 2 0))).set i (some (.cells (Z5.cg (some g) (Z5.mk k (Sl.nil:Sl Z6)))))).set m (some (.map (bf ([]:List Bs))))) ?_
 refine S As (nil ?_);refine aQ (TA 1 (TA 2 (TA 5 kN))) (fun(z:Z5×(List Bs))=>[]) (fun z=>(((H.set g (some (.tok 2 z.1.bh.l.length))).set i (some (.cells (Z5.cg (some g) z.1)))).set m (some (.map (bf z.2))))) (fun z=>(on (eT k ([81,117,101,114,121]:Bs)) fun I=>Option.bind (bif (x&&(!I.2)) then((eY z.1 true (30:Int) ([81,117,101,114,121]:Bs)).bind fun o=>some o) else(some z.1)) fun J=>some J.bh)=some r) ?_ ?_
 ·intro az X;refine ag (S Fv (S Ld ?_));refine sLen (f:=aj.c) (s:=k.aq) (TK rfl) rfl rfl rfl rfl fun aA=>?_;refine S Mv (nil ?_);refine block ?_;obtain⟨K,Y,b⟩:=b_ b;refine bA (TA 1 (TA 2 (TA 5 (TA 6 (TA 16 kN))))) (fun(z:Nat×Z5×(List Bs))=>[(17,.a (.d (.int .i64 ((z.1:Nat):Int))))]) (fun z=>(((H.set g (some (.tok 2 z.2.1.bh.l.length))).set i (some (.cells (Z5.cg (some g) z.2.1)))).set m (some (.map (bf z.2.2))))) (fun z=>k.aq.l.length-z.1) (fun z=>Option.bind (lZ  (k.aq.l.drop z.1) z.1 z.2.1 z.2.2) K=some r) (0,(Z5.mk k (Sl.nil:Sl Z6)),([]:List Bs)) b wA ?_
  rintro ⟨L,M,N⟩ b aB Z;try dsimp only at b
  refine ag (S BI (nil ?_));refine ay fun aa O=>?_;refine ah.bN (fun l=>Option.bind (lZ  l L M N) K=some r) b rfl (fun aC ab E b=>?_) (fun E b=>?_)
  ·rw [lZ] at b;try dsimp only at E
   have aD:=oD E;refine sk O ?_;clear O aa;refine ay fun ad P=>?_;refine block ?_;refine ag (S Mv (S As (nil ?_)));refine region ?_;refine S Mv (S Mv (S Mv ?_));obtain⟨p,ae,b⟩:=qO (Qq _ _ _) b;refine sH (bP rfl rfl (Qr ae _ av av av)) rfl ?_;refine hq (((H.set g (some (.tok 2 p.1.bh.l.length))).set i (some (.cells (Z5.cg (some g) p.1)))).set m (some (.map (bf p.2)))) ?_
   refine nil ?_;refine P _ ?_;clear P ad;refine region ?_;refine SI ?_;refine S Mv (nil ?_);exact Z _ ((L+1),p.1,p.2) wA b (dl ab)
  rw [lZ] at b;have b:=ku Y b;refine ah.exit ?_;obtain⟨aE,af,b⟩:=bW b;have b:=ku af b;exact X _ (M,N) wA b
 rintro ⟨al,Q⟩ b;try dsimp only at b
 refine aQ (TA 5 kN) (fun(z:Z5)=>[]) (fun z=>(((H.set g (some (.tok 2 z.bh.l.length))).set i (some (.cells (Z5.cg (some g) z)))).set m (some (.map (bf Q))))) (fun z=>(some z.bh)=some r) ?_ ?_
 ·intro aF R;refine ag (S Ld ?_);obtain⟨I,am,b⟩:=vT (lT _ _) b;refine Sc rfl rfl (kz am) ?_;refine S Mv (S EX (S EX ?_));refine Sl ?_;refine Sf ?_;refine S As (nil ?_);refine bu 8 _ rfl (KA 1 (KA 5 (KA 9 aS.nil))) ?_;refine ag (S Mv (S Mv (G0 Mv ?_)));refine G1 32 rfl NB ?_;refine S PA (nil ?_);obtain⟨aG,U,b⟩:=b_ b;refine cO b (fun an b=>?_) (fun an b=>?_)
  ·refine region ?_;refine S Mv ?_;obtain⟨o,ao,b⟩:=qO (jC _ _ _ _) b;refine sH (bP rfl rfl (jD ao _ av av)) rfl ?_;refine hq (((H.set g (some (.tok 2 o.bh.l.length))).set i (some (.cells (Z5.cg (some g) o)))).set m (some (.map (bf Q)))) ?_;refine nil ?_;have b:=ku U b;exact R _ o wA b
  refine ah.skip ?_;have b:=ku U b;exact R _ al wA b
 rintro J b;try dsimp only at b
 refine ag (S Mv (S NP ?_));refine s0 (bE (TK rfl) rfl rfl (TK rfl) rfl rfl) rfl ?_;refine s0 (bZ (TK rfl) rfl rfl av rfl) rfl ?_;refine S As (nil ?_);refine ah.dU 4 rfl ?_;refine ah.ret ?_;repeat (first|refine bF ?_|refine bG ?_)
 obtain rfl:=oJ b;refine bn.bH H rfl ⟨rfl,rfl⟩ ?_;intro F aH W;have aI:F≠g:=fun q=>by subst q; simp_all [ai.set]
 have aJ:F≠i:=fun q=>by subst q; simp_all [ai.set]
 have aK:F≠m:=fun q=>by subst q; simp_all [ai.set]
 rw [<- W];simp only [ai.set] at W ⊢
 (repeat' split)<;>simp_all
def rC (i:Z0) (f:Bs) (j:Int):Int:=on (eT i.Fd f) fun b=>on (bif (!b.2) then cC f else false) fun g=>bif ((!b.2)&&(!g)) then((8:Int)) else(bif ((!b.2)||(!decide (b.1.an=j))) then((9:Int)) else((0:Int)))
def Ct (f:Z0) (b:Bs) (g:Int):Option Int:=some (rC f b g)
theorem Hr (a0:Z0) (b:Bs) (a2:Int):Ct a0 b a2=some (rC a0 b a2):=rfl
theorem Hs {j:Z0}{f:Bs}{k:Int}{l:Option Nat}{g:Nat}{r:Int}(b:Ct j f k=some r) (H:ai) (t:H g=some (.cells (Z0.cg l j))):AC Tryz.prog 73 [.d (.ptr g 0),.d (.str f),.d (.int .i64 k)] H fun v h'=>v=.a (.d (.int .i64 r))/\h'=H:=by
 unfold Ct rC at b;refine AC.oW 35 [.tmp 6] Tryz.call73 Tryz.func73 ?_;refine ag (S As (nil ?_));refine ag (S Mv (S NP ?_));refine s0 (bE (TK rfl) rfl rfl (TK rfl) rfl rfl) rfl ?_;refine s0 (bZ (TK rfl) rfl rfl av rfl) rfl ?_;refine S Mv ?_;obtain⟨u,m,b⟩:=vP (lT _ _) b;refine Sc rfl rfl (kz m) ?_;refine S Mv (S EX (S EX ?_));refine Sl ?_;refine Sf ?_;refine S As (nil ?_)
 refine bu 7 _ rfl (KA 1 (KA 2 (KA 8 aS.nil))) ?_;refine ay fun o i=>?_;refine block ?_;refine ag (S Mv (S NB (S Mv (G0 Mv ?_))));obtain⟨w,p,b⟩:=iu (fun _=>(ru _)) b;refine dz 22 rfl rfl rfl rfl rfl (fun hC=>ry (p hC)) ?_;refine G1 23 rfl NB ?_;refine S PA (S As (nil ?_));refine cP b (fun q b=>?_) (fun q b=>?_)
 ·refine ag (S As (nil ?_));exact rt b
 refine ag (S Mv (S NB (S Mv (G0 Fv ?_))));refine G1 30 rfl Ld ?_;refine G0 Mv ?_;refine G2 31 32 rfl rfl BI ?_;refine S PO (S As (nil ?_));refine cP b (fun s b=>?_) (fun s b=>?_)
 ·refine ag (S As (nil ?_));exact rt b
 refine sk i ?_;clear i o;refine ag (S As (nil ?_));exact rt b
def iD (b:Z0) (f:Int) (i:Bs):Option Z0:=(aW 24 b.dc (⟨false,[(Z6.mk f i)]⟩:Sl Z6)).bind fun g=>some (Z0.mk b.Fd g)
def Cu (f:Z0) (b:Int) (g:Bs):Option Z0:=iD f b g
theorem tZ (a0:Z0) (b:Int) (a2:Bs):Cu a0 b a2=iD a0 b a2:=rfl
theorem t_ {g:Z0}{k:Int}{m:Bs}{f b:Nat}{r:Z0}(j:Cu g k m=some r) (H:ai) (q:H f=some (.cells (Z0.cg (some b) g))) (s:H b=some (.tok 2 g.dc.l.length)):AC Tryz.prog 76 [.d (.ptr f 0),.d (.int .i64 k),.d (.str m)] H fun v h'=>v=.cF []/\h'=((H.set b (some (.tok 2 r.dc.l.length))).set f (some (.cells (Z0.cg (some b) r)))):=by
 unfold Cu iD at j;refine AC.oW 18 [] Tryz.call76 Tryz.func76 ?_;have t:f≠b:=fun o=>by subst o; simp_all
 refine ah.dx (h':=((H.set b (some (.tok 2 g.dc.l.length))).set f (some (.cells (Z0.cg (some b) g))))) (by funext n_; simp only [ai.set]; (repeat' split)<;>simp_all) ?_;refine region ?_;refine S Mv (S Mv (S NP ?_));refine s0 (bE (TK rfl) rfl rfl (TK rfl) rfl rfl) rfl ?_;refine s0 (bZ (TK rfl) rfl rfl av rfl) rfl ?_;refine S Mv (S Mv (S BU (S BV ?_)));obtain⟨i,p,j⟩:=qT rfl j
 refine SH (am Z6.c (TK rfl) rfl (TK rfl) (TK rfl) p) ?_;refine hq ((H.set b (some (.tok 2 i.l.length))).set f (some (.cells (Z0.cg (some b) g)))) ?_;refine S NP ?_;refine s0 (bE (TK rfl) rfl rfl (TK rfl) rfl rfl) rfl ?_;refine dA (fO (TK rfl) rfl rfl av rfl (by repeat (first|exact bJ.zero|apply bJ.succ))) rfl rfl ?_;refine hq ((H.set b (some (.tok 2 i.l.length))).set f (some (.cells (Z0.cg (some b) (Z0.mk g.Fd i))))) ?_
 refine nil ?_;repeat (first|refine ff ?_|refine fe ?_|refine fc ?_)
 obtain rfl:=oJ j;refine bn.fq ((H.set b (some (.tok 2 i.l.length))).set f (some (.cells (Z0.cg (some b) (Z0.mk g.Fd i))))) (xs:=[]) rfl ⟨rfl,rfl⟩ ?_;exact(fun _ _ h=>h)
end Go.Proofs
