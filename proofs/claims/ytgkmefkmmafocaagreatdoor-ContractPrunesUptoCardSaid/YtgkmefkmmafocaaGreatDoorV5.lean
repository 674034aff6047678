import Derived.Test.YtgkmefkmmafocaaGreatDoorV4
set_option maxRecDepth 100000
set_option maxHeartbeats 2000000
set_option linter.unusedVariables false
set_option linter.unusedSimpArgs false
namespace Go.Proofs
open Go Go.Ab
open aO aq ah aY eG
variable {az:bC}
def ym (b:(Sl Bs)) (f:(Bs->Option Bool)):Option (Sl Bs):=(j3 b f).bind fun g=>bif (decide (g=(-1:Int))) then(some b) else(none)
theorem Ks {a0:Sl Bs}{x:Int}(h:j3 a0 (fun _=>none)=some x):x = -1:=by
 unfold j3 at h;rw [k8] at h;cases hc:decide (((0:Nat):Int)<((a0.l.length:Nat):Int))
 ·rw [hc,cond_false] at h;unfold k7 at h;cases h; rfl
 rw [hc,cond_true] at h;obtain⟨b,_,h⟩:=aZ h;cases h
theorem Kt {a0:Sl Bs}{w0:Option Nat}{r:Int}(b:j3 a0 (fun _=>none)=some r) (H:ak):AC Tryz.prog 61 [.d (Sl.d 1 aI w0 a0),.d .lS] H fun v h'=>v=.a (.d (.int .i64 r))/\h'=H:=by
 unfold j3 at b;refine AC.oW 19 [.tmp 4] Tryz.call61 Tryz.func61 ?_;refine af (S As (nil ?_));refine aP kN (fun(z:Unit)=>[]) (fun z=>H) (fun z=>k7 =some r) ?_ ?_
 ·intro t k;refine af (S Mv ?_);refine sLen (f:=aI) (s:=a0) (TK rfl) rfl rfl rfl rfl fun u=>?_;refine S Mv (nil ?_);refine block ?_;refine bp (TA 0 (TA 1 (TA 7 kN))) (fun(z:Nat×Nat)=>[(8,.a (.d (.int .i64 ((z.2:Nat):Int))))]) (fun z=>H) (fun z=>z.1) (fun z=>k8 a0 (fun _=>none) z.1 z.2=some r) ((a0.l.length+1),0) b wA ?_;rintro ⟨i,m⟩ b w x;try dsimp only at b
  cases i with
  | zero=>cases b
  | succ i =>
    rw [k8] at b;refine af (S BI (nil ?_));refine ax fun o j=>?_;refine cE b (fun g b=>?_) (fun g b=>?_)
    ·try dsimp only at g
     have y:=oD g;refine sk j ?_;clear j o;refine ax fun B C=>?_;refine block ?_;refine af (S Mv (S As (nil ?_)));refine ax fun E F=>?_;refine region ?_;refine S Mv (S Mv (S Mv ?_));obtain⟨G,p,b⟩:=bO b;refine S (ix aI m p) (S Ld ?_);obtain⟨I,q,b⟩:=bO b;cases q
    refine ah.exit ?_;exact k _ () wA b
 rintro _ b;try dsimp only at b
 unfold k7 at b;refine af (S As (nil ?_));exact rt b
theorem Ku {a0:Sl Bs}{w0:Option Nat}{r:Sl Bs}(b:ym a0 (fun _=>none)=some r) (H:ak):AC Tryz.prog 69 [.d (Sl.d 1 aI w0 a0),.d .lS] H fun v h'=>v=.a (.d (Sl.d 1 aI none r))/\h'=H:=by
 unfold ym at b;refine AC.oW 42 [.tmp 4] Tryz.call69 Tryz.func69 ?_;refine af ?_;refine s0 (dc (k':=1) rfl) rfl ?_;refine nil ?_;refine af (S Mv (S Mv ?_));obtain⟨i,g,b⟩:=bO b;refine Sc rfl rfl (Kt g) ?_;refine S As (nil ?_);refine ax fun j k=>?_;refine af (S Mv (S BI (nil ?_)));refine cE b (fun f b=>?_) (fun f b=>?_)
 ·refine af (S Mv (S As (nil ?_)));refine ah.dm 4 rfl ?_;exact rt b
 rw [Ks g] at f;cases f
def Da (f:((Sl Z8)×Bool×Z2)) (g:Int) (b:ai) (i:(Sl Bs)) (j:Int)  :Option (Bool×Z2×ai):=some (((!f.2.1)&&(decide ((0:Int)<((b.aM.l.length:Nat):Int)))),(Z2.mk f.2.2.Fd (f.2.2.eT||(decide (j<g)))),(ai.mk b.ar b.aa i b.bh b.ay b.aJ b.aM))
def yo (f:((Sl Z8)×Bool×Z2)) (g:Int) (b:ai) (i:(Sl Bs)) (j:Int)  (k:Bool):Option (Bool×Z2×ai):=bif k then(some ((decide ((0:Int)<((b.ay.l.length:Nat):Int))),(Z2.mk f.2.2.Fd (f.2.2.eT||(decide (j<g)))),(ai.mk b.ar b.aa i b.bh b.ay b.aJ b.aM))) else(none)
def yp (f:((Sl Z8)×Bool×Z2)) (i:Int)  (b:ai):Option (Bool×Z2×ai):=(ym b.aW (fun _=>none)).bind fun g=>aU (!f.2.2.eT) (cA ((b.aJ.l.length:Nat):Int) ((g.l.length:Nat):Int)) (0:Int) fun j=>bif (decide (b.ar=(1:Int))) then(yo f i b g j  (decide (b.ar=(1:Int)))) else(none)
def yq (b:ai)  (g:(Sl Z7)) (i:Z2):Option (Bool×Z2×ai):=(ux i b.aM).bind fun f=>(cA ((b.aJ.l.length:Nat):Int) ((b.aW.l.length:Nat):Int)).bind fun j=>bif (decide (b.ar=(3:Int))) then(none) else(yp f j  (ai.mk b.ar b.aa b.aW b.bh g b.aJ f.1))
def yt (b:Nat) (f:(Sl Z7)->Nat->Z2->Option (Bool×Z2×ai)) (g:(Sl Z7)) (i:Z2):Option (Bool×Z2×ai):=f g (b+1) i
def rN (g:ai) :Nat->(Sl Z7)->Nat->Z2->Option (Bool×Z2×ai)
 | 0,_,_,_=>none
 | m+1,j,i,k=>bif (decide (((i:Nat):Int)<((g.ay.l.length:Nat):Int))) then((g.ay.l[i]?).bind fun b=>(ux k b.aF).bind fun f=>aU (!f.2.1) (yj f.2.2 b.aA.aa) false fun o=>bif (f.2.1||o) then(none) else((aQ 104 j (⟨false,[(Z7.mk b.aa f.1 b.aA b.bh)]⟩:Sl Z7)).bind fun p=>yt i ((rN g m)) p f.2.2)) else(yq g  j k)
def yu (f:Z2) (b:ai):Option (Bool×Z2×ai):=rN b (b.ay.l.length+1) (Sl.nil:Sl Z7) 0 f
theorem Kv {B:Z2}{i:ai}{j c1:Nat}{r:Bool×Z2×ai}(b:yu B i=some r) (H:ak) (aE:H j=some (.cells (Z2.c B))) (aF:H c1=some (.cells (ai.c i))) (aG:c1≠j):AC Tryz.prog 40 [.d (.ptr j 0),.d (.ptr c1 0)] H fun v h'=>v=.a (.d (.bool r.1))/\h'=((H.set j (some (.cells (Z2.c r.2.1)))).set c1 (some (.cells (ai.c r.2.2)))):=by
 unfold yu at b;refine AC.oW 149 [.tmp 4] Tryz.call40 Tryz.func40 ?_;refine ah.dQ (h':=((H.set j (some (.cells (Z2.c B)))).set c1 (some (.cells (ai.c i))))) (by funext n_; simp only [ak.set]; (repeat' split)<;>simp_all) ?_;refine ah.tok 5 fun m x=>?_;obtain⟨aH,x⟩:=ak.dJ x;obtain⟨aK,x⟩:=ak.dJ x;refine af (S BX (S As (nil ?_)));refine af (S As (nil ?_))
 refine ah.eH 5 5 m rfl aB ?_;refine aP (TA 1 (TA 2 kN)) (fun(z:(Sl Z7)×Z2)=>[(5,.a (.d (Sl.d 5 Z7.c (some m) z.1)))]) (fun z=>(((H.set j (some (.cells (Z2.c z.2)))).set c1 (some (.cells (ai.c i)))).set m (some (.tok 5 z.1.l.length)))) (fun z=>yq i z.1 z.2=some r) ?_ ?_
 ·intro aN N;refine af (S Mv (S NP ?_));refine s0 (bP (TK rfl) rfl rfl (TK rfl) rfl rfl) rfl ?_;refine s0 (b7 (TK rfl) rfl rfl aB rfl) rfl ?_;refine sLen (f:=Z7.c) (s:=i.ay) (TK rfl) rfl rfl rfl rfl fun aQ=>?_;refine S Mv (nil ?_);refine block ?_;refine bp (TA 1 (TA 2 (TA 14 (TA 15 kN)))) (fun(z:Nat×(Sl Z7)×Nat×Z2)=>[(5,.a (.d (Sl.d 5 Z7.c (some m) z.2.1))),(16,.a (.d (.int .i64 ((z.2.2.1:Nat):Int))))]) (fun z=>(((H.set j (some (.cells (Z2.c z.2.2.2)))).set c1 (some (.cells (ai.c i)))).set m (some (.tok 5 z.2.1.l.length)))) (fun z=>z.1) (fun z=>rN i z.1 z.2.1 z.2.2.1 z.2.2.2=some r) ((i.ay.l.length+1),(Sl.nil:Sl Z7),0,B) b wA ?_
  rintro ⟨y,J,C,O⟩ b aR P;try dsimp only at b
  cases y with
  | zero=>cases b
  | succ y =>
    rw [rN] at b;refine af (S BI (nil ?_));refine ax fun Q K=>?_;refine cE b (fun E b=>?_) (fun E b=>?_)
    ·try dsimp only at E
     have aS:=oD E;refine sk K ?_;clear K Q;refine aP (TA 1 (TA 2 (TA 14 (TA 15 (TA 16 kN))))) (fun(z:(Sl Z7)×Z2)=>[(5,.a (.d (Sl.d 5 Z7.c (some m) z.1)))]) (fun z=>(((H.set j (some (.cells (Z2.c z.2)))).set c1 (some (.cells (ai.c i)))).set m (some (.tok 5 z.1.l.length)))) (fun z=>yt C ((rN i y)) z.1 z.2=some r) ?_ ?_
     ·intro aT R;refine block ?_;refine af ?_;obtain⟨aU,U,b⟩:=bO b;refine S (ix Z7.c C U) (S Ld ?_);refine Sl ?_;refine Sf ?_;refine nil ?_;refine af (S As (nil ?_));refine af (S Ld (S FL (S LL ?_)));obtain⟨F,W,b⟩:=bO b;refine sH (bU rfl rfl (C' W _ aB)) rfl ?_;refine hq (((H.set j (some (.cells (Z2.c F.2.2)))).set c1 (some (.cells (ai.c i)))).set m (some (.tok 5 J.l.length))) ?_
      refine S Mv (S EX (S EX (S FL ?_)));refine Sf ?_;refine S As (nil ?_);refine ax fun X L=>?_;refine af (S Mv (S Mv (G0 Ld (G0 FL ?_))));refine gC rfl rfl (fun hC=>vR (k:=31) rfl (AT (TK rfl) rfl rfl (TK rfl) rfl rfl)) rfl ?_;refine gC rfl rfl (fun hC=>vR (k:=32) rfl (vt (TK rfl) rfl rfl rfl rfl)) rfl ?_;obtain⟨aV,Y,b⟩:=gO b;refine gC rfl rfl (fun hC=>aL (k:=30) rfl (aL (k:=33) rfl (sW rfl rfl (Kq (Y hC) _ aB)))) rfl ?_
      refine S PO (nil ?_);refine cE b (fun Z b=>?_) (fun Z b=>?_)
      ·cases b
      refine sk L ?_;clear L X;refine region ?_;refine S Mv (S LL (S BV ?_));obtain⟨M,ab,b⟩:=bO b;refine SH (am Z7.c (TK rfl) rfl (TK rfl) (TK rfl) ab) ?_;refine hq (((H.set j (some (.cells (Z2.c F.2.2)))).set c1 (some (.cells (ai.c i)))).set m (some (.tok 5 M.l.length))) ?_;refine S As (nil ?_);exact R _ (M,F.2.2) wA b
     rintro ⟨ad,ae⟩ b;try dsimp only at b
     unfold yt at b;refine region ?_;refine SI ?_;refine S Mv (nil ?_);exact P _ (y,ad,(C+1),ae) wA b (nS _)
    refine ah.exit ?_;exact N _ (J,O) wA b
 rintro ⟨p,ag⟩ b;try dsimp only at b
 unfold yq at b;refine af (S Mv (S Mv (S NP ?_)));refine s0 (bP (TK rfl) rfl rfl (TK rfl) rfl rfl) rfl ?_;refine aO.dm 45 rfl ?_;refine eR (gj (TK rfl) rfl rfl aB rfl (by repeat (first|exact bL.zero|apply bL.succ))) rfl rfl ?_;refine hq (((H.set j (some (.cells (Z2.c ag)))).set c1 (some (.cells (ai.c (ai.mk i.ar i.aa i.aW i.bh p i.aJ i.aM))))).set m (some (.tok 5 p.l.length))) ?_
 refine nil ?_;refine af (S As (nil ?_));refine ah.b5 (Sd Mv (Sd Ld (Sd Mv (Sd NP ?_))));refine au.s0 (bP (TK rfl) rfl rfl (TK rfl) rfl rfl) rfl ?_;refine au.s0 (b7 (TK rfl) rfl rfl aB rfl) rfl ?_;obtain⟨o,aj,b⟩:=bO b;refine au.sH (bU rfl rfl (C' aj _ aB)) rfl ?_;refine au.Dh (((H.set j (some (.cells (Z2.c o.2.2)))).set c1 (some (.cells (ai.c (ai.mk i.ar i.aa i.aW i.bh p i.aJ i.aM))))).set m (some (.tok 5 p.l.length))) ?_
 refine Sd Mv (Sd EX (Sd EX (Sd NP ?_)));refine au.s0 (bP (TK rfl) rfl rfl (TK rfl) rfl rfl) rfl ?_;refine au.eR (gj (TK rfl) rfl rfl aB rfl (by repeat (first|exact bL.zero|apply bL.succ))) rfl rfl ?_;refine au.Dh (((H.set j (some (.cells (Z2.c o.2.2)))).set c1 (some (.cells (ai.c (ai.mk i.ar i.aa i.aW i.bh p i.aJ o.1))))).set m (some (.tok 5 p.l.length))) ?_
 refine Sd As ?_;refine au.nil (by decide +kernel) ?_;refine ah.b5 (Sd Mv (Sd NP ?_));refine au.s0 (bP (TK rfl) rfl rfl (TK rfl) rfl rfl) rfl ?_;refine au.s0 (b7 (TK rfl) rfl rfl aB rfl) rfl ?_;refine au.s0 (b8 (f:=Z9.c) (s:=i.aJ) (TK rfl) rfl rfl rfl) rfl ?_;refine Sd Mv (Sd NP ?_);refine au.s0 (bP (TK rfl) rfl rfl (TK rfl) rfl rfl) rfl ?_;refine au.s0 (b7 (TK rfl) rfl rfl aB rfl) rfl ?_
 refine au.s0 (b8 (f:=aI) (s:=i.aW) (TK rfl) rfl rfl rfl) rfl ?_;obtain⟨t,al,b⟩:=bO b;refine au.s0 (eL rfl rfl al) rfl ?_;refine Sd As ?_;refine au.nil (by decide +kernel) ?_;refine aP (TA 1 (TA 2 (TA 9 (TA 10 kN)))) (fun(z:ai)=>[]) (fun z=>(((H.set j (some (.cells (Z2.c o.2.2)))).set c1 (some (.cells (ai.c z)))).set m (some (.tok 5 p.l.length)))) (fun z=>yp o t z=some r) ?_ ?_
 ·intro aX an;refine af (S Mv (S NP ?_));refine s0 (bP (TK rfl) rfl rfl (TK rfl) rfl rfl) rfl ?_;refine s0 (b7 (TK rfl) rfl rfl aB rfl) rfl ?_;refine S BI (nil ?_);refine cE b (fun ao b=>?_) (fun ao b=>?_)
  ·cases b
  refine ah.skip ?_;exact an _ (ai.mk i.ar i.aa i.aW i.bh p i.aJ o.1) wA b
 rintro g b;try dsimp only at b
 unfold yp at b;refine ah.b5 (Sd Mv (Sd Mv (Sd NP ?_)));refine au.s0 (bP (TK rfl) rfl rfl (TK rfl) rfl rfl) rfl ?_;refine au.s0 (b7 (TK rfl) rfl rfl aB rfl) rfl ?_;refine Sd Ld ?_;refine au.s0 (HS) rfl ?_;obtain⟨q,ap,b⟩:=bO b;refine ct rfl rfl (Ku ap) ?_;refine Sd NP ?_;refine au.s0 (bP (TK rfl) rfl rfl (TK rfl) rfl rfl) rfl ?_;refine au.eR (gj (TK rfl) rfl rfl aB rfl (by repeat (first|exact bL.zero|apply bL.succ))) rfl rfl ?_
 refine au.Dh (((H.set j (some (.cells (Z2.c o.2.2)))).set c1 (some (.cells (ai.c (ai.mk g.ar g.aa q g.bh g.ay g.aJ g.aM))))).set m (some (.tok 5 p.l.length))) ?_;refine au.nil (by decide +kernel) ?_;refine ah.b5 (Sd Ld (Sd Ld (Sd NP ?_)));refine au.s0 (bP (TK rfl) rfl rfl (TK rfl) rfl rfl) rfl ?_;refine au.s0 (b7 (TK rfl) rfl rfl aB rfl) rfl ?_
 refine Sd Mv (cD Mv ?_);refine cM 101 rfl NP ?_;refine au.gC rfl rfl (fun hC=>aL (k:=102) rfl (bP (TK rfl) rfl rfl (TK rfl) rfl rfl)) rfl ?_;refine au.gC rfl rfl (fun hC=>aL (k:=103) rfl (b7 (TK rfl) rfl rfl aB rfl)) rfl ?_;refine au.gC rfl rfl (fun hC=>aL (k:=104) rfl (b8 (f:=Z9.c) (s:=g.aJ) (TK rfl) rfl rfl rfl)) rfl ?_;refine cD Mv ?_;refine cM 106 rfl NP ?_
 refine au.gC rfl rfl (fun hC=>aL (k:=107) rfl (bP (TK rfl) rfl rfl (TK rfl) rfl rfl)) rfl ?_;refine au.gC rfl rfl (fun hC=>aL (k:=108) rfl (b7 (TK rfl) rfl rfl aB rfl)) rfl ?_;refine au.gC rfl rfl (fun hC=>aL (k:=109) rfl (b8 (f:=aI) (s:=q) (TK rfl) rfl rfl rfl)) rfl ?_;obtain⟨u,av,b⟩:=gO b;refine au.gC rfl rfl (fun hC=>aL (k:=105) rfl (aL (k:=110) rfl (eL rfl rfl (av hC)))) rfl ?_
 refine cD Mv ?_;refine tu 111 112 rfl rfl BI ?_;refine Sd PO (Sd NP ?_);refine au.s0 (bP (TK rfl) rfl rfl (TK rfl) rfl rfl) rfl ?_;refine au.eR (gj (TK rfl) rfl rfl aB rfl (by repeat (first|exact bL.zero|apply bL.succ))) rfl rfl ?_;refine au.Dh (((H.set j (some (.cells (Z2.c (Z2.mk o.2.2.Fd (o.2.2.eT||(decide (u<t)))))))).set c1 (some (.cells (ai.c (ai.mk g.ar g.aa q g.bh g.ay g.aJ g.aM))))).set m (some (.tok 5 p.l.length))) ?_
 refine au.nil (by decide +kernel) ?_;refine aP (TA 1 (TA 9 kN)) (fun(z:Unit)=>[]) (fun z=>(((H.set j (some (.cells (Z2.c (Z2.mk o.2.2.Fd (o.2.2.eT||(decide (u<t)))))))).set c1 (some (.cells (ai.c (ai.mk g.ar g.aa q g.bh g.ay g.aJ g.aM))))).set m (some (.tok 5 p.l.length)))) (fun z=>Da o t g q u =some r) ?_ ?_
 ·intro aZ a0;refine af (S Mv (S NP ?_));refine s0 (bP (TK rfl) rfl rfl (TK rfl) rfl rfl) rfl ?_;refine s0 (b7 (TK rfl) rfl rfl aB rfl) rfl ?_;refine nil ?_;refine block ?_;refine aP (TA 1 (TA 9 (TA 120 kN))) (fun(z:Bool)=>[(121,.a (.d (.bool z)))]) (fun z=>(((H.set j (some (.cells (Z2.c (Z2.mk o.2.2.Fd (o.2.2.eT||(decide (u<t)))))))).set c1 (some (.cells (ai.c (ai.mk g.ar g.aa q g.bh g.ay g.aJ g.aM))))).set m (some (.tok 5 p.l.length)))) (fun z=>yo o t g q u z=some r) ?_ ?_
  ·intro a1 aw;refine af (S BI (S As (nil ?_)));refine cE b (fun az b=>?_) (fun az b=>?_)
   ·refine ah.skip ?_;exact aw _ (decide (g.ar=(1:Int))) wA b
   cases b
  rintro a2 b;try dsimp only at b
  unfold yo at b;refine cE b (fun aA b=>?_) (fun aA b=>?_)
  ·refine af (S Mv (S NP ?_));refine s0 (bP (TK rfl) rfl rfl (TK rfl) rfl rfl) rfl ?_;refine s0 (b7 (TK rfl) rfl rfl aB rfl) rfl ?_;refine sLen (f:=Z7.c) (s:=g.ay) (TK rfl) rfl rfl rfl rfl fun a3=>?_;refine S BI (S As (nil ?_));refine ah.ret ?_;repeat (first|refine bE ?_|refine bF ?_)
   obtain rfl:=oJ b;refine bn.bG ((H.set j (some (.cells (Z2.c (Z2.mk o.2.2.Fd (o.2.2.eT||(decide (u<t)))))))).set c1 (some (.cells (ai.c (ai.mk g.ar g.aa q g.bh g.ay g.aJ g.aM))))) rfl ⟨rfl,rfl⟩ ?_;intro G aC w;have aD:G≠m:=fun I=>by subst I; simp_all [ak.set]
   rw [<- w];simp only [ak.set] at w ⊢
   (repeat' split)<;>simp_all
  cases b
 rintro _ b;try dsimp only at b
 unfold Da at b;refine af (S Mv (S NB (S Mv (G0 Mv ?_))));refine G1 142 rfl NP ?_;refine gC rfl rfl (fun hC=>aL (k:=143) rfl (bP (TK rfl) rfl rfl (TK rfl) rfl rfl)) rfl ?_;refine gC rfl rfl (fun hC=>aL (k:=144) rfl (b7 (TK rfl) rfl rfl aB rfl)) rfl ?_;refine gC rfl rfl (fun hC=>aL (k:=145) rfl (b8 (f:=Z8.c) (s:=g.aM) (TK rfl) rfl rfl rfl)) rfl ?_;refine G1 146 rfl BI ?_
 refine S PA (S As (nil ?_));refine ah.ret ?_;repeat (first|refine bE ?_|refine bF ?_)
 obtain rfl:=oJ b;refine bn.bG ((H.set j (some (.cells (Z2.c (Z2.mk o.2.2.Fd (o.2.2.eT||(decide (u<t)))))))).set c1 (some (.cells (ai.c (ai.mk g.ar g.aa q g.bh g.ay g.aJ g.aM))))) rfl ⟨rfl,rfl⟩ ?_;intro G aC w;have aD:G≠m:=fun I=>by subst I; simp_all [ak.set]
 rw [<- w];simp only [ak.set] at w ⊢
 (repeat' split)<;>simp_all
def oq :List ai->(Sl ai)->Z2->Option (((Sl ai)×Z2))
 | [],b,g=>some (b,g)
 | j::k,b,g=>on (j) fun l=>(yu g l).bind fun f=>Option.bind (bif f.1 then((aQ 144 b (⟨false,[f.2.2]⟩:Sl ai)).bind fun m=>some (m,f.2.1)) else(some (b,(Z2.mk f.2.1.Fd true)))) fun i=>oq  (k) i.1 i.2
def Db (f:Z2):Option Z2:=Option.bind (oq  f.Fd.an.l (Sl.nil:Sl ai) (Z2.mk f.Fd false)) fun b=>on ((b.1,b.2)) fun z3=>some (Z2.mk (aj.mk z3.1) z3.2.eT)
def uy (b:Z2):Option Z2:=Db b
theorem Dc {k:Z2}{g:Nat}{r:Z2}(b:uy k=some r) (H:ak) (ar:H g=some (.cells (Z2.c k))):AC Tryz.prog 18 [.d (.ptr g 0)] H fun v h'=>v=.dz []/\h'=(H.set g (some (.cells (Z2.c r)))):=by
 unfold uy Db at b;refine AC.oW 33 [] Tryz.call18 Tryz.func18 ?_;refine ah.dQ (h':=(H.set g (some (.cells (Z2.c k))))) (by funext n_; simp only [ak.set]; (repeat' split)<;>simp_all) ?_;refine ah.tok 7 fun i F=>?_;obtain⟨au,F⟩:=ak.dJ F;refine af (S Mv (S NP ?_));refine s0 (bP (TK rfl) rfl rfl (TK rfl) rfl rfl) rfl ?_;refine eR (gj (TK rfl) rfl rfl aB rfl (by repeat (first|exact bL.zero|apply bL.succ))) rfl rfl ?_
 refine hq ((H.set g (some (.cells (Z2.c (Z2.mk k.Fd false))))).set i (some (.tok 7 0))) ?_;refine nil ?_;refine af (S As (nil ?_));refine ah.eH 2 7 i rfl aB ?_;refine aP (TA 0 kN) (fun(z:(Sl ai)×Z2)=>[(2,.a (.d (Sl.d 7 ai.c (some i) z.1)))]) (fun z=>((H.set g (some (.cells (Z2.c z.2)))).set i (some (.tok 7 z.1.l.length)))) (fun z=>(some (Z2.mk (aj.mk z.1) z.2.eT))=some r) ?_ ?_
 ·intro av Q;refine af (S Mv (S NP ?_));refine s0 (bP (TK rfl) rfl rfl (TK rfl) rfl rfl) rfl ?_;refine s0 (bP (TK rfl) rfl rfl (TK rfl) rfl rfl) rfl ?_;refine s0 (b7 (TK rfl) rfl rfl aB rfl) rfl ?_;refine sLen (f:=ai.c) (s:=k.Fd.an) (TK rfl) rfl rfl rfl rfl fun aw=>?_;refine S Mv (nil ?_);refine block ?_;obtain⟨x,R,b⟩:=bY b;refine bp (TA 0 (TA 12 (TA 13 kN))) (fun(z:(Sl ai)×Nat×Z2)=>[(2,.a (.d (Sl.d 7 ai.c (some i) z.1))),(14,.a (.d (.int .i64 ((z.2.1:Nat):Int))))]) (fun z=>((H.set g (some (.cells (Z2.c z.2.2)))).set i (some (.tok 7 z.1.l.length)))) (fun z=>k.Fd.an.l.length-z.2.1) (fun z=>Option.bind (oq  (k.Fd.an.l.drop z.2.1) z.1 z.2.2) x=some r) ((Sl.nil:Sl ai),0,(Z2.mk k.Fd false)) b wA ?_
  rintro ⟨o,y,w⟩ b ay U;try dsimp only at b
  refine af (S BI (nil ?_));refine ax fun W G=>?_;refine ah.bK (fun l=>Option.bind (oq  l o w) x=some r) b rfl (fun az I B b=>?_) (fun B b=>?_)
  ·rw [oq] at b;try dsimp only at B
   have aA:=oD B;refine sk G ?_;clear G W;refine aP (TA 0 (TA 12 (TA 13 (TA 14 kN)))) (fun(z:(Sl ai)×Z2)=>[(2,.a (.d (Sl.d 7 ai.c (some i) z.1)))]) (fun z=>((H.set g (some (.cells (Z2.c z.2)))).set i (some (.tok 7 z.1.l.length)))) (fun z=>Option.bind (oq  (k.Fd.an.l.drop (y+1)) z.1 z.2) x=some r) ?_ ?_
   ·intro aC J;refine block ?_;refine af ?_;obtain⟨X,Y,b⟩:=vO I b;refine S (ix ai.c y Y) (S Ld ?_);refine sE (di.sR (TK rfl) rfl) rfl (fun _ _ _ ⟨p,q,Z,aa,ab⟩=>?_); subst Z aa ab;obtain⟨K,q⟩:=ak.dJ q;obtain⟨L,q⟩:=ak.dJ q;refine hq (((H.set g (some (.cells (Z2.c w)))).set i (some (.tok 7 o.l.length))).set p (some (.cells (ai.c ai.zero)))) ?_
    refine eR (qV (TK rfl) rfl rfl aB rfl (Nat.le_of_ble_eq_true rfl) rfl rfl) rfl rfl ?_;refine hq (((H.set g (some (.cells (Z2.c w)))).set i (some (.tok 7 o.l.length))).set p (some (.cells (ai.c X)))) ?_;refine nil ?_;refine af (S Mv ?_);obtain⟨m,ad,b⟩:=qO rfl b;refine sH (bU rfl rfl (Kv ad _ aB aB (by assumption))) rfl ?_;refine hq (((H.set g (some (.cells (Z2.c m.2.1)))).set i (some (.tok 7 o.l.length))).set p (some (.cells (ai.c m.2.2)))) ?_
    refine nil ?_;obtain⟨aD,M,b⟩:=dZ b;refine cO b (fun ae b=>?_) (fun ae b=>?_)
    ·refine region ?_;refine S Mv ?_;refine s0 (b7 (TK rfl) rfl rfl aB rfl) rfl ?_;refine S BV ?_;obtain⟨N,ag,b⟩:=qO rfl b;refine SH (am ai.c (TK rfl) rfl (TK rfl) (TK rfl) ag) ?_;refine hq (((H.set g (some (.cells (Z2.c m.2.1)))).set i (some (.tok 7 N.l.length))).set p (some (.cells (ai.c m.2.2)))) ?_;refine S As (nil ?_);have b:=ku M b;exact J _ (N,m.2.1) (bX.toFA (by(intro t O j); (have C:t≠p:=fun u=>by rw [u] at j; simp [ak.set,q,L,K] at j); (rw [<- j]); (simp only [ak.set,if_neg C]); (first|done|rfl))) b
    refine region ?_;refine S Mv (S NP ?_);refine s0 (bP (TK rfl) rfl rfl (TK rfl) rfl rfl) rfl ?_;refine eR (gj (TK rfl) rfl rfl aB rfl (by repeat (first|exact bL.zero|apply bL.succ))) rfl rfl ?_;refine hq (((H.set g (some (.cells (Z2.c (Z2.mk m.2.1.Fd true))))).set i (some (.tok 7 o.l.length))).set p (some (.cells (ai.c m.2.2)))) ?_;refine nil ?_;have b:=ku M b
    exact J _ (o,(Z2.mk m.2.1.Fd true)) (bX.toFA (by(intro t O j); (have C:t≠p:=fun u=>by rw [u] at j; simp [ak.set,q,L,K] at j); (rw [<- j]); (simp only [ak.set,if_neg C]); (first|done|rfl))) b
   rintro ⟨al,ao⟩ b;try dsimp only at b
   refine region ?_;refine SI ?_;refine S Mv (nil ?_);exact U _ (al,(y+1),ao) wA b (dl I)
  rw [oq] at b;have b:=ku R b;try dsimp only at b
  refine ah.exit ?_;obtain⟨aE,ap,b⟩:=bT b;have b:=ku ap b;exact Q _ (o,w) wA b
 rintro ⟨E,P⟩ b;try dsimp only at b
 refine region ?_;refine S Mv (S Mv ?_);refine aO.dm 29 rfl ?_;refine S BU (S NP ?_);refine s0 (bP (TK rfl) rfl rfl (TK rfl) rfl rfl) rfl ?_;refine eR (qV (TK rfl) rfl rfl aB rfl (Nat.le_of_ble_eq_true rfl) rfl rfl) rfl rfl ?_;refine hq ((H.set g (some (.cells (Z2.c (Z2.mk (aj.mk E) P.eT))))).set i (some (.tok 7 E.l.length))) ?_;refine nil ?_;repeat (first|refine gP ?_|refine gN ?_|refine gM ?_)
 obtain rfl:=oJ b;refine bn.gQ (H.set g (some (.cells (Z2.c (Z2.mk (aj.mk E) P.eT))))) (xs:=[]) rfl ⟨rfl,rfl⟩ ?_;intro t O j;have aF:t≠i:=fun u=>by subst u; simp_all [ak.set]
 rw [<- j];simp only [ak.set] at j ⊢
 (repeat' split)<;>simp_all
def j6 (f:Z5) (b:Bool) (g:Int) (i:Bs):Option Z5:=bif b then(none) else(some f)
theorem mC {f:Z5}{j:Bool}{k:Int}{m:Bs}{g b:Nat}{r:Z5}(i:j6 f j k m=some r) (H:ak) (q:H g=some (.cells (Z5.cg (some b) f))) (s:H b=some (.tok 2 f.b9.l.length)):AC Tryz.prog 71 [.d (.ptr g 0),.d (.bool j),.d (.int .i64 k),.d (.str m)] H fun v h'=>v=.dz []/\h'=((H.set b (some (.tok 2 r.b9.l.length))).set g (some (.cells (Z5.cg (some b) r)))):=by
 unfold j6 at i;refine AC.oW 21 [] Tryz.call71 Tryz.func71 ?_;have t:g≠b:=fun o=>by subst o; simp_all
 refine ah.dQ (h':=((H.set b (some (.tok 2 f.b9.l.length))).set g (some (.cells (Z5.cg (some b) f))))) (by funext n_; simp only [ak.set]; (repeat' split)<;>simp_all) ?_;refine af (S Mv (nil ?_));refine cE i (fun p i=>?_) (fun p i=>?_)
 ·cases i
 refine ah.skip ?_;repeat (first|refine gP ?_|refine gN ?_|refine gM ?_)
 obtain rfl:=oJ i;refine bn.gQ ((H.set b (some (.tok 2 f.b9.l.length))).set g (some (.cells (Z5.cg (some b) f)))) (xs:=[]) rfl ⟨rfl,rfl⟩ ?_;exact(fun _ _ h=>h)
def yw  :Option Bool:=some true
def uz (g:Bs) :Nat->Nat->Option Bool
 | 0,_=>none
 | i+1,f=>bif (decide (((f:Nat):Int)<((g.length:Nat):Int))) then((g[f]?).bind fun b=>bif (!(((((decide ((97:Int)<=((b.toNat:Nat):Int)))&&(decide (((b.toNat:Nat):Int)<=(122:Int))))||((decide ((65:Int)<=((b.toNat:Nat):Int)))&&(decide (((b.toNat:Nat):Int)<=(90:Int)))))||((decide ((48:Int)<=((b.toNat:Nat):Int)))&&(decide (((b.toNat:Nat):Int)<=(57:Int)))))||(decide (((b.toNat:Nat):Int)=(95:Int))))) then(none) else((uz g i) (f+1))) else(yw   )
def rO (b:Bs):Option Bool:=aU (!(((b==([]:Bs)))||(decide ((64:Int)<((b.length:Nat):Int))))) (b[0]?) (0:UInt8) fun f=>aU ((!(((b==([]:Bs)))||(decide ((64:Int)<((b.length:Nat):Int))))&&(decide ((48:Int)<=((f.toNat:Nat):Int))))) (b[0]?) (0:UInt8) fun g=>bif ((((b==([]:Bs)))||(decide ((64:Int)<((b.length:Nat):Int))))||((decide ((48:Int)<=((f.toNat:Nat):Int)))&&(decide (((g.toNat:Nat):Int)<=(57:Int))))) then(none) else(uz b (b.length+1) 0)
theorem Dd {f:Bs}{r:Bool}(b:rO f=some r) (H:ak) :AC Tryz.prog 108 [.d (.str f)] H fun v h'=>v=.a (.d (.bool r))/\h'=H:=by
 unfold rO at b;refine AC.oW 58 [.tmp 2] Tryz.call108 Tryz.func108 ?_;refine af (S As (nil ?_));refine ax fun p j=>?_;refine af (S Mv (S BS (S Mv (G0 Mv ?_))));refine gC rfl rfl (fun hC=>aL (k:=8) rfl (sQ (TK rfl) rfl rfl rfl)) rfl ?_;refine G1 9 rfl BI ?_;refine S PO (S Mv (G0 Mv ?_));obtain⟨E,q,b⟩:=gO b;refine gC rfl rfl (fun hC=>aL (k:=13) rfl (nJ (n:=0) (TK rfl) rfl rfl rfl (q hC))) rfl ?_
 refine G1 14 rfl BI ?_;refine G1 15 rfl Mv ?_;refine G0 Mv ?_;obtain⟨F,s,b⟩:=gO b;refine gC rfl rfl (fun hC=>aL (k:=17) rfl (nJ (n:=0) (TK rfl) rfl rfl rfl (s hC))) rfl ?_;refine G1 18 rfl BI ?_;refine gC rfl rfl (fun hC=>aL (k:=16) rfl (gR rfl rfl rfl)) rfl ?_;refine S PO (nil ?_);refine cE b (fun t b=>?_) (fun t b=>?_)
 ·cases b
 refine sk j ?_;clear j p;refine aP kN (fun(z:Unit)=>[]) (fun z=>H) (fun z=>yw =some r) ?_ ?_
 ·intro G u;refine af (S Mv ?_);refine o8 (TK rfl) rfl rfl rfl rfl fun I=>?_;refine S Mv (nil ?_);refine block ?_;refine bp (TA 0 (TA 23 kN)) (fun(z:Nat×Nat)=>[(24,.a (.d (.int .i64 ((z.2:Nat):Int))))]) (fun z=>H) (fun z=>z.1) (fun z=>uz f z.1 z.2=some r) ((f.length+1),0) b wA ?_;rintro ⟨g,l⟩ b J w;try dsimp only at b
  cases g with
  | zero=>cases b
  | succ g =>
    rw [uz] at b;refine af (S BI (nil ?_));refine ax fun x m=>?_;refine cE b (fun i b=>?_) (fun i b=>?_)
    ·try dsimp only at i
     have K:=oD i;refine sk m ?_;clear m x;refine ax fun y o=>?_;refine block ?_;refine af (S Mv (S As (nil ?_)));refine af (S Mv (S Mv ?_));obtain⟨L,B,b⟩:=bO b;refine s0 (nJ (n:=l) (TK rfl) rfl rfl rfl B) rfl ?_;refine S As (nil ?_);refine af (S Mv (S BI (S Mv (G0 Mv ?_))));refine G1 33 rfl BI ?_;refine S PA (S Mv (G0 Mv ?_));refine G1 37 rfl BI ?_
     refine G1 38 rfl Mv ?_;refine G0 Mv ?_;refine G1 40 rfl BI ?_;refine gC rfl rfl (fun hC=>aL (k:=39) rfl (gR rfl rfl rfl)) rfl ?_;refine S PO (S Mv (G0 Mv ?_));refine G1 45 rfl BI ?_;refine G1 46 rfl Mv ?_;refine G0 Mv ?_;refine G1 48 rfl BI ?_;refine gC rfl rfl (fun hC=>aL (k:=47) rfl (gR rfl rfl rfl)) rfl ?_;refine S PO (S Mv (G0 Mv ?_));refine G1 53 rfl BI ?_;refine S PO (S NB (nil ?_))
     refine cE b (fun C b=>?_) (fun C b=>?_)
     ·cases b
     refine sk o ?_;clear o y;refine region ?_;refine SI ?_;refine S Mv (nil ?_);exact w _ (g,(l+1)) wA b (nS _)
    refine ah.exit ?_;exact u _ () wA b
 rintro _ b;try dsimp only at b
 unfold yw at b;refine af (S As (nil ?_));exact rt b
def De (b:Bs):Option Bool:=rO b
theorem Kw (a0:Bs):rO a0=De a0:=rfl
def uA (f:Bs) (b:Bs):Bool:=on (bif (decide (((b.length:Nat):Int)<=((f.length:Nat):Int))) then(List.take (b.length) f) else([]:Bs)) fun g=>((decide (((b.length:Nat):Int)<=((f.length:Nat):Int)))&&((g==b)))
def yx (f:Bs) (b:Bs):Option Bool:=some (uA f b)
theorem Kx (a0:Bs) (b:Bs):yx a0 b=some (uA a0 b):=rfl
theorem Ky {g f:Bs}{r:Bool}(b:yx g f=some r) (H:ak) :AC Tryz.prog 161 [.d (.str g),.d (.str f)] H fun v h'=>v=.a (.d (.bool r))/\h'=H:=by
 unfold yx uA at b;refine AC.oW 18 [.tmp 4] Tryz.call161 Tryz.func161 ?_;refine af (S As (nil ?_));refine af (S Mv ?_);refine o8 (TK rfl) rfl rfl rfl rfl fun j=>?_;refine S Mv ?_;refine o8 (TK rfl) rfl rfl rfl rfl fun m=>?_;refine S BI (S Mv (G0 Mv (G0 Mv ?_)));refine gC rfl rfl (fun hC=>aL (k:=12) rfl (sQ (TK rfl) rfl rfl rfl)) rfl ?_;obtain⟨o,i,b⟩:=kG (fun hc=>Q.HU (by simp at hc; omega)) b
 refine gC rfl rfl (fun hC=>aL (k:=11) rfl (aL (k:=13) rfl (HC (l:=none) (r:=(some ((f.length:Nat):Int))) (TK rfl) rfl rfl trivial rfl (by simp) (i hC)))) rfl ?_;refine G0 Mv ?_;refine G2 14 15 rfl rfl BS ?_;refine S PA (S As (nil ?_));exact rt b
def uB (g:Bs) (b:Bs):Bool:=on (uA g b) fun f=>f
def yy (f:Bs) (b:Bs):Option Bool:=some (uB f b)
theorem Kz (a0:Bs) (b:Bs):yy a0 b=some (uB a0 b):=rfl
theorem KB {g f:Bs}{r:Bool}(b:yy g f=some r) (H:ak) :AC Tryz.prog 133 [.d (.str g),.d (.str f)] H fun v h'=>v=.a (.d (.bool r))/\h'=H:=by
 unfold yy uB at b;refine AC.oW 8 [.tmp 4] Tryz.call133 Tryz.func133 ?_;refine af (S As (nil ?_));refine af (S Mv (S Mv ?_));obtain⟨j,i,b⟩:=vP (Kx _ _) b;refine Sc rfl rfl (Ky i) ?_;refine S As (nil ?_);exact rt b
def uC (f:Bs):Bool:=on (uB f ([95,95]:Bs)) fun b=>b
def uD (b:Bs):Option Bool:=some (uC b)
theorem KC (a0:Bs):uD a0=some (uC a0):=rfl
theorem Df {f:Bs}{r:Bool}(b:uD f=some r) (H:ak) :AC Tryz.prog 109 [.d (.str f)] H fun v h'=>v=.a (.d (.bool r))/\h'=H:=by
 unfold uD uC at b;refine AC.oW 5 [.tmp 2] Tryz.call109 Tryz.func109 ?_;refine af (S As (nil ?_));refine af (S Mv ?_);obtain⟨i,g,b⟩:=vP (Kz _ _) b;refine Sc rfl rfl (KB g) ?_;refine S As (nil ?_);exact rt b
def yz  (b:(List Bs)):Option (Bool×(List Bs)):=some (false,b)
def yA (g:ai) :Nat->Nat->(List Bs)->Option (Bool×(List Bs))
 | 0,_,_=>none
 | i+1,b,f=>bif (decide (((b:Nat):Int)<((g.aM.l.length:Nat):Int))) then(none) else(yz   f)
def uE:Nat->ai->ai->Z5->(List Bs)->Option (Bool×(List Bs))
 | 0,_,_,_,_=>none
 | n+1,b,g,i,f=>yA b (b.aM.l.length+1) 0 f
def yB (n:Nat):Prop:=∀{a0:ai}{f:ai}{a2:Z5}{a3:(List Bs)}{i:Option Nat}{c2:Nat}{b:Nat}{g:Nat}{r:(Bool×(List Bs))},uE n a0 f a2 a3=some r->∀(H:ak) (j:H c2=some (.cells (Z5.cg i a2))) (k:H b=some (.map (br a3))) (l:H g=some (.cells [.func 134 [.view (ai.c f),.view [.ptr c2 0],.view [.map b],.ptr g 0]])),AC Tryz.prog 134 [.agg (ai.c a0),.d (.view (ai.c f)),.d (.view [.ptr c2 0]),.d (.view [.map b]),.d (.ptr g 0)] H fun v h'=>v=.a (.d (.bool r.1))/\h'=(H.set b (some (.map (br r.2))))
theorem KD (n:Nat) (u:yB (az:=az) n):yB (az:=az) (n+1):=by
 intro k v P o w c2 g p r b H x y B;rw [uE] at b;refine AC.oW 68 [.tmp 6] Tryz.call134 Tryz.func134 ?_;have C:g≠c2:=fun i=>by subst i; simp_all
 have E:p≠g:=fun i=>by subst i; simp_all
 refine ah.dQ (h':=(H.set g (some (.map (br o))))) (by funext n_; simp only [ak.set]; (repeat' split)<;>simp_all) ?_;refine af (S BX (S As (nil ?_)));refine aP kN (fun(z:(List Bs))=>[]) (fun z=>(H.set g (some (.map (br z))))) (fun z=>yz z=some r) ?_ ?_
 ·intro F q;refine af (S Fv (S Ld ?_));refine sLen (f:=Z8.c) (s:=k.aM) (TK rfl) rfl rfl rfl rfl fun G=>?_;refine S Mv (nil ?_);refine block ?_;refine bp (TA 1 (TA 2 (TA 3 (TA 4 (TA 12 (TA 13 kN)))))) (fun(z:Nat×Nat×(List Bs))=>[(14,.a (.d (.int .i64 ((z.2.1:Nat):Int))))]) (fun z=>(H.set g (some (.map (br z.2.2))))) (fun z=>z.1) (fun z=>yA k z.1 z.2.1 z.2.2=some r) ((k.aM.l.length+1),0,o) b wA ?_
  rintro ⟨m,I,t⟩ b J K;try dsimp only at b
  cases m with
  | zero=>cases b
  | succ m =>
    rw [yA] at b;refine af (S BI (nil ?_));refine ax fun L M=>?_;refine cE b (fun j b=>?_) (fun j b=>?_)
    ·try dsimp only at j
     have N:=oD j;cases b
    refine ah.exit ?_;exact q _ t wA b
 rintro O b;try dsimp only at b
 unfold yz at b;refine af (S As (nil ?_));exact rt b
theorem Dg:∀(n:Nat),(yB (az:=az) n)
 | 0=>fun b=>by first|cases b|(rw [uE] at b; cases b)
 | n+1=>KD n (Dg n)
def Di (f:ai) (b:ai) (g:Z5) (i:(List Bs)):Option (Bool×(List Bs)):=uE F0 f b g i
theorem KE {i f:ai}{j:Z5}{k:List Bs}{l:Option Nat}{c2 b g:Nat}{r:(Bool×(List Bs))}(m:Di i f j k=some r) (H:ak) (o:H c2=some (.cells (Z5.cg l j))) (p:H b=some (.map (br k))) (q:H g=some (.cells [.func 134 [.view (ai.c f),.view [.ptr c2 0],.view [.map b],.ptr g 0]])):AC Tryz.prog 134 [.agg (ai.c i),.d (.view (ai.c f)),.d (.view [.ptr c2 0]),.d (.view [.map b]),.d (.ptr g 0)] H fun v h'=>v=.a (.d (.bool r.1))/\h'=(H.set b (some (.map (br r.2)))):=(Dg F0) m H o p q
def Dj (g:Z5) (b:ai):Option Bool:=(Di b b g ([]:List Bs)).bind fun f=>some f.1
def yC (f:Z5) (b:ai):Option Bool:=Dj f b
theorem KF {t:Z5}{j:ai}{u:Option Nat}{i:Nat}{r:Bool}(k:yC t j=some r) (H:ak) (y:H i=some (.cells (Z5.cg u t))):AC Tryz.prog 110 [.d (.ptr i 0),.agg (ai.c j)] H fun v h'=>v=.a (.d (.bool r))/\h'=H:=by
 unfold yC Dj at k;refine AC.oW 12 [.tmp 4] Tryz.call110 Tryz.func110 ?_;refine af (S BX (S BX (S As (nil ?_))));refine af ?_;refine sE di.makeMap rfl (fun _ _ _ ⟨b,z,l,m,o⟩=>?_); subst l m o;have B:b≠i:=fun f=>by subst f; simp_all
 refine hq (H.set b (some (.map (br ([]:List Bs))))) ?_;refine Sl ?_;refine Sf ?_;refine nil ?_;refine bA 5 _ rfl (KA 2 (KA 3 aY.nil)) ?_;refine af ?_;refine sE (di.sR (TK rfl) rfl) rfl (fun _ _ _ ⟨g,p,l,m,o⟩=>?_); subst l m o;obtain⟨C,p⟩:=ak.dJ p;have E:g≠i:=fun f=>by subst f; simp_all
 refine hq ((H.set b (some (.map (br ([]:List Bs))))).set g (some (.cells [.nilFunc]))) ?_;refine nil ?_;refine af ?_;refine s0 (makeFunc rfl) rfl ?_;refine eR (gj (TK rfl) rfl rfl aB rfl (by repeat (first|exact bL.zero|apply bL.succ))) rfl rfl ?_;refine hq ((H.set b (some (.map (br ([]:List Bs))))).set g (some (.cells [.func 134 [.view (ai.c j),.view [.ptr i 0],.view [.map b],.ptr g 0]]))) ?_
 refine nil ?_;refine af ?_;refine s0 (b7 (TK rfl) rfl rfl aB rfl) rfl ?_;refine S Ld ?_;obtain⟨w,x,k⟩:=qT rfl k;refine sH (bU rfl rfl (KE x _ aB aB aB)) rfl ?_;refine hq ((H.set b (some (.map (br w.2)))).set g (some (.cells [.func 134 [.view (ai.c j),.view [.ptr i 0],.view [.map b],.ptr g 0]]))) ?_;refine S As (nil ?_);refine ah.ret ?_;repeat (first|refine bE ?_|refine bF ?_)
 obtain rfl:=oJ k;refine bn.bG H rfl ⟨rfl,rfl⟩ ?_;intro q F s;have G:q≠b:=fun f=>by subst f; simp_all [ak.set]
 have I:q≠g:=fun f=>by subst f; simp_all [ak.set]
 rw [<- s];simp only [ak.set] at s ⊢
 (repeat' split)<;>simp_all
def uF (m:Z5) (b:Bs) (g:Bs) (i:(List Bs)):Option (Z5×(List Bs)):=(De b).bind fun f=>on (bif !(!f) then uC b else false) fun j=>(j6 m ((!f)||j) (6:Int) g).bind fun k=>(j6 k (i.contains b) (7:Int) g).bind fun l=>some (l,(dO i b))
def yD (f:Z5) (b:Bs) (g:Bs) (i:(List Bs)):Option (Z5×(List Bs)):=uF f b g i
theorem KG (a0:Z5) (b:Bs) (a2:Bs) (a3:(List Bs)):yD a0 b a2 a3=uF a0 b a2 a3:=rfl
theorem KH {o:Z5}{p s:Bs}{j:List Bs}{f b g:Nat}{r:(Z5×(List Bs))}(i:yD o p s j=some r) (H:ak) (y:H f=some (.cells (Z5.cg (some b) o))) (z:H b=some (.tok 2 o.b9.l.length)) (B:H g=some (.map (br j))):AC Tryz.prog 135 [.d (.ptr f 0),.d (.str p),.d (.str s),.d (.map g)] H fun v h'=>v=.dz []/\h'=(((H.set b (some (.tok 2 r.1.b9.l.length))).set f (some (.cells (Z5.cg (some b) r.1)))).set g (some (.map (br r.2)))):=by
 unfold yD uF at i;refine AC.oW 26 [] Tryz.call135 Tryz.func135 ?_;have C:f≠b:=fun m=>by subst m; simp_all
 have E:g≠b:=fun m=>by subst m; simp_all
 have F:g≠f:=fun m=>by subst m; simp_all
 refine ah.dQ (h':=(((H.set b (some (.tok 2 o.b9.l.length))).set f (some (.cells (Z5.cg (some b) o)))).set g (some (.map (br j))))) (by funext n_; simp only [ak.set]; (repeat' split)<;>simp_all) ?_;refine af (S Mv (S Mv ?_));obtain⟨G,t,i⟩:=qT (Kw _) i;refine Sc rfl rfl (Dd t) ?_;refine S NB (S Mv (G0 Mv ?_));obtain⟨I,u,i⟩:=tj (fun _=>(KC _)) i
 refine c6 13 rfl rfl rfl rfl rfl (fun hC=>Df (u hC)) ?_;refine S PO (S Mv ?_);obtain⟨q,w,i⟩:=qT rfl i;refine sH (bU rfl rfl (mC w _ aB aB)) rfl ?_;refine hq (((H.set b (some (.tok 2 q.b9.l.length))).set f (some (.cells (Z5.cg (some b) q)))).set g (some (.map (br j)))) ?_;refine nil ?_;refine af (S Mv (S Mv (S Mv ?_)));refine s0 (tc (TK rfl) rfl (TK rfl) (TK rfl) rfl rfl rfl rfl aB) rfl ?_
 refine S Mv ?_;obtain⟨k,x,i⟩:=qT rfl i;refine sH (bU rfl rfl (mC x _ aB aB)) rfl ?_;refine hq (((H.set b (some (.tok 2 k.b9.l.length))).set f (some (.cells (Z5.cg (some b) k)))).set g (some (.map (br j)))) ?_;refine nil ?_;refine region ?_;refine S Mv (S Mv ?_);refine eR (mapUpdate (TK rfl) rfl (TK rfl) rfl rfl rfl rfl aB (vI _ _) rfl) rfl rfl ?_;refine hq (((H.set b (some (.tok 2 k.b9.l.length))).set f (some (.cells (Z5.cg (some b) k)))).set g (some (.map (br (dO j p))))) ?_
 refine nil ?_;repeat (first|refine gP ?_|refine gN ?_|refine gM ?_)
 obtain rfl:=oJ i;refine bn.gQ (((H.set b (some (.tok 2 k.b9.l.length))).set f (some (.cells (Z5.cg (some b) k)))).set g (some (.map (br (dO j p))))) (xs:=[]) rfl ⟨rfl,rfl⟩ ?_;exact(fun _ _ h=>h)
def Dk (g:aj) (b:Bs):Int:=on (mB g b) fun f=>f.1.ar
def yE (f:aj) (b:Bs):Option Int:=some (Dk f b)
theorem KI {g:aj}{f:Bs}{r:Int}(b:yE g f=some r) (H:ak) :AC Tryz.prog 143 [.agg (aj.c g),.d (.str f)] H fun v h'=>v=.a (.d (.int .i64 r))/\h'=H:=by
 unfold yE Dk at b;refine AC.oW 15 [.tmp 4] Tryz.call143 Tryz.func143 ?_;refine af (S BX (S As (nil ?_)));refine af (S Ld (S Mv ?_));obtain⟨j,i,b⟩:=vP (yh _ _) b;refine Sc rfl rfl (rM i) ?_;refine S Mv (S EX (S EX ?_));refine Sl ?_;refine Sf ?_;refine S As (nil ?_);refine bA 5 _ rfl aY.nil ?_;refine af (S Fv (S Ld (S As (nil ?_))));exact rt b
def yF (f:Z5) (b:Bs) (m:Bs) (o:Int):Option Z5:=(rL f.Fd b).bind fun g=>aU ((!g.2)) (qd b) false fun j=>bif ((!g.2)&&(!j)) then(none) else(bif (decide (o=(0:Int))) then((qd b).bind fun i=>aU ((!i)) (yE f.Fd b) (0:Int) fun k=>(j6 f ((!i)&&(decide (k=(5:Int)))) (10:Int) m).bind fun l=>some l) else(none))
theorem KJ {i:Z5}{m o:Bs}{p:Int}{g f:Nat}{r:Z5}(b:yF i m o p=some r) (H:ak) (B:H g=some (.cells (Z5.cg (some f) i))) (C:H f=some (.tok 2 i.b9.l.length)):AC Tryz.prog 136 [.d (.ptr g 0),.d (.str m),.d (.str o),.d (.int .i64 p)] H fun v h'=>v=.dz []/\h'=((H.set f (some (.tok 2 r.b9.l.length))).set g (some (.cells (Z5.cg (some f) r)))):=by
 unfold yF at b;refine AC.oW 58 [] Tryz.call136 Tryz.func136 ?_;have E:g≠f:=fun q=>by subst q; simp_all
 refine ah.dQ (h':=((H.set f (some (.tok 2 i.b9.l.length))).set g (some (.cells (Z5.cg (some f) i))))) (by funext n_; simp only [ak.set]; (repeat' split)<;>simp_all) ?_;refine af (S Mv (S NP ?_));refine s0 (bP (TK rfl) rfl rfl (TK rfl) rfl rfl) rfl ?_;refine s0 (b7 (TK rfl) rfl rfl aB rfl) rfl ?_;refine S Mv ?_;obtain⟨F,s,b⟩:=bO b;refine Sc rfl rfl (rM s) ?_
 refine S Mv (S EX (S EX ?_));refine Sl ?_;refine Sf ?_;refine S As (nil ?_);refine bA 8 _ rfl (KA 0 (KA 1 (KA 2 (KA 3 (KA 9 aY.nil))))) ?_;refine block ?_;refine af (S Mv (S NB (S Mv (G0 Mv ?_))));obtain⟨G,t,b⟩:=gO b;refine c6 33 rfl rfl rfl rfl rfl (fun hC=>uw (t hC)) ?_;refine G1 34 rfl NB ?_;refine S PA (S As (nil ?_));refine cE b (fun u b=>?_) (fun u b=>?_)
 ·cases b
 refine af (S Mv (S BI (S As (nil ?_))));refine cE b (fun w b=>?_) (fun w b=>?_)
 ·refine region ?_;refine S Mv (S Mv ?_);obtain⟨I,x,b⟩:=bO b;refine Sc rfl rfl (uw x) ?_;refine S NB (S Mv (G0 Mv ?_));refine G1 48 rfl NP ?_;refine gC rfl rfl (fun hC=>aL (k:=49) rfl (bP (TK rfl) rfl rfl (TK rfl) rfl rfl)) rfl ?_;refine gC rfl rfl (fun hC=>aL (k:=50) rfl (b7 (TK rfl) rfl rfl aB rfl)) rfl ?_;refine G0 Mv ?_;obtain⟨J,y,b⟩:=gO b;refine fu 51 52 rfl rfl rfl rfl rfl rfl (fun hC=>KI (y hC)) ?_
  refine G1 53 rfl BI ?_;refine S PA (S Mv ?_);obtain⟨j,z,b⟩:=bO b;refine sH (bU rfl rfl (mC z _ aB aB)) rfl ?_;refine hq ((H.set f (some (.tok 2 j.b9.l.length))).set g (some (.cells (Z5.cg (some f) j)))) ?_;refine nil ?_;repeat (first|refine gP ?_|refine gN ?_|refine gM ?_)
  obtain rfl:=oJ b;refine bn.gQ ((H.set f (some (.tok 2 j.b9.l.length))).set g (some (.cells (Z5.cg (some f) j)))) (xs:=[]) rfl ⟨rfl,rfl⟩ ?_;exact(fun _ _ h=>h)
 cases b
def yG (b:(Sl Z8)) :Nat->Nat->Z5->(List Bs)->Option Z5
 | 0,_,_,_=>none
 | i+1,f,g,j=>bif (decide (((f:Nat):Int)<((b.l.length:Nat):Int))) then(none) else(some g)
def yH (f:Z5) (b:(Sl Z8)) (g:Bs) (i:Bs):Option Z5:=yG b (b.l.length+1) 0 f ([]:List Bs)
theorem KK {j:Z5}{k:Sl Z8}{x y:Bs}{B:Option Nat}{i b:Nat}{r:Z5}(g:yH j k x y=some r) (H:ak) (I:H i=some (.cells (Z5.cg (some b) j))) (J:H b=some (.tok 2 j.b9.l.length)):AC Tryz.prog 113 [.d (.ptr i 0),.d (Sl.d 10 Z8.c B k),.d (.str x),.d (.str y)] H fun v h'=>v=.dz []/\h'=((H.set b (some (.tok 2 r.b9.l.length))).set i (some (.cells (Z5.cg (some b) r)))):=by
 unfold yH at g;refine AC.oW 38 [] Tryz.call113 Tryz.func113 ?_;have K:i≠b:=fun o=>by subst o; simp_all
 refine ah.dQ (h':=((H.set b (some (.tok 2 j.b9.l.length))).set i (some (.cells (Z5.cg (some b) j))))) (by funext n_; simp only [ak.set]; (repeat' split)<;>simp_all) ?_;refine af ?_;refine sE di.makeMap rfl (fun _ _ _ ⟨p,m,C,E,F⟩=>?_); subst C E F;obtain⟨L,m⟩:=ak.dJ m;obtain⟨M,m⟩:=ak.dJ m;refine hq (((H.set b (some (.tok 2 j.b9.l.length))).set i (some (.cells (Z5.cg (some b) j)))).set p (some (.map (br ([]:List Bs))))) ?_
 refine S As (nil ?_);refine af (S Mv ?_);refine sLen (f:=Z8.c) (s:=k) (TK rfl) rfl rfl rfl rfl fun N=>?_;refine S Mv (nil ?_);refine block ?_;refine bp (TA 0 (TA 2 (TA 3 (TA 8 (TA 13 (TA 14 kN)))))) (fun(z:Nat×Nat×Z5×(List Bs))=>[(15,.a (.d (.int .i64 ((z.2.1:Nat):Int))))]) (fun z=>(((H.set b (some (.tok 2 z.2.2.1.b9.l.length))).set i (some (.cells (Z5.cg (some b) z.2.2.1)))).set p (some (.map (br z.2.2.2))))) (fun z=>z.1) (fun z=>yG k z.1 z.2.1 z.2.2.1 z.2.2.2=some r) ((k.l.length+1),0,j,([]:List Bs)) g wA ?_
 rintro ⟨t,O,u,P⟩ g Q R;try dsimp only at g
 cases t with
 | zero=>cases g
 | succ t =>
   rw [yG] at g;refine af (S BI (nil ?_));refine ax fun U W=>?_;refine cE g (fun q g=>?_) (fun q g=>?_)
   ·try dsimp only at q
    have X:=oD q;cases g
   refine ah.exit ?_;repeat (first|refine gP ?_|refine gN ?_|refine gM ?_)
   obtain rfl:=oJ g;refine bn.gQ ((H.set b (some (.tok 2 u.b9.l.length))).set i (some (.cells (Z5.cg (some b) u)))) (xs:=[]) rfl ⟨rfl,rfl⟩ ?_;intro G Y w;have Z:G≠p:=fun o=>by subst o; simp_all [ak.set]
   rw [<- w];simp only [ak.set] at w ⊢
   (repeat' split)<;>simp_all
def qe (i:ai):List Z7->Z5->(List Bs)->Option (Z5)
 | [],f,j=>some f
 | l::m,f,j=>on (l) fun b=>(cr i.aa ([46]:Bs)).bind fun o=>(cr o b.aa).bind fun g=>(uF f b.aa g j).bind fun k=>(yF k.1 b.aA.aa g (0:Int)).bind fun p=>(cr g ([40]:Bs)).bind fun q=>(yH p b.aF q ([41]:Bs)).bind fun r=>qe i (m) r k.2
def Dl (g:Z5) (b:ai):Option Z5:=Option.bind (qe b b.ay.l g ([]:List Bs)) fun f=>some f
def yI (f:Z5) (b:ai):Option Z5:=Dl f b
theorem KL {j:Z5}{k:ai}{i g:Nat}{r:Z5}(b:yI j k=some r) (H:ak) (ab:H i=some (.cells (Z5.cg (some g) j))) (ad:H g=some (.tok 2 j.b9.l.length)):AC Tryz.prog 111 [.d (.ptr i 0),.agg (ai.c k)] H fun v h'=>v=.dz []/\h'=((H.set g (some (.tok 2 r.b9.l.length))).set i (some (.cells (Z5.cg (some g) r)))):=by
 unfold yI Dl at b;refine AC.oW 41 [] Tryz.call111 Tryz.func111 ?_;have ae:i≠g:=fun q=>by subst q; simp_all
 refine ah.dQ (h':=((H.set g (some (.tok 2 j.b9.l.length))).set i (some (.cells (Z5.cg (some g) j))))) (by funext n_; simp only [ak.set]; (repeat' split)<;>simp_all) ?_;refine af (S BX (nil ?_));refine af ?_;refine sE di.makeMap rfl (fun _ _ _ ⟨m,p,I,J,K⟩=>?_); subst I J K;obtain⟨ag,p⟩:=ak.dJ p;obtain⟨aj,p⟩:=ak.dJ p
 refine hq (((H.set g (some (.tok 2 j.b9.l.length))).set i (some (.cells (Z5.cg (some g) j)))).set m (some (.map (br ([]:List Bs))))) ?_;refine S As (nil ?_);refine af (S Fv (S Ld ?_));refine sLen (f:=Z7.c) (s:=k.ay) (TK rfl) rfl rfl rfl rfl fun al=>?_;refine S Mv (nil ?_);refine block ?_;obtain⟨x,L,b⟩:=bY b;refine bp (TA 0 (TA 3 (TA 4 (TA 10 (TA 11 kN))))) (fun(z:Nat×Z5×(List Bs))=>[(12,.a (.d (.int .i64 ((z.1:Nat):Int))))]) (fun z=>(((H.set g (some (.tok 2 z.2.1.b9.l.length))).set i (some (.cells (Z5.cg (some g) z.2.1)))).set m (some (.map (br z.2.2))))) (fun z=>k.ay.l.length-z.1) (fun z=>Option.bind (qe k (k.ay.l.drop z.1) z.2.1 z.2.2) x=some r) (0,j,([]:List Bs)) b wA ?_
 rintro ⟨y,t,M⟩ b am N;try dsimp only at b
 refine af (S BI (nil ?_));refine ax fun O B=>?_;refine ah.bK (fun l=>Option.bind (qe k l t M) x=some r) b rfl (fun an C u b=>?_) (fun u b=>?_)
 ·rw [qe] at b;try dsimp only at u
  have ao:=oD u;refine sk B ?_;clear B O;refine ax fun P E=>?_;refine block ?_;refine af ?_;obtain⟨ap,Q,b⟩:=vO C b;refine S (ix Z7.c y Q) (S Ld ?_);refine Sl ?_;refine Sf ?_;refine nil ?_;refine bA 6 _ rfl (KA 0 (KA 3 (KA 4 (KA 10 (KA 11 (KA 12 aY.nil)))))) ?_;refine af (S Fv (S Ld ?_));obtain⟨ar,R,b⟩:=qO rfl b;refine s0 (dP rfl rfl R) rfl ?_
  refine S Fv (S Ld ?_);obtain⟨au,U,b⟩:=qO rfl b;refine s0 (dP rfl rfl U) rfl ?_;refine S As (nil ?_);refine af (S Mv (S Fv (S Ld (S Mv (S Mv ?_)))));obtain⟨o,W,b⟩:=qO (KG _ _ _ _) b;refine sH (bU rfl rfl (KH W _ aB aB aB)) rfl ?_;refine hq (((H.set g (some (.tok 2 o.1.b9.l.length))).set i (some (.cells (Z5.cg (some g) o.1)))).set m (some (.map (br o.2)))) ?_
  refine nil ?_;refine af (S Mv (S Fv (S Fv (S Ld (S Mv ?_)))));obtain⟨F,X,b⟩:=qO rfl b;refine sH (bU rfl rfl (KJ X _ aB aB)) rfl ?_;refine hq (((H.set g (some (.tok 2 F.b9.l.length))).set i (some (.cells (Z5.cg (some g) F)))).set m (some (.map (br o.2)))) ?_;refine nil ?_;refine region ?_;refine S Mv (S Fv (S Ld (S Mv ?_)));obtain⟨av,Y,b⟩:=qO rfl b
  refine s0 (dP rfl rfl Y) rfl ?_;obtain⟨w,Z,b⟩:=qO rfl b;refine sH (bU rfl rfl (KK Z _ aB aB)) rfl ?_;refine hq (((H.set g (some (.tok 2 w.b9.l.length))).set i (some (.cells (Z5.cg (some g) w)))).set m (some (.map (br o.2)))) ?_;refine nil ?_;refine E _ ?_;clear E P;refine region ?_;refine SI ?_;refine S Mv (nil ?_);exact N _ ((y+1),w,o.2) wA b (dl C)
 rw [qe] at b;have b:=ku L b;refine ah.exit ?_;repeat (first|refine gP ?_|refine gN ?_|refine gM ?_)
 obtain rfl:=oJ b;refine bn.gQ ((H.set g (some (.tok 2 t.b9.l.length))).set i (some (.cells (Z5.cg (some g) t)))) (xs:=[]) rfl ⟨rfl,rfl⟩ ?_;intro aa aw G;have az:aa≠m:=fun q=>by subst q; simp_all [ak.set]
 rw [<- G];simp only [ak.set] at G ⊢
 (repeat' split)<;>simp_all
def yJ (j:(List Bs)) (b:ai) (f:Z5)  (g:Bool):Option (Z5×(List Bs)):=bif g then((yI f b).bind fun i=>some (i,(dO j b.aa))) else(none)
def yK (m:(List Bs)) (b:ai) (g:Z5)  (i:Bool):Option (Z5×(List Bs)):=(j6 g i (8:Int) b.aa).bind fun j=>(j6 j (((((((b.aa==([81,117,101,114,121]:Bs)))||((b.aa==([77,117,116,97,116,105,111,110]:Bs))))||((b.aa==([83,117,98,115,99,114,105,112,116,105,111,110]:Bs))))&&(!decide (b.ar=(1:Int))))||(decide (b.ar<(1:Int))))||(decide ((5:Int)<b.ar))) (9:Int) b.aa).bind fun f=>aU ((decide (b.ar=(5:Int)))) (yC f b) false fun k=>(j6 f ((decide (b.ar=(5:Int)))&&k) (5:Int) b.aa).bind fun l=>bif (decide (b.ar=(1:Int))) then(yJ m b l  (decide (b.ar=(1:Int)))) else(none)
def yL (i:(List Bs)) (b:ai) (f:Z5)  (g:Bool):Option (Z5×(List Bs)):=bif g then(yK i b f  (decide (((b.ay.l.length:Nat):Int)=(0:Int)))) else(none)
def yM (i:Z5) (j:Int) (f:(List Bs)):Option (Z5×(List Bs)):=(cI i.Fd.an.l j).bind fun b=>(rO b.aa).bind fun g=>aU (!(!g)) (uD b.aa) false fun k=>(j6 i ((!g)||k) (6:Int) b.aa).bind fun m=>aU (!(f.contains b.aa)) (qd b.aa) false fun o=>(j6 m ((f.contains b.aa)||o) (7:Int) b.aa).bind fun p=>bif (decide (b.ar=(1:Int))) then(yL f b p  (decide (b.ar=(1:Int)))) else(none)
theorem KM {t:Z5}{w:Int}{j:List Bs}{i g c2:Nat}{r:(Z5×(List Bs))}(b:yM t w j=some r) (H:ak) (Z:H i=some (.cells (Z5.cg (some g) t))) (ab:H g=some (.tok 2 t.b9.l.length)) (ad:H c2=some (.map (br j))):AC Tryz.prog 70 [.d (.ptr i 0),.d (.int .i64 w),.d (.map c2)] H fun v h'=>v=.dz []/\h'=(((H.set g (some (.tok 2 r.1.b9.l.length))).set i (some (.cells (Z5.cg (some g) r.1)))).set c2 (some (.map (br r.2)))):=by
 unfold yM at b;refine AC.oW 140 [] Tryz.call70 Tryz.func70 ?_;have ae:i≠g:=fun p=>by subst p; simp_all
 have ag:c2≠g:=fun p=>by subst p; simp_all
 have aj:c2≠i:=fun p=>by subst p; simp_all
 refine ah.dQ (h':=(((H.set g (some (.tok 2 t.b9.l.length))).set i (some (.cells (Z5.cg (some g) t)))).set c2 (some (.map (br j))))) (by funext n_; simp only [ak.set]; (repeat' split)<;>simp_all) ?_;refine af (S Mv (S NP ?_));refine s0 (bP (TK rfl) rfl rfl (TK rfl) rfl rfl) rfl ?_;refine s0 (bP (TK rfl) rfl rfl (TK rfl) rfl rfl) rfl ?_;refine s0 (b7 (TK rfl) rfl rfl aB rfl) rfl ?_
 refine S Mv ?_;obtain⟨m,C,b⟩:=bO b;refine s0 (je (f:=ai.c) (TK rfl) rfl (TK rfl) rfl rfl rfl C) rfl ?_;refine S Ld ?_;refine Sl ?_;refine Sf ?_;refine nil ?_;refine bA 6 _ rfl (KA 0 (KA 2 aY.nil)) ?_;refine ah.b5 (Sd Mv (Sd Fv (Sd Ld ?_)));obtain⟨al,E,b⟩:=bO b;refine ct rfl rfl (Dd E) ?_;refine Sd NB (Sd Mv (cD Fv ?_));refine cM 23 rfl Ld ?_;obtain⟨am,F,b⟩:=gO b
 refine l7 24 rfl rfl rfl rfl rfl (fun hC=>Df (F hC)) ?_;refine Sd PO (Sd Fv (Sd Ld ?_));obtain⟨x,G,b⟩:=bO b;refine au.sH (bU rfl rfl (mC G _ aB aB)) rfl ?_;refine au.Dh (((H.set g (some (.tok 2 x.b9.l.length))).set i (some (.cells (Z5.cg (some g) x)))).set c2 (some (.map (br j)))) ?_;refine au.nil (by decide +kernel) ?_;refine ah.b5 (Sd Mv (Sd Mv (Sd Fv (Sd Ld ?_))))
 refine au.s0 (tc (TK rfl) rfl (TK rfl) (TK rfl) rfl rfl rfl rfl aB) rfl ?_;refine Sd Mv (cD Fv ?_);refine cM 36 rfl Ld ?_;obtain⟨an,I,b⟩:=gO b;refine l7 37 rfl rfl rfl rfl rfl (fun hC=>uw (I hC)) ?_;refine Sd PO (Sd Fv (Sd Ld ?_));obtain⟨o,J,b⟩:=bO b;refine au.sH (bU rfl rfl (mC J _ aB aB)) rfl ?_;refine au.Dh (((H.set g (some (.tok 2 o.b9.l.length))).set i (some (.cells (Z5.cg (some g) o)))).set c2 (some (.map (br j)))) ?_
 refine au.nil (by decide +kernel) ?_;refine af (S Mv (S Fv (S Ld ?_)));refine eR (mapUpdate (TK rfl) rfl (TK rfl) rfl rfl rfl rfl aB (vI _ _) rfl) rfl rfl ?_;refine hq (((H.set g (some (.tok 2 o.b9.l.length))).set i (some (.cells (Z5.cg (some g) o)))).set c2 (some (.map (br (dO j m.aa))))) ?_;refine nil ?_;refine af (S As (nil ?_));refine aP (TA 0 (TA 6 kN)) (fun(z:Bool)=>[(7,.a (.d (.bool z)))]) (fun z=>(((H.set g (some (.tok 2 o.b9.l.length))).set i (some (.cells (Z5.cg (some g) o)))).set c2 (some (.map (br (dO j m.aa)))))) (fun z=>yK j m o z=some r) ?_ ?_
 ·intro ao K;refine af (S Fv (S Ld (nil ?_)));refine block ?_;refine aP (TA 0 (TA 6 (TA 7 (TA 47 kN)))) (fun(z:Bool)=>[(48,.a (.d (.bool z)))]) (fun z=>(((H.set g (some (.tok 2 o.b9.l.length))).set i (some (.cells (Z5.cg (some g) o)))).set c2 (some (.map (br (dO j m.aa)))))) (fun z=>yL j m o z=some r) ?_ ?_
  ·intro ap L;refine af (S BI (S As (nil ?_)));refine cE b (fun M b=>?_) (fun M b=>?_)
   ·refine ah.skip ?_;exact L _ (decide (m.ar=(1:Int))) wA b
   cases b
  rintro av b;try dsimp only at b
  unfold yL at b;refine cE b (fun N b=>?_) (fun N b=>?_)
  ·refine region ?_;refine S Fv (S Ld ?_);refine sLen (f:=Z7.c) (s:=m.ay) (TK rfl) rfl rfl rfl rfl fun aw=>?_;refine S BI (S As (nil ?_));exact K _ (decide (((m.ay.l.length:Nat):Int)=(0:Int))) wA b
  cases b
 rintro ax b;try dsimp only at b
 unfold yK at b;refine af (S Mv (S Mv (S Fv (S Ld ?_))));obtain⟨y,O,b⟩:=bO b;refine sH (bU rfl rfl (mC O _ aB aB)) rfl ?_;refine hq (((H.set g (some (.tok 2 y.b9.l.length))).set i (some (.cells (Z5.cg (some g) y)))).set c2 (some (.map (br (dO j m.aa))))) ?_;refine nil ?_;refine af (S Fv (S Ld (S BS (S Mv (G0 Fv ?_)))));refine G1 77 rfl Ld ?_
 refine G1 78 rfl BS ?_;refine S PO (S Mv (G0 Fv ?_));refine G1 82 rfl Ld ?_;refine G1 83 rfl BS ?_;refine S PO (S As (nil ?_));refine af (S Mv (S Mv (S Mv (G0 Fv ?_))));refine G1 89 rfl Ld ?_;refine G1 90 rfl BI ?_;refine S PA (S Mv (G0 Fv ?_));refine G1 94 rfl Ld ?_;refine G1 95 rfl BI ?_;refine S PO (S Mv (G0 Fv ?_));refine G1 99 rfl Ld ?_;refine G1 100 rfl BI ?_;refine S PO (S Fv (S Ld ?_));obtain⟨B,P,b⟩:=bO b
 refine sH (bU rfl rfl (mC P _ aB aB)) rfl ?_;refine hq (((H.set g (some (.tok 2 B.b9.l.length))).set i (some (.cells (Z5.cg (some g) B)))).set c2 (some (.map (br (dO j m.aa))))) ?_;refine nil ?_;refine ah.b5 (Sd Mv (Sd Fv (Sd Ld (Sd BI (Sd Mv (cD Mv (cD Ld ?_)))))));obtain⟨az,Q,b⟩:=gO b;refine au.gC rfl rfl (fun hC=>aL (k:=111) rfl (aL (k:=112) rfl (sW rfl rfl (KF (Q hC) _ aB)))) rfl ?_
 refine Sd PA (Sd Fv (Sd Ld ?_));obtain⟨q,R,b⟩:=bO b;refine au.sH (bU rfl rfl (mC R _ aB aB)) rfl ?_;refine au.Dh (((H.set g (some (.tok 2 q.b9.l.length))).set i (some (.cells (Z5.cg (some g) q)))).set c2 (some (.map (br (dO j m.aa))))) ?_;refine au.nil (by decide +kernel) ?_;refine af (S Fv (S Ld (nil ?_)));refine block ?_;refine aP (TA 0 (TA 6 (TA 119 kN))) (fun(z:Bool)=>[(120,.a (.d (.bool z)))]) (fun z=>(((H.set g (some (.tok 2 q.b9.l.length))).set i (some (.cells (Z5.cg (some g) q)))).set c2 (some (.map (br (dO j m.aa)))))) (fun z=>yJ j m q z=some r) ?_ ?_
 ·intro aA U;refine af (S BI (S As (nil ?_)));refine cE b (fun W b=>?_) (fun W b=>?_)
  ·refine ah.skip ?_;exact U _ (decide (m.ar=(1:Int))) wA b
  cases b
 rintro aC b;try dsimp only at b
 unfold yJ at b;refine cE b (fun X b=>?_) (fun X b=>?_)
 ·refine region ?_;refine S Mv (S Ld ?_);obtain⟨u,Y,b⟩:=bO b;refine sH (bU rfl rfl (KL Y _ aB aB)) rfl ?_;refine hq (((H.set g (some (.tok 2 u.b9.l.length))).set i (some (.cells (Z5.cg (some g) u)))).set c2 (some (.map (br (dO j m.aa))))) ?_;refine nil ?_;repeat (first|refine gP ?_|refine gN ?_|refine gM ?_)
  obtain rfl:=oJ b;refine bn.gQ (((H.set g (some (.tok 2 u.b9.l.length))).set i (some (.cells (Z5.cg (some g) u)))).set c2 (some (.map (br (dO j m.aa))))) (xs:=[]) rfl ⟨rfl,rfl⟩ ?_;exact(fun _ _ h=>h)
 cases b
def yN  (b:Z5):Option (Sl Z6):=some b.b9
def yO (i:aj) (b:Bool)  (f:Z5) (j:(List Bs)):Option (Sl Z6):=(rL i ([81,117,101,114,121]:Bs)).bind fun g=>bif (b&&(!g.2)) then(none) else(yN   f)
def uG (f:aj) (g:Bool) :Nat->Nat->Z5->(List Bs)->Option (Sl Z6)
 | 0,_,_,_=>none
 | m+1,b,i,j=>bif (decide (((b:Nat):Int)<((f.an.l.length:Nat):Int))) then((yM i ((b:Nat):Int) j).bind fun k=>(uG f g m) (b+1) k.1 k.2) else(yO f g  i j)
def yP (b:aj) (f:Bool):Option (Sl Z6):=uG b f (b.an.l.length+1) 0 (Z5.mk b (Sl.nil:Sl Z6)) ([]:List Bs)
theorem KN {i:aj}{q:Bool}{r:Sl Z6}(b:yP i q=some r) (H:ak) :AC Tryz.prog 41 [.agg (aj.c i),.d (.bool q)] H fun v h'=>v=.a (.d (Sl.d 2 Z6.c none r))/\h'=H:=by
 unfold yP at b;refine AC.oW 41 [.tmp 4] Tryz.call41 Tryz.func41 ?_;refine af (S BX ?_);refine s0 (dc (k':=2) rfl) rfl ?_;refine nil ?_;refine af (S Ld (S BU ?_));refine aO.tok 2 fun g ab=>?_;refine sE (di.sS rfl) rfl (fun _ _ _ ⟨k,G,x,y,B⟩=>?_); subst x y B;obtain⟨ad,G⟩:=ak.dJ G;refine aO.gp k _ aB (fun j w cs hh hx=>tok_cell 1 2 2 hh (t:=g) aB hx rfl) ?_
 refine hq ((H.set g (some (.tok 2 0))).set k (some (.cells (Z5.cg (some g) (Z5.mk i (Sl.nil:Sl Z6)))))) ?_;refine S As (nil ?_);refine af ?_;refine sE di.makeMap rfl (fun _ _ _ ⟨m,u,x,y,B⟩=>?_); subst x y B;obtain⟨ae,u⟩:=ak.dJ u;obtain⟨ag,u⟩:=ak.dJ u;refine hq (((H.set g (some (.tok 2 0))).set k (some (.cells (Z5.cg (some g) (Z5.mk i (Sl.nil:Sl Z6)))))).set m (some (.map (br ([]:List Bs))))) ?_
 refine S As (nil ?_);refine aP (TA 1 (TA 2 (TA 5 kN))) (fun(z:Z5×(List Bs))=>[]) (fun z=>(((H.set g (some (.tok 2 z.1.b9.l.length))).set k (some (.cells (Z5.cg (some g) z.1)))).set m (some (.map (br z.2))))) (fun z=>yO i q z.1 z.2=some r) ?_ ?_
 ·intro al L;refine af (S Fv (S Ld ?_));refine sLen (f:=ai.c) (s:=i.an) (TK rfl) rfl rfl rfl rfl fun am=>?_;refine S Mv (nil ?_);refine block ?_;refine bp (TA 1 (TA 2 (TA 5 (TA 6 (TA 16 kN))))) (fun(z:Nat×Nat×Z5×(List Bs))=>[(17,.a (.d (.int .i64 ((z.2.1:Nat):Int))))]) (fun z=>(((H.set g (some (.tok 2 z.2.2.1.b9.l.length))).set k (some (.cells (Z5.cg (some g) z.2.2.1)))).set m (some (.map (br z.2.2.2))))) (fun z=>z.1) (fun z=>uG i q z.1 z.2.1 z.2.2.1 z.2.2.2=some r) ((i.an.l.length+1),0,(Z5.mk i (Sl.nil:Sl Z6)),([]:List Bs)) b wA ?_
  rintro ⟨C,M,N,O⟩ b ao P;try dsimp only at b
  cases C with
  | zero=>cases b
  | succ C =>
    rw [uG] at b;refine af (S BI (nil ?_));refine ax fun Q I=>?_;refine cE b (fun E b=>?_) (fun E b=>?_)
    ·try dsimp only at E
     have ap:=oD E;refine sk I ?_;clear I Q;refine ax fun R J=>?_;refine block ?_;refine af (S Mv (S As (nil ?_)));refine region ?_;refine S Mv (S Mv (S Mv ?_));obtain⟨o,U,b⟩:=bO b;refine sH (bU rfl rfl (KM U _ aB aB aB)) rfl ?_;refine hq (((H.set g (some (.tok 2 o.1.b9.l.length))).set k (some (.cells (Z5.cg (some g) o.1)))).set m (some (.map (br o.2)))) ?_
     refine nil ?_;refine J _ ?_;clear J R;refine region ?_;refine SI ?_;refine S Mv (nil ?_);exact P _ (C,(M+1),o.1,o.2) wA b (nS _)
    refine ah.exit ?_;exact L _ (N,O) wA b
 rintro ⟨W,X⟩ b;try dsimp only at b
 unfold yO at b;refine aP (TA 5 kN) (fun(z:Z5)=>[]) (fun z=>(((H.set g (some (.tok 2 z.b9.l.length))).set k (some (.cells (Z5.cg (some g) z)))).set m (some (.map (br X))))) (fun z=>yN z=some r) ?_ ?_
 ·intro ar Y;refine af (S Ld ?_);obtain⟨au,Z,b⟩:=bO b;refine Sc rfl rfl (rM Z) ?_;refine S Mv (S EX (S EX ?_));refine Sl ?_;refine Sf ?_;refine S As (nil ?_);refine bA 8 _ rfl (KA 1 (KA 5 (KA 9 aY.nil))) ?_;refine af (S Mv (S Mv (G0 Mv ?_)));refine G1 32 rfl NB ?_;refine S PA (nil ?_);refine cE b (fun aa b=>?_) (fun aa b=>?_)
  ·cases b
  refine ah.skip ?_;exact Y _ W wA b
 rintro av b;try dsimp only at b
 unfold yN at b;refine af (S Mv (S NP ?_));refine s0 (bP (TK rfl) rfl rfl (TK rfl) rfl rfl) rfl ?_;refine s0 (b7 (TK rfl) rfl rfl aB rfl) rfl ?_;refine S As (nil ?_);refine ah.dm 4 rfl ?_;refine ah.ret ?_;repeat (first|refine bE ?_|refine bF ?_)
 obtain rfl:=oJ b;refine bn.bG H rfl ⟨rfl,rfl⟩ ?_;intro F aw K;have ay:F≠g:=fun p=>by subst p; simp_all [ak.set]
 have az:F≠k:=fun p=>by subst p; simp_all [ak.set]
 have aA:F≠m:=fun p=>by subst p; simp_all [ak.set]
 rw [<- K];simp only [ak.set] at K ⊢
 (repeat' split)<;>simp_all
def yQ (b:ai) :Nat->Nat->Z0->Option Z0
 | 0,_,_=>none
 | n4+1,f,g=>bif (decide (((f:Nat):Int)<((b.aW.l.length:Nat):Int))) then(none) else(some g)
def yR (f:Z0) (b:ai):Option Z0:=yQ b (b.aW.l.length+1) 0 f
theorem KO {j:Z0}{k:ai}{i b:Nat}{r:Z0}(g:yR j k=some r) (H:ak) (q:H i=some (.cells (Z0.cg (some b) j))) (t:H b=some (.tok 2 j.iv.l.length)):AC Tryz.prog 72 [.d (.ptr i 0),.agg (ai.c k)] H fun v h'=>v=.dz []/\h'=((H.set b (some (.tok 2 r.iv.l.length))).set i (some (.cells (Z0.cg (some b) r)))):=by
 unfold yR at g;refine AC.oW 51 [] Tryz.call72 Tryz.func72 ?_;have u:i≠b:=fun p=>by subst p; simp_all
 refine ah.dQ (h':=((H.set b (some (.tok 2 j.iv.l.length))).set i (some (.cells (Z0.cg (some b) j))))) (by funext n_; simp only [ak.set]; (repeat' split)<;>simp_all) ?_;refine af (S BX (nil ?_));refine af (S Fv (S Ld ?_));refine sLen (f:=aI) (s:=k.aW) (TK rfl) rfl rfl rfl rfl fun w=>?_;refine S Mv (nil ?_);refine block ?_;refine bp (TA 0 (TA 3 (TA 10 (TA 11 kN)))) (fun(z:Nat×Nat×Z0)=>[(12,.a (.d (.int .i64 ((z.2.1:Nat):Int))))]) (fun z=>((H.set b (some (.tok 2 z.2.2.iv.l.length))).set i (some (.cells (Z0.cg (some b) z.2.2))))) (fun z=>z.1) (fun z=>yQ k z.1 z.2.1 z.2.2=some r) ((k.aW.l.length+1),0,j) g wA ?_
 rintro ⟨n4,x,o⟩ g y B;try dsimp only at g
 cases n4 with
 | zero=>cases g
 | succ n4 =>
   rw [yQ] at g;refine af (S BI (nil ?_));refine ax fun C E=>?_;refine cE g (fun m g=>?_) (fun m g=>?_)
   ·try dsimp only at m
    have F:=oD m;cases g
   refine ah.exit ?_;repeat (first|refine gP ?_|refine gN ?_|refine gM ?_)
   obtain rfl:=oJ g;refine bn.gQ ((H.set b (some (.tok 2 o.iv.l.length))).set i (some (.cells (Z0.cg (some b) o)))) (xs:=[]) rfl ⟨rfl,rfl⟩ ?_;exact(fun _ _ h=>h)
def yS  (b:Z0):Option (Sl Z6):=some b.iv
def yT (b:Nat) (f:Nat->Z0->Option (Sl Z6)) (g:Z0):Option (Sl Z6):=f (b+1) g
def rP (f:aj) :Nat->Nat->Z0->Option (Sl Z6)
 | 0,_,_=>none
 | j+1,b,g=>bif (decide (((b:Nat):Int)<((f.an.l.length:Nat):Int))) then((f.an.l[b]?).bind fun i=>bif (decide (i.ar=(1:Int))) then((yR g i).bind fun k=>yT b ((rP f j)) k) else(none)) else(yS   g)
def yU (b:aj):Option (Sl Z6):=rP b (b.an.l.length+1) 0 (Z0.mk b (Sl.nil:Sl Z6))
theorem KP {i:aj}{r:Sl Z6}(b:yU i=some r) (H:ak){g:Nat}(U:H g=some (.tok 2 0)):AC Tryz.prog 42 [.agg (aj.c i)] H fun v h'=>v=.a (.d (Sl.d 2 Z6.c (some g) r))/\h'=H.set g (some (.tok 2 r.l.length)):=by
 unfold yU at b;refine AC.oW 67 [.tmp 2] Tryz.call42 Tryz.func42 ?_;refine ah.dQ (h':=(H.set g (some (.tok 2 0)))) (by funext n_; simp only [ak.set]; (repeat' split)<;>simp_all) ?_;refine af (S BX (S As (nil ?_)));refine af (S Ld (S BU ?_));refine sE (di.sS rfl) rfl (fun _ _ _ ⟨k,u,B,C,E⟩=>?_); subst B C E;obtain⟨W,u⟩:=ak.dJ u
 refine aO.gp k _ aB (fun j w cs hh hx=>tok_cell 1 2 2 hh (t:=g) aB hx rfl) ?_;refine hq ((H.set g (some (.tok 2 0))).set k (some (.cells (Z0.cg (some g) (Z0.mk i (Sl.nil:Sl Z6)))))) ?_;refine S As (nil ?_);refine aP (TA 3 kN) (fun(z:Z0)=>[]) (fun z=>((H.set g (some (.tok 2 z.iv.l.length))).set k (some (.cells (Z0.cg (some g) z))))) (fun z=>yS z=some r) ?_ ?_
 ·intro X F;refine af (S Fv (S Ld ?_));refine sLen (f:=ai.c) (s:=i.an) (TK rfl) rfl rfl rfl rfl fun Y=>?_;refine S Mv (nil ?_);refine block ?_;refine bp (TA 3 (TA 13 (TA 14 kN))) (fun(z:Nat×Nat×Z0)=>[(15,.a (.d (.int .i64 ((z.2.1:Nat):Int))))]) (fun z=>((H.set g (some (.tok 2 z.2.2.iv.l.length))).set k (some (.cells (Z0.cg (some g) z.2.2))))) (fun z=>z.1) (fun z=>rP i z.1 z.2.1 z.2.2=some r) ((i.an.l.length+1),0,(Z0.mk i (Sl.nil:Sl Z6))) b wA ?_
  rintro ⟨m,o,G⟩ b Z I;try dsimp only at b
  cases m with
  | zero=>cases b
  | succ m =>
    rw [rP] at b;refine af (S BI (nil ?_));refine ax fun J x=>?_;refine cE b (fun p b=>?_) (fun p b=>?_)
    ·try dsimp only at p
     have aa:=oD p;refine sk x ?_;clear x J;refine aP (TA 3 (TA 13 (TA 14 (TA 15 kN)))) (fun(z:Z0)=>[]) (fun z=>((H.set g (some (.tok 2 z.iv.l.length))).set k (some (.cells (Z0.cg (some g) z))))) (fun z=>yT o ((rP i m)) z=some r) ?_ ?_
     ·intro ab K;refine block ?_;refine af ?_;obtain⟨ad,L,b⟩:=bO b;refine S (ix ai.c o L) (S Ld ?_);refine Sl ?_;refine Sf ?_;refine nil ?_;refine bA 5 _ rfl (KA 3 (KA 13 (KA 14 (KA 15 aY.nil)))) ?_;refine af (S Fv (S Ld (nil ?_)));refine block ?_;refine af (S BI (S As (nil ?_)));refine cE b (fun M b=>?_) (fun M b=>?_)
      ·refine region ?_;refine S Mv (S Ld ?_);obtain⟨q,N,b⟩:=bO b;refine sH (bU rfl rfl (KO N _ aB aB)) rfl ?_;refine hq ((H.set g (some (.tok 2 q.iv.l.length))).set k (some (.cells (Z0.cg (some g) q)))) ?_;refine nil ?_;exact K _ q wA b
      cases b
     rintro O b;try dsimp only at b
     unfold yT at b;refine region ?_;refine SI ?_;refine S Mv (nil ?_);exact I _ (m,(o+1),O) wA b (nS _)
    refine ah.exit ?_;exact F _ G wA b
 rintro P b;try dsimp only at b
 unfold yS at b;refine af (S Mv (S NP ?_));refine s0 (bP (TK rfl) rfl rfl (TK rfl) rfl rfl) rfl ?_;refine s0 (b7 (TK rfl) rfl rfl aB rfl) rfl ?_;refine S As (nil ?_);refine ah.ret ?_;repeat (first|refine bE ?_|refine bF ?_)
 obtain rfl:=oJ b;refine bn.bG (H.set g (some (.tok 2 P.iv.l.length))) rfl ⟨rfl,rfl⟩ ?_;intro Q ae y;have ag:Q≠k:=fun R=>by subst R; simp_all [ak.set]
 rw [<- y];simp only [ak.set] at y ⊢
 (repeat' split)<;>simp_all
def yV  (b:(Sl Z6)):Option (Sl Z6):=some b
def yW (b:Nat) (f:Nat->(Sl Z6)->Option (Sl Z6)) (g:(Sl Z6)):Option (Sl Z6):=f (b+1) g
def yX (b:Nat) (f:ai) (g:Nat->(Sl Z6)->Option (Sl Z6)):Nat->Nat->(Sl Z6)->Option (Sl Z6)
 | 0,_,_=>none
 | k+1,i,j=>bif (decide (((i:Nat):Int)<((f.aM.l.length:Nat):Int))) then(none) else(yW b g j)
def yY (f:Nat) (b:ai) (g:Nat->(Sl Z6)->Option (Sl Z6)) (i:(Sl Z6)):Option (Sl Z6):=yX f b g (b.aM.l.length+1) 0 i
def yZ (b:Nat) (f:Nat->(Sl Z6)->Option (Sl Z6)) (g:(Sl Z6)):Option (Sl Z6):=f (b+1) g
def y2 (b:Nat) (f:Z7) (g:Nat->(Sl Z6)->Option (Sl Z6)):Nat->Nat->(Sl Z6)->Option (Sl Z6)
 | 0,_,_=>none
 | k+1,i,j=>bif (decide (((i:Nat):Int)<((f.aF.l.length:Nat):Int))) then(none) else(yZ b g j)
def qf (g:Nat) (b:ai) (i:Nat->(Sl Z6)->Option (Sl Z6)):Nat->Nat->(Sl Z6)->Option (Sl Z6)
 | 0,_,_=>none
 | m+1,f,j=>bif (decide (((f:Nat):Int)<((b.ay.l.length:Nat):Int))) then((b.ay.l[f]?).bind fun k=>y2 f k ((qf g b i m)) (k.aF.l.length+1) 0 j) else(yY g b i j)
def j7 (f:aj) :Nat->Nat->(Sl Z6)->Option (Sl Z6)
 | 0,_,_=>none
 | j+1,b,g=>bif (decide (((b:Nat):Int)<((f.an.l.length:Nat):Int))) then((f.an.l[b]?).bind fun i=>qf b i ((j7 f j)) (i.ay.l.length+1) 0 g) else(yV   g)
def y3 (b:aj):Option (Sl Z6):=j7 b (b.an.l.length+1) 0 (Sl.nil:Sl Z6)
theorem KQ {k:aj}{r:Sl Z6}(b:y3 k=some r) (H:ak) :AC Tryz.prog 43 [.agg (aj.c k)] H fun v h'=>v=.a (.d (Sl.d 2 Z6.c none r))/\h'=H:=by
 unfold y3 at b;refine AC.oW 70 [.tmp 2] Tryz.call43 Tryz.func43 ?_;refine af (S BX ?_);refine s0 (dc (k':=2) rfl) rfl ?_;refine nil ?_;refine af ?_;refine aO.tok 2 fun g av=>?_;refine sE (di.sR (TK rfl) rfl) rfl (fun _ _ _ ⟨i,G,Q,R,U⟩=>?_); subst Q R U;obtain⟨aw,G⟩:=ak.dJ G;refine aO.gp i _ aB (fun j w cs hh hx=>tok_cell 0 2 2 hh (t:=g) aB hx rfl) ?_
 refine hq ((H.set g (some (.tok 2 0))).set i (some (.cells ([Sl.d 2 Z6.c (some g) (Sl.nil:Sl Z6)])))) ?_;refine nil ?_;refine af ?_;refine s0 (makeFunc rfl) rfl ?_;refine S As (nil ?_);refine aP (TA 3 kN) (fun(z:(Sl Z6))=>[]) (fun z=>((H.set g (some (.tok 2 z.l.length))).set i (some (.cells ([Sl.d 2 Z6.c (some g) z]))))) (fun z=>yV z=some r) ?_ ?_
 ·intro az W;refine af (S Fv (S Ld ?_));refine sLen (f:=ai.c) (s:=k.an) (TK rfl) rfl rfl rfl rfl fun aA=>?_;refine S Mv (nil ?_);refine block ?_;refine bp (TA 3 (TA 4 (TA 15 (TA 16 kN)))) (fun(z:Nat×Nat×(Sl Z6))=>[(17,.a (.d (.int .i64 ((z.2.1:Nat):Int))))]) (fun z=>((H.set g (some (.tok 2 z.2.2.l.length))).set i (some (.cells ([Sl.d 2 Z6.c (some g) z.2.2]))))) (fun z=>z.1) (fun z=>j7 k z.1 z.2.1 z.2.2=some r) ((k.an.l.length+1),0,(Sl.nil:Sl Z6)) b wA ?_
  rintro ⟨m,p,I⟩ b aC X;try dsimp only at b
  cases m with
  | zero=>cases b
  | succ m =>
    rw [j7] at b;refine af (S BI (nil ?_));refine ax fun Y J=>?_;refine cE b (fun x b=>?_) (fun x b=>?_)
    ·try dsimp only at x
     have aD:=oD x;refine sk J ?_;clear J Y;refine aP (TA 3 (TA 4 (TA 15 (TA 16 (TA 17 kN))))) (fun(z:(Sl Z6))=>[]) (fun z=>((H.set g (some (.tok 2 z.l.length))).set i (some (.cells ([Sl.d 2 Z6.c (some g) z]))))) (fun z=>yW p ((j7 k m)) z=some r) ?_ ?_
     ·intro aE Z;refine block ?_;refine af ?_;obtain⟨o,aa,b⟩:=bO b;refine S (ix ai.c p aa) (S Ld ?_);refine Sl ?_;refine Sf ?_;refine nil ?_;refine bA 6 _ rfl (KA 3 (KA 4 (KA 15 (KA 16 (KA 17 aY.nil))))) ?_;refine aP (TA 3 (TA 4 (TA 6 (TA 15 (TA 16 (TA 17 kN)))))) (fun(z:(Sl Z6))=>[]) (fun z=>((H.set g (some (.tok 2 z.l.length))).set i (some (.cells ([Sl.d 2 Z6.c (some g) z]))))) (fun z=>yY p o ((j7 k m)) z=some r) ?_ ?_
      ·intro aG ab;refine af (S Fv (S Ld ?_));refine sLen (f:=Z7.c) (s:=o.ay) (TK rfl) rfl rfl rfl rfl fun aH=>?_;refine S Mv (nil ?_);refine block ?_;refine bp (TA 3 (TA 4 (TA 6 (TA 15 (TA 16 (TA 17 (TA 22 (TA 23 kN)))))))) (fun(z:Nat×Nat×(Sl Z6))=>[(24,.a (.d (.int .i64 ((z.2.1:Nat):Int))))]) (fun z=>((H.set g (some (.tok 2 z.2.2.l.length))).set i (some (.cells ([Sl.d 2 Z6.c (some g) z.2.2]))))) (fun z=>z.1) (fun z=>qf p o ((j7 k m)) z.1 z.2.1 z.2.2=some r) ((o.ay.l.length+1),0,I) b wA ?_
       rintro ⟨q,u,K⟩ b aI ad;try dsimp only at b
       cases q with
       | zero=>cases b
       | succ q =>
         rw [qf] at b;refine af (S BI (nil ?_));refine ax fun ae L=>?_;refine cE b (fun y b=>?_) (fun y b=>?_)
         ·try dsimp only at y
          have aJ:=oD y;refine sk L ?_;clear L ae;refine aP (TA 3 (TA 4 (TA 6 (TA 15 (TA 16 (TA 17 (TA 22 (TA 23 (TA 24 kN))))))))) (fun(z:(Sl Z6))=>[]) (fun z=>((H.set g (some (.tok 2 z.l.length))).set i (some (.cells ([Sl.d 2 Z6.c (some g) z]))))) (fun z=>yZ u ((qf p o ((j7 k m)) q)) z=some r) ?_ ?_
          ·intro aK ag;refine block ?_;refine af ?_;obtain⟨B,al,b⟩:=bO b;refine S (ix Z7.c u al) (S Ld ?_);refine Sl ?_;refine Sf ?_;refine nil ?_;refine bA 8 _ rfl (KA 3 (KA 4 (KA 6 (KA 15 (KA 16 (KA 17 (KA 22 (KA 23 (KA 24 aY.nil))))))))) ?_;refine af (S Fv (S Ld ?_));refine sLen (f:=Z8.c) (s:=B.aF) (TK rfl) rfl rfl rfl rfl fun aL=>?_;refine S Mv (nil ?_);refine block ?_
           refine bp (TA 3 (TA 4 (TA 6 (TA 8 (TA 15 (TA 16 (TA 17 (TA 22 (TA 23 (TA 24 (TA 29 (TA 30 kN)))))))))))) (fun(z:Nat×Nat×(Sl Z6))=>[(31,.a (.d (.int .i64 ((z.2.1:Nat):Int))))]) (fun z=>((H.set g (some (.tok 2 z.2.2.l.length))).set i (some (.cells ([Sl.d 2 Z6.c (some g) z.2.2]))))) (fun z=>z.1) (fun z=>y2 u B ((qf p o ((j7 k m)) q)) z.1 z.2.1 z.2.2=some r) ((B.aF.l.length+1),0,K) b wA ?_
           rintro ⟨M,aN,am⟩ b aQ aR;try dsimp only at b
           cases M with
           | zero=>cases b
           | succ M =>
             rw [y2] at b;refine af (S BI (nil ?_));refine ax fun aS aT=>?_;refine cE b (fun C b=>?_) (fun C b=>?_)
             ·try dsimp only at C
              have aU:=oD C;cases b
             refine ah.exit ?_;exact ag _ am wA b
          rintro ao b;try dsimp only at b
          unfold yZ at b;refine region ?_;refine SI ?_;refine S Mv (nil ?_);exact ad _ (q,(u+1),ao) wA b (nS _)
         refine ah.exit ?_;exact ab _ K wA b
      rintro ap b;try dsimp only at b
      unfold yY at b;refine af (S Fv (S Ld ?_));refine sLen (f:=Z8.c) (s:=o.aM) (TK rfl) rfl rfl rfl rfl fun aV=>?_;refine S Mv (nil ?_);refine block ?_;refine bp (TA 3 (TA 4 (TA 6 (TA 15 (TA 16 (TA 17 (TA 52 (TA 53 kN)))))))) (fun(z:Nat×Nat×(Sl Z6))=>[(54,.a (.d (.int .i64 ((z.2.1:Nat):Int))))]) (fun z=>((H.set g (some (.tok 2 z.2.2.l.length))).set i (some (.cells ([Sl.d 2 Z6.c (some g) z.2.2]))))) (fun z=>z.1) (fun z=>yX p o ((j7 k m)) z.1 z.2.1 z.2.2=some r) ((o.aM.l.length+1),0,ap) b wA ?_
      rintro ⟨N,aW,ar⟩ b aX aZ;try dsimp only at b
      cases N with
      | zero=>cases b
      | succ N =>
        rw [yX] at b;refine af (S BI (nil ?_));refine ax fun a0 a1=>?_;refine cE b (fun E b=>?_) (fun E b=>?_)
        ·try dsimp only at E
         have a2:=oD E;cases b
        refine ah.exit ?_;exact Z _ ar wA b
     rintro au b;try dsimp only at b
     unfold yW at b;refine region ?_;refine SI ?_;refine S Mv (nil ?_);exact X _ (m,(p+1),au) wA b (nS _)
    refine ah.exit ?_;exact W _ I wA b
 rintro a3 b;try dsimp only at b
 unfold yV at b;refine af ?_;refine s0 (b7 (TK rfl) rfl rfl aB rfl) rfl ?_;refine S As (nil ?_);refine ah.dm 2 rfl ?_;refine ah.ret ?_;repeat (first|refine bE ?_|refine bF ?_)
 obtain rfl:=oJ b;refine bn.bG H rfl ⟨rfl,rfl⟩ ?_;intro O a4 P;have a5:O≠g:=fun F=>by subst F; simp_all [ak.set]
 have a6:O≠i:=fun F=>by subst F; simp_all [ak.set]
 rw [<- P];simp only [ak.set] at P ⊢
 (repeat' split)<;>simp_all
end Go.Proofs
