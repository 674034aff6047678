import Derived.Test.YtbghdiaepdaaeaaGreatDoorV5
set_option maxRecDepth 100000
set_option maxHeartbeats 2000000
set_option linter.unusedVariables false
set_option linter.unusedSimpArgs false
namespace Go.Proofs
open Go Go.Ab
open aQ ar ag aS dY
variable {ak:bf}
def nT (g:aq) (i:az) (j:aa):Option (aa×Int):=(vm (Z0.mk g aa.zero false (0:Int)) i j (1:Int)).bind fun b=>(mu b.1 b.2.1).bind fun f=>some (f.1,f.2)
def CE (b:aq) (f:az) (g:aa):Option (aa×Int):=nT b f g
theorem Ss (a0:aq) (a1:az) (a2:aa):CE a0 a1 a2=nT a0 a1 a2:=rfl
theorem Su {g:aq}{j:az}{k:aa}{oT:Ab.Obj}{gT:Nat}{r:aa×Int}(b:CE g j k=some r) (H:ah) (u:H gT=some oT) (w:fP Tryz.prog oT):AC Tryz.prog 171 [.agg (aq.c g),.agg (az.c j),.agg (aa.c k)] H fun v h'=>v=.cS [.agg (aa.c r.1),.d (.int .i64 r.2)]/\h'=H:=by
 unfold CE nT at b;refine AC.oW 21 [.cell 6 58,.tmp 7] Tryz.call171 Tryz.func171 ?_;refine af (S BX (S BX (S BX ?_)));refine Sl ?_;refine S As (nil ?_);refine af (S Ld (S BU ?_));refine sE (dW.rM rfl) rfl (fun _ _ _ ⟨f,i,l,m,o⟩=>?_); subst l m o;have x:f≠gT:=fun p=>by subst p; simp_all
 refine hq (H.set f (some (.cells (Z0.c (Z0.mk g aa.zero false (0:Int)))))) ?_;refine S As (nil ?_);refine af (S Mv (S Ld (S Ld ?_)));obtain⟨q,s,b⟩:=qT (Sr _ _ _ _) b;refine sH (de rfl rfl (Sq (gT:=gT) (oT:=oT) s _ aI aI (by assumption))) rfl ?_;refine hq (H.set f (some (.cells (Z0.c q.2.2)))) ?_;refine S EX (S EX ?_);obtain⟨y,t,b⟩:=qT (RM _ _) b
 refine Sc rfl rfl (RN t) ?_;refine S EX (S EX ?_);refine Sf ?_;refine S As (nil ?_);refine ag.ret ?_;repeat (first|refine bK ?_|refine bL ?_)
 obtain rfl:=oJ b;refine bz.bJ H rfl ⟨rfl,rfl⟩ ?_
 first|exact ah.cG i|(simp only [ah.set_set]; exact ah.cG i)
def pH (f:aa->Option Int):List aa->Int->Option (Int)
 | [],b=>some b
 | g::i,b=>on (g) fun j=>(f j).bind fun k=>(bG b k).bind fun l=>pH f (i) l
def mw:Nat->aa->Option Int
 | 0,_=>none
 | n+1,g=>Option.bind (pH (mw n) g.av.l (1:Int)) fun b=>on (b) fun f=>some f
def CF (n:Nat):Prop:=∀{a0:aa}   {r:Int},mw n a0=some r->∀(H:ah),AC Tryz.prog 214 [.agg (aa.c a0)] H fun v h'=>v=.a (.d (.int .i64 r))/\h'=H
theorem Sv (n:Nat) (t:CF (ak:=ak) n):CF (ak:=ak) (n+1):=by
 intro i   r b H;rw [mw] at b;refine AC.oW 19 [.tmp 2] Tryz.call214 Tryz.func214 ?_;refine af (S BX (S As (nil ?_)));refine af (S As (nil ?_));refine aT kN (fun(z:Int)=>[(3,.a (.d (.int .i64 z)))]) (fun z=>H) (fun z=>(some z)=some r) ?_ ?_
 ·intro J u;refine af (S Fv ?_);refine s0 (bS (TK rfl) rfl rfl (congrArg (fun x=>some (A.d x)) (aa.dm _))) rfl ?_;refine sLen (f:=aa.c) (s:=i.av) (TK rfl) rfl rfl rfl rfl fun K=>?_;refine S Mv (nil ?_);refine block ?_;obtain⟨j,v,b⟩:=cB b;refine bx (TA 7 (TA 8 kN)) (fun(z:Int×Nat)=>[(3,.a (.d (.int .i64 z.1))),(9,.a (.d (.int .i64 ((z.2:Nat):Int))))]) (fun z=>H) (fun z=>i.av.l.length-z.2) (fun z=>Option.bind (pH (mw n) (i.av.l.drop z.2) z.1) j=some r) ((1:Int),0) b wA ?_
  rintro ⟨k,m⟩ b L w;try dsimp only at b
  refine af (S BI (nil ?_));refine ay fun y o=>?_;refine ag.cA (fun l=>Option.bind (pH (mw n) l k) j=some r) b rfl (fun M p g b=>?_) (fun g b=>?_)
  ·rw [pH] at b;try dsimp only at g
   have N:=oD g;refine sk o ?_;clear o y;refine ay fun B q=>?_;refine block ?_;refine af ?_;obtain⟨O,C,b⟩:=vO p b;refine S (ix aa.c m C) (S Ld ?_);refine Sl ?_;refine Sf ?_;refine nil ?_;refine bu 5 _ rfl (KA 3 (KA 7 (KA 8 (KA 9 aS.nil)))) ?_;refine region ?_;refine S Mv (S Ld ?_);obtain⟨P,E,b⟩:=qO rfl b;refine Sc rfl rfl (t E) ?_
   obtain⟨F,G,b⟩:=qO rfl b;refine s0 (cI rfl rfl G) rfl ?_;refine S As (nil ?_);refine q _ ?_;clear q B;refine region ?_;refine SI ?_;refine S Mv (nil ?_);exact w _ (F,(m+1)) wA b (dl p)
  rw [pH] at b;have b:=ku v b;refine ag.exit ?_;obtain⟨Q,I,b⟩:=bW b;have b:=ku I b;exact u _ k wA b
 rintro R b;try dsimp only at b
 refine af (S Mv (S As (nil ?_)));exact rt b
theorem IY:∀(n:Nat),(CF (ak:=ak) n)
 | 0=>fun b=>by first|cases b|(rw [mw] at b; cases b)
 | n+1=>Sv n (IY n)
def IZ (b:aa):Option Int:=mw F0 b
theorem Sw {b:aa}{r:Int}(f:IZ b=some r) (H:ah) :AC Tryz.prog 214 [.agg (aa.c b)] H fun v h'=>v=.a (.d (.int .i64 r))/\h'=H:=(IY F0) f H 
def yf (b:aa):Option Int:=mw F0 b
theorem Sx (a0:aa):IZ a0=yf a0:=rfl
def pI (f:aa->Option Int):List aa->Int->Option (Int)
 | [],b=>some b
 | i::j,b=>on (i) fun k=>(f k).bind fun g=>pI f (j) (if g>b then g else b)
def mz:Nat->aa->Option Int
 | 0,_=>none
 | n+1,i=>Option.bind (pI (mz n) i.av.l (0:Int)) fun b=>on (b) fun f=>(bG f (1:Int)).bind fun g=>some g
def CG (n:Nat):Prop:=∀{a0:aa}   {r:Int},mz n a0=some r->∀(H:ah),AC Tryz.prog 215 [.agg (aa.c a0)] H fun v h'=>v=.a (.d (.int .i64 r))/\h'=H
theorem Sy (n:Nat) (v:CG (ak:=ak) n):CG (ak:=ak) (n+1):=by
 intro j   r b H;rw [mz] at b;refine AC.oW 20 [.tmp 2] Tryz.call215 Tryz.func215 ?_;refine af (S BX (S As (nil ?_)));refine af (S As (nil ?_));refine aT kN (fun(z:Int)=>[(3,.a (.d (.int .i64 z)))]) (fun z=>H) (fun z=>((bG z (1:Int)).bind fun k=>some k)=some r) ?_ ?_
 ·intro K w;refine af (S Fv ?_);refine s0 (bS (TK rfl) rfl rfl (congrArg (fun x=>some (A.d x)) (aa.dm _))) rfl ?_;refine sLen (f:=aa.c) (s:=j.av) (TK rfl) rfl rfl rfl rfl fun L=>?_;refine S Mv (nil ?_);refine block ?_;obtain⟨m,y,b⟩:=cB b;refine bx (TA 7 (TA 8 kN)) (fun(z:Int×Nat)=>[(3,.a (.d (.int .i64 z.1))),(9,.a (.d (.int .i64 ((z.2:Nat):Int))))]) (fun z=>H) (fun z=>j.av.l.length-z.2) (fun z=>Option.bind (pI (mz n) (j.av.l.drop z.2) z.1) m=some r) ((0:Int),0) b wA ?_
  rintro ⟨g,o⟩ b M B;try dsimp only at b
  refine af (S BI (nil ?_));refine ay fun C p=>?_;refine ag.cA (fun l=>Option.bind (pI (mz n) l g) m=some r) b rfl (fun N q i b=>?_) (fun i b=>?_)
  ·rw [pI] at b;try dsimp only at i
   have O:=oD i;refine sk p ?_;clear p C;refine ay fun E t=>?_;refine block ?_;refine af ?_;obtain⟨P,F,b⟩:=vO q b;refine S (ix aa.c o F) (S Ld ?_);refine Sl ?_;refine Sf ?_;refine nil ?_;refine bu 5 _ rfl (KA 3 (KA 7 (KA 8 (KA 9 aS.nil)))) ?_;refine region ?_;refine S Mv (S Ld ?_);obtain⟨u,G,b⟩:=qO rfl b;refine Sc rfl rfl (v G) ?_
   refine s0 (FV rfl rfl) rfl ?_;refine S As (nil ?_);refine t _ ?_;clear t E;refine region ?_;refine SI ?_;refine S Mv (nil ?_);exact B _ ((if u>g then u else g),(o+1)) wA b (dl q)
  rw [pI] at b;have b:=ku y b;refine ag.exit ?_;obtain⟨Q,I,b⟩:=bW b;have b:=ku I b;exact w _ g wA b
 rintro R b;try dsimp only at b
 refine af (S Mv ?_);obtain⟨k,J,b⟩:=qT rfl b;refine s0 (cI rfl rfl J) rfl ?_;refine S As (nil ?_);exact rt b
theorem I1:∀(n:Nat),(CG (ak:=ak) n)
 | 0=>fun b=>by first|cases b|(rw [mz] at b; cases b)
 | n+1=>Sy n (I1 n)
def I2 (b:aa):Option Int:=mz F0 b
theorem Sz {b:aa}{r:Int}(f:I2 b=some r) (H:ah) :AC Tryz.prog 215 [.agg (aa.c b)] H fun v h'=>v=.a (.d (.int .i64 r))/\h'=H:=(I1 F0) f H 
def yg (b:aa):Option Int:=mz F0 b
theorem SA (a0:aa):I2 a0=yg a0:=rfl
def tA  :Option Int:=some (-1:Int)
def tB (f:(Sl Bs)) (g:(Bs->Option Bool)) :Nat->Nat->Option Int
 | 0,_=>none
 | i+1,b=>bif (decide (((b:Nat):Int)<((f.l.length:Nat):Int))) then((f.l[b]?).bind fun j=>(g j).bind fun k=>bif k then(some ((b:Nat):Int)) else((tB f g i) (b+1))) else(tA   )
def vn (b:(Sl Bs)) (f:(Bs->Option Bool)):Option Int:=tB b f (b.l.length+1) 0
theorem SB {g:Sl Bs}{k:Bs->Option Bool}{w0:Option Nat}{m:List D}{k1:Nat}{r:Int}(b:vn g k=some r) (H:ah) (u:∀o r,k o=some r->∀H,AC Tryz.prog k1 ([.d (.str o)]++m.map A.d) H fun v h'=>v=.a (.d (.bool r))/\h'=H):AC Tryz.prog 277 [.d (Sl.d 1 aP w0 g),.d (.func k1 m)] H fun v h'=>v=.a (.d (.int .i64 r))/\h'=H:=by
 unfold vn at b;refine AC.oW 19 [.tmp 4] Tryz.call277 Tryz.func277 ?_;refine af (S As (nil ?_));refine aT kN (fun(z:Unit)=>[]) (fun z=>H) (fun z=>tA =some r) ?_ ?_
 ·intro G w;refine af (S Mv ?_);refine sLen (f:=aP) (s:=g) (TK rfl) rfl rfl rfl rfl fun I=>?_;refine S Mv (nil ?_);refine block ?_;refine bx (TA 0 (TA 1 (TA 7 kN))) (fun(z:Nat×Nat)=>[(8,.a (.d (.int .i64 ((z.2:Nat):Int))))]) (fun z=>H) (fun z=>z.1) (fun z=>tB g k z.1 z.2=some r) ((g.l.length+1),0) b wA ?_;rintro ⟨i,p⟩ b J x;try dsimp only at b
  cases i with
  | zero=>cases b
  | succ i =>
    rw [tB] at b;refine af (S BI (nil ?_));refine ay fun y q=>?_;refine cE b (fun j b=>?_) (fun j b=>?_)
    ·try dsimp only at j
     have K:=oD j;refine sk q ?_;clear q y;refine ay fun B t=>?_;refine block ?_;refine af (S Mv (S As (nil ?_)));refine af (S Mv (S Mv (S Mv ?_)));obtain⟨L,C,b⟩:=bO b;refine S (ix aP p C) (S Ld ?_);obtain⟨M,E,b⟩:=bO b;refine s0 (en rfl rfl (u _ _ E)) rfl ?_;refine nil ?_;refine cE b (fun F b=>?_) (fun F b=>?_)
     ·refine af (S Mv (S As (nil ?_)));exact rt b
     refine sk t ?_;clear t B;refine region ?_;refine SI ?_;refine S Mv (nil ?_);exact x _ (i,(p+1)) wA b (nS _)
    refine ag.exit ?_;exact w _ () wA b
 rintro _ b;try dsimp only at b
 unfold tA at b;refine af (S As (nil ?_));exact rt b
def vp (f:(Bs->Option Bool)):List Bs->Nat->Option (Unit ⊕ Int)
 | [],b=>some (Sum.inl ())
 | g::i,b=>on (g) fun j=>(f j).bind fun k=>bif k then(some (Sum.inr ((b:Nat):Int))) else(vp f (i) (b+1) )
theorem SC {g:Sl Bs}{k:Bs->Option Bool}(i:(Unit ⊕ Int)->Option Int) (m:∀(f:Nat) (b:Nat),tA   =i (Sum.inl ())) (o:∀e:Int,some e=i (Sum.inr e)):∀(f:Nat) (b:Nat),(0<f/\g.l.length<b+f)->tB g k f b=Option.bind (vp k (g.l.drop b) b ) i:=by
 intro f;induction f with
 | zero=>intro b hn; exact absurd hn.1 (by omega)
 | succ f p =>
  intro b hn;rw [tB];by_cases aY:b<g.l.length
  ·obtain⟨q,j⟩:=Qa aY;rw [Q.jQ j,vp];refine QT aY ?_;refine Q.m_ j fun r s=>?_;refine Q.oz rfl fun t=>?_;refine Q.mZ ?_ ?_
   ·all_goals exact o _
   all_goals exact p _ ⟨by omega,by omega⟩
  rw [dL (by omega),vp];refine QF aY ?_;exact m f b
def CH (g:(Sl Bs)) (i:(Bs->Option Bool)):Option Int:=Option.bind (vp i g.l 0 ) fun b=>match b with|Sum.inl _=>(on (()) fun _=>some (-1:Int))|Sum.inr f=>(some f)
theorem SD (a0:(Sl Bs)) (a1:(Bs->Option Bool)):vn a0 a1=CH a0 a1:=by
 unfold vn CH;refine Qs ?_;refine Q.rV fun f b=>?_;refine SC  f ?_ ?_ _ _ ⟨Nat.succ_pos _,by omega⟩
 ·intro k l;refine Qe (b _) ?_;try dsimp only
  refine Q.rU fun g i=>?_;have j:tA  =g ():=by
   refine Qe (i _) ?_;unfold tA;all_goals rfl
  all_goals exact j
 intro m;refine Qe (b _) ?_;try dsimp only
 all_goals rfl
def vq (f:(Sl Bs)) (g:(Bs->Option Bool)):Option Bool:=(vn f g).bind fun b=>some (decide ((0:Int)<=b))
theorem SE {i:Sl Bs}{j:Bs->Option Bool}{w0:Option Nat}{f:List D}{k1:Nat}{r:Bool}(b:vq i j=some r) (H:ah) (k:∀g r,j g=some r->∀H,AC Tryz.prog k1 ([.d (.str g)]++f.map A.d) H fun v h'=>v=.a (.d (.bool r))/\h'=H):AC Tryz.prog 266 [.d (Sl.d 1 aP w0 i),.d (.func k1 f)] H fun v h'=>v=.a (.d (.bool r))/\h'=H:=by
 unfold vq at b;refine AC.oW 9 [.tmp 4] Tryz.call266 Tryz.func266 ?_;refine af (S As (nil ?_));refine af (S Mv (S Mv ?_));obtain⟨m,l,b⟩:=bO b;refine s0 (en rfl rfl (fun H=>SB l H k)) rfl ?_;refine S BI (S As (nil ?_));exact rt b
def CI (f:(Sl Bs)) (g:(Bs->Option Bool)):Option Bool:=(CH f g).bind fun b=>some (decide ((0:Int)<=b))
theorem SF (a0:(Sl Bs)) (a1:(Bs->Option Bool)):vq a0 a1=CI a0 a1:=by
 unfold vq CI;refine Qs ?_;refine Q.oz (by simp only [SD]) fun b=>?_;all_goals rfl
def I3 (f:Bs):Option Bool:=(nP f).bind fun b=>some (!b)
def yh (b:Bs):Option Bool:=I3 b
theorem SG {f:Bs}{r:Bool}(b:yh f=some r) (H:ah) :AC Tryz.prog 267 [.d (.str f)] H fun v h'=>v=.a (.d (.bool r))/\h'=H:=by
 unfold yh I3 at b;refine AC.oW 6 [.tmp 2] Tryz.call267 Tryz.func267 ?_;refine af (S As (nil ?_));refine af (S Mv ?_);obtain⟨i,g,b⟩:=qT (xQ _) b;refine Sc rfl rfl (xR g) ?_;refine S NB (S As (nil ?_));exact rt b
def pJ :List Bs->(List Bs)->Unit ⊕ Bool
 | [],b=>Sum.inl ()
 | g::i,b=>on (g) fun f=>bif (b.contains f) then(Sum.inr true) else(pJ  (i) (fF b f))
def tC (g:(Sl Bs)):Bool:=on (pJ  g.l ([]:List Bs)) fun b=>match b with|Sum.inl _=>(on (()) fun _=>false)|Sum.inr f=>(f)
def CJ (b:(Sl Bs)):Option Bool:=some (tC b)
theorem SJ (a0:(Sl Bs)):CJ a0=some (tC a0):=rfl
theorem SK {g:Sl Bs}{w0:Option Nat}{r:Bool}(b:CJ g=some r) (H:ah) :AC Tryz.prog 268 [.d (Sl.d 1 aP w0 g)] H fun v h'=>v=.a (.d (.bool r))/\h'=H:=by
 unfold CJ tC at b;refine AC.oW 19 [.tmp 2] Tryz.call268 Tryz.func268 ?_;refine af (S As (nil ?_));refine af ?_;refine sE dW.makeMap rfl (fun _ _ _ ⟨i,j,B,C,E⟩=>?_); subst B C E;refine hq (H.set i (some (.map (dZ ([]:List Bs))))) ?_;refine S As (nil ?_);refine aT kN (fun(z:(List Bs))=>[]) (fun z=>(H.set i (some (.map (dZ z))))) (fun z=>some (false)=some r) ?_ ?_
 ·intro O F;refine af (S Mv ?_);refine sLen (f:=aP) (s:=g) (TK rfl) rfl rfl rfl rfl fun P=>?_;refine S Mv (nil ?_);refine block ?_;obtain⟨o,p,b⟩:=eB b;refine bx (TA 3 (TA 7 (TA 8 kN))) (fun(z:Nat×(List Bs))=>[(9,.a (.d (.int .i64 ((z.1:Nat):Int))))]) (fun z=>(H.set i (some (.map (dZ z.2))))) (fun z=>g.l.length-z.1) (fun z=>o (pJ  (g.l.drop z.1) z.2)=some r) (0,([]:List Bs)) b wA ?_
  rintro ⟨q,k⟩ b Q G;try dsimp only at b
  refine af (S BI (nil ?_));refine ay fun I t=>?_;refine ag.cA (fun l=>o (pJ  l k)=some r) b rfl (fun R u m b=>?_) (fun m b=>?_)
  ·rw [pJ] at b;try dsimp only at m
   have U:=oD m;refine sk t ?_;clear t I;refine ay fun J w=>?_;refine block ?_;refine af ?_;obtain⟨x,K,b⟩:=vP u b;refine S (ix aP q K) (S Ld (S As (nil ?_)));refine ay fun L y=>?_;refine af (S Mv (S Mv ?_));refine s0 (FO (TK rfl) rfl (TK rfl) (TK rfl) rfl rfl rfl rfl aI) rfl ?_;refine nil ?_;refine cP b (fun M b=>?_) (fun M b=>?_)
   ·refine af (S As (nil ?_));refine ag.ret ?_;repeat (first|refine bK ?_|refine bL ?_)
    have b:=ku p b;obtain rfl:=oJ b;refine bz.bJ H rfl ⟨rfl,rfl⟩ ?_
    first|exact ah.cG j|(simp only [ah.set_set]; exact ah.cG j)
   refine sk y ?_;clear y L;refine region ?_;refine S Mv (S Mv ?_);refine fT (mapUpdate (TK rfl) rfl (TK rfl) rfl rfl rfl rfl aI (wB _ _) rfl) rfl rfl ?_;refine hq (H.set i (some (.map (dZ (fF k x))))) ?_;refine nil ?_;refine w _ ?_;clear w J;refine region ?_;refine SI ?_;refine S Mv (nil ?_);exact G _ ((q+1),(fF k x)) wA b (dl u)
  rw [pJ] at b;have b:=ku p b;try dsimp only at b
  refine ag.exit ?_;obtain⟨W,N,b⟩:=eB b;have b:=ku N b;exact F _ k wA b
 rintro X b;try dsimp only at b
 refine af (S As (nil ?_));refine ag.ret ?_;repeat (first|refine bK ?_|refine bL ?_)
 obtain rfl:=oJ b;refine bz.bJ H rfl ⟨rfl,rfl⟩ ?_
 first|exact ah.cG j|(simp only [ah.set_set]; exact ah.cG j)
def tD (b:aa) (f:Bool):Option Bool:=bif (((((!((decide (b.an=(1:Int)))||(decide (b.an=(2:Int)))))&&(!decide (b.aV=(0:Int))))||((!(((decide (b.an=(3:Int)))||(decide (b.an=(4:Int))))||(decide (b.an=(7:Int)))))&&(!(b.aR==([]:Bs)))))||((!decide (b.an=(6:Int)))&&(decide ((0:Int)<((b.aF.l.length:Nat):Int)))))||(((!decide (b.an=(6:Int)))&&(!decide (b.an=(5:Int))))&&(decide ((0:Int)<((b.av.l.length:Nat):Int))))) then(some false) else(on (bif (decide (b.an=(0:Int))) then((decide (b.an=(0:Int)))) else(bif (decide (b.an=(2:Int))) then((decide (b.an=(2:Int)))) else(bif (decide (b.an=(3:Int))) then((decide (b.an=(3:Int)))) else((decide (b.an=(5:Int))))))) fun g=>bif g then(some true) else(bif (decide (b.an=(1:Int))) then(some ((decide (b.aV=(0:Int)))||(decide (b.aV=(1:Int))))) else(bif (decide (b.an=(4:Int))) then((nP b.aR).bind fun i=>some (((i&&(!(b.aR==([116,114,117,101]:Bs))))&&(!(b.aR==([102,97,108,115,101]:Bs))))&&(!(b.aR==([110,117,108,108]:Bs))))) else(bif (decide (b.an=(7:Int))) then(aN (f) (nP b.aR) false fun j=>some (f&&j)) else(bif (decide (b.an=(6:Int))) then(aN (f) (CI b.aF yh) false fun k=>bif (f&&k) then(some false) else(on (bif (decide (((b.aF.l.length:Nat):Int)=((b.av.l.length:Nat):Int))) then tC b.aF else false) fun m=>some ((decide (((b.aF.l.length:Nat):Int)=((b.av.l.length:Nat):Int)))&&(!m)))) else(on (()) fun _=>some false))))))
def CK (b:aa) (f:Bool):Option Bool:=tD b f
theorem SL (a0:aa) (a1:Bool):CK a0 a1=tD a0 a1:=rfl
theorem SM {g:aa}{m r:Bool}(b:CK g m=some r) (H:ah) :AC Tryz.prog 246 [.agg (aa.c g),.d (.bool m)] H fun v h'=>v=.a (.d (.bool r))/\h'=H:=by
 unfold CK tD at b;refine AC.oW 137 [.tmp 4] Tryz.call246 Tryz.func246 ?_;refine af (S BX (S As (nil ?_)));refine af (S Fv (S Ld (S BI (S Mv (G0 Fv ?_)))));refine G1 11 rfl Ld ?_;refine G1 12 rfl BI ?_;refine S PO (S As (nil ?_));refine af (S Fv (S Ld (S BI (S Mv (G0 Fv ?_)))));refine G1 19 rfl Ld ?_;refine G1 20 rfl BI ?_;refine S PO (S Mv (G0 Fv ?_));refine G1 24 rfl Ld ?_;refine G1 25 rfl BI ?_
 refine S PO (S As (nil ?_));refine ay fun o j=>?_;refine af (S Mv (S NB (S Mv (G0 Fv ?_))));refine G1 31 rfl Ld ?_;refine G1 32 rfl BI ?_;refine S PA (S Mv (G0 Mv ?_));refine G1 36 rfl NB ?_;refine G1 37 rfl Mv ?_;refine G0 Fv ?_;refine G1 39 rfl Ld ?_;refine G1 40 rfl BS ?_;refine gC rfl rfl (fun hC=>aG (k:=38) rfl (fV rfl rfl rfl)) rfl ?_;refine S PO (S Mv (G0 Fv ?_));refine G1 45 rfl Ld ?_
 refine G1 46 rfl BI ?_;refine G1 47 rfl Mv ?_;refine G0 Fv ?_;refine G1 49 rfl Ld ?_;refine gC rfl rfl (fun hC=>aG (k:=50) rfl (cZ (f:=aP) (s:=g.aF) (TK rfl) rfl rfl rfl)) rfl ?_;refine G1 51 rfl BI ?_;refine gC rfl rfl (fun hC=>aG (k:=48) rfl (fV rfl rfl rfl)) rfl ?_;refine S PO (S Mv (G0 Fv ?_));refine G1 56 rfl Ld ?_;refine G1 57 rfl BI ?_;refine G1 58 rfl Mv ?_;refine G0 Fv ?_
 refine G1 60 rfl Ld ?_;refine G1 61 rfl BI ?_;refine gC rfl rfl (fun hC=>aG (k:=59) rfl (fV rfl rfl rfl)) rfl ?_;refine G1 63 rfl Mv ?_;refine G0 Fv ?_;refine gC rfl rfl (fun hC=>aG (k:=65) rfl (bS (TK rfl) rfl rfl (congrArg (fun x=>some (A.d x)) (aa.dm _)))) rfl ?_;refine gC rfl rfl (fun hC=>aG (k:=66) rfl (cZ (f:=aa.c) (s:=g.av) (TK rfl) rfl rfl rfl)) rfl ?_;refine G1 67 rfl BI ?_
 refine gC rfl rfl (fun hC=>aG (k:=64) rfl (fV rfl rfl rfl)) rfl ?_;refine S PO (nil ?_);refine cE b (fun p b=>?_) (fun p b=>?_)
 ·refine af (S As (nil ?_));exact rt b
 refine sk j ?_;clear j o;refine aT kN (fun(z:Unit)=>[]) (fun z=>H) (fun z=>(some false)=some r) ?_ ?_
 ·intro R q;refine af (S Fv (S Ld (nil ?_)));refine block ?_;obtain⟨t,u,b⟩:=bW b;refine aT (TA 1 (TA 2 (TA 72 kN))) (fun(z:Bool)=>[(73,.a (.d (.bool z)))]) (fun z=>H) (fun z=>t z=some r) ?_ ?_
  ·intro U i;refine af (S BI (S As (nil ?_)));refine cP b (fun w b=>?_) (fun w b=>?_)
   ·refine ag.skip ?_;exact i _ (decide (g.an=(0:Int))) wA b
   refine af (S BI (S As (nil ?_)));refine cP b (fun y b=>?_) (fun y b=>?_)
   ·refine ag.skip ?_;exact i _ (decide (g.an=(2:Int))) wA b
   refine af (S BI (S As (nil ?_)));refine cP b (fun B b=>?_) (fun B b=>?_)
   ·refine ag.skip ?_;exact i _ (decide (g.an=(3:Int))) wA b
   refine region ?_;refine S BI (S As (nil ?_));exact i _ (decide (g.an=(5:Int))) wA b
  rintro W b;try dsimp only at b
  have b:=ku u b;refine cE b (fun C b=>?_) (fun C b=>?_)
  ·refine af (S As (nil ?_));exact rt b
  refine af (S BI (S As (nil ?_)));refine cE b (fun E b=>?_) (fun E b=>?_)
  ·refine af (S Fv (S Ld (S BI (S Mv (G0 Fv ?_)))));refine G1 84 rfl Ld ?_;refine G1 85 rfl BI ?_;refine S PO (S As (nil ?_));exact rt b
  refine af (S BI (S As (nil ?_)));refine cE b (fun F b=>?_) (fun F b=>?_)
  ·refine af (S Fv (S Ld ?_));obtain⟨X,G,b⟩:=qT (xQ _) b;refine Sc rfl rfl (xR G) ?_;refine S Mv (G0 Fv ?_);refine G1 94 rfl Ld ?_;refine G1 95 rfl BS ?_;refine S PA (S Mv (G0 Fv ?_));refine G1 99 rfl Ld ?_;refine G1 100 rfl BS ?_;refine S PA (S Mv (G0 Fv ?_));refine G1 104 rfl Ld ?_;refine G1 105 rfl BS ?_;refine S PA (S As (nil ?_));exact rt b
  refine af (S BI (S As (nil ?_)));refine cE b (fun I b=>?_) (fun I b=>?_)
  ·refine af (S Mv (S Mv (G0 Fv ?_)));refine G1 112 rfl Ld ?_;obtain⟨Y,J,b⟩:=dx (xQ _) b;refine dA 113 rfl rfl rfl rfl rfl (fun hC=>xR (J hC)) ?_;refine S PA (S As (nil ?_));exact rt b
  refine af (S BI (S As (nil ?_)));refine cE b (fun K b=>?_) (fun K b=>?_)
  ·refine ay fun L l=>?_;refine af (S Mv (S Mv (G0 Fv ?_)));refine G1 120 rfl Ld ?_;obtain⟨Z,M,b⟩:=dx (o':=vq g.aF yh) (by simp only [SF]) b;refine gC rfl rfl (fun hC=>aG (k:=121) rfl (en rfl rfl (fun H=>SE (M hC) H (fun _ _ N=>SG N)))) rfl ?_;refine S PA (nil ?_);refine cE b (fun O b=>?_) (fun O b=>?_)
   ·refine af (S As (nil ?_));exact rt b
   refine sk l ?_;clear l L;refine af (S Fv (S Ld ?_));refine sLen (f:=aP) (s:=g.aF) (TK rfl) rfl rfl rfl rfl fun ab=>?_;refine S Fv ?_;refine s0 (bS (TK rfl) rfl rfl (congrArg (fun x=>some (A.d x)) (aa.dm _))) rfl ?_;refine sLen (f:=aa.c) (s:=g.av) (TK rfl) rfl rfl rfl rfl fun ad=>?_;refine S BI (S Mv (G0 Fv ?_));refine G1 132 rfl Ld ?_;obtain⟨ae,P,b⟩:=lN (fun _=>(SJ _)) b
   refine dA 133 rfl rfl rfl rfl rfl (fun hC=>SK (P hC)) ?_;refine G1 134 rfl NB ?_;refine S PA (S As (nil ?_));exact rt b
  refine ag.skip ?_;obtain⟨ai,Q,b⟩:=bW b;have b:=ku Q b;exact q _ () wA b
 rintro _ b;try dsimp only at b
 refine af (S As (nil ?_));exact rt b
def tE  :Option Int:=some (-1:Int)
def tF (f:(Sl aa)) (g:(aa->Option Bool)) :Nat->Nat->Option Int
 | 0,_=>none
 | i+1,b=>bif (decide (((b:Nat):Int)<((f.l.length:Nat):Int))) then((f.l[b]?).bind fun j=>(g j).bind fun k=>bif k then(some ((b:Nat):Int)) else((tF f g i) (b+1))) else(tE   )
def vr (b:(Sl aa)) (f:(aa->Option Bool)):Option Int:=tF b f (b.l.length+1) 0
theorem SN {g:Sl aa}{k:aa->Option Bool}{w0:Option Nat}{m:List D}{k1:Nat}{r:Int}(b:vr g k=some r) (H:ah) (u:∀o r,k o=some r->∀H,AC Tryz.prog k1 ([.agg (aa.c o)]++m.map A.d) H fun v h'=>v=.a (.d (.bool r))/\h'=H):AC Tryz.prog 269 [.d (Sl.d 5 aa.c w0 g),.d (.func k1 m)] H fun v h'=>v=.a (.d (.int .i64 r))/\h'=H:=by
 unfold vr at b;refine AC.oW 19 [.tmp 4] Tryz.call269 Tryz.func269 ?_;refine af (S As (nil ?_));refine aT kN (fun(z:Unit)=>[]) (fun z=>H) (fun z=>tE =some r) ?_ ?_
 ·intro G w;refine af (S Mv ?_);refine sLen (f:=aa.c) (s:=g) (TK rfl) rfl rfl rfl rfl fun I=>?_;refine S Mv (nil ?_);refine block ?_;refine bx (TA 0 (TA 1 (TA 7 kN))) (fun(z:Nat×Nat)=>[(8,.a (.d (.int .i64 ((z.2:Nat):Int))))]) (fun z=>H) (fun z=>z.1) (fun z=>tF g k z.1 z.2=some r) ((g.l.length+1),0) b wA ?_;rintro ⟨i,p⟩ b J x;try dsimp only at b
  cases i with
  | zero=>cases b
  | succ i =>
    rw [tF] at b;refine af (S BI (nil ?_));refine ay fun y q=>?_;refine cE b (fun j b=>?_) (fun j b=>?_)
    ·try dsimp only at j
     have K:=oD j;refine sk q ?_;clear q y;refine ay fun B t=>?_;refine block ?_;refine af (S Mv (S As (nil ?_)));refine af (S Mv (S Mv (S Mv ?_)));obtain⟨L,C,b⟩:=bO b;refine S (ix aa.c p C) (S Ld ?_);obtain⟨M,E,b⟩:=bO b;refine s0 (en rfl rfl (u _ _ E)) rfl ?_;refine nil ?_;refine cE b (fun F b=>?_) (fun F b=>?_)
     ·refine af (S Mv (S As (nil ?_)));exact rt b
     refine sk t ?_;clear t B;refine region ?_;refine SI ?_;refine S Mv (nil ?_);exact x _ (i,(p+1)) wA b (nS _)
    refine ag.exit ?_;exact w _ () wA b
 rintro _ b;try dsimp only at b
 unfold tE at b;refine af (S As (nil ?_));exact rt b
def q7 (f:(aa->Option Bool)):List aa->Nat->Option (Unit ⊕ Int)
 | [],b=>some (Sum.inl ())
 | g::i,b=>on (g) fun j=>(f j).bind fun k=>bif k then(some (Sum.inr ((b:Nat):Int))) else(q7 f (i) (b+1) )
theorem SO {g:Sl aa}{k:aa->Option Bool}(i:(Unit ⊕ Int)->Option Int) (m:∀(f:Nat) (b:Nat),tE   =i (Sum.inl ())) (o:∀e:Int,some e=i (Sum.inr e)):∀(f:Nat) (b:Nat),(0<f/\g.l.length<b+f)->tF g k f b=Option.bind (q7 k (g.l.drop b) b ) i:=by
 intro f;induction f with
 | zero=>intro b hn; exact absurd hn.1 (by omega)
 | succ f p =>
  intro b hn;rw [tF];by_cases aY:b<g.l.length
  ·obtain⟨q,j⟩:=Qa aY;rw [Q.jQ j,q7];refine QT aY ?_;refine Q.m_ j fun r s=>?_;refine Q.oz rfl fun t=>?_;refine Q.mZ ?_ ?_
   ·all_goals exact o _
   all_goals exact p _ ⟨by omega,by omega⟩
  rw [dL (by omega),q7];refine QF aY ?_;exact m f b
def yj (g:(Sl aa)) (i:(aa->Option Bool)):Option Int:=Option.bind (q7 i g.l 0 ) fun b=>match b with|Sum.inl _=>(on (()) fun _=>some (-1:Int))|Sum.inr f=>(some f)
theorem SP (a0:(Sl aa)) (a1:(aa->Option Bool)):vr a0 a1=yj a0 a1:=by
 unfold vr yj;refine Qs ?_;refine Q.rV fun f b=>?_;refine SO  f ?_ ?_ _ _ ⟨Nat.succ_pos _,by omega⟩
 ·intro k l;refine Qe (b _) ?_;try dsimp only
  refine Q.rU fun g i=>?_;have j:tE  =g ():=by
   refine Qe (i _) ?_;unfold tE;all_goals rfl
  all_goals exact j
 intro m;refine Qe (b _) ?_;try dsimp only
 all_goals rfl
def vt (f:(Sl aa)) (g:(aa->Option Bool)):Option Bool:=(vr f g).bind fun b=>some (decide ((0:Int)<=b))
theorem SQ {i:Sl aa}{j:aa->Option Bool}{w0:Option Nat}{f:List D}{k1:Nat}{r:Bool}(b:vt i j=some r) (H:ah) (k:∀g r,j g=some r->∀H,AC Tryz.prog k1 ([.agg (aa.c g)]++f.map A.d) H fun v h'=>v=.a (.d (.bool r))/\h'=H):AC Tryz.prog 247 [.d (Sl.d 5 aa.c w0 i),.d (.func k1 f)] H fun v h'=>v=.a (.d (.bool r))/\h'=H:=by
 unfold vt at b;refine AC.oW 9 [.tmp 4] Tryz.call247 Tryz.func247 ?_;refine af (S As (nil ?_));refine af (S Mv (S Mv ?_));obtain⟨m,l,b⟩:=bO b;refine s0 (en rfl rfl (fun H=>SN l H k)) rfl ?_;refine S BI (S As (nil ?_));exact rt b
def yl (f:(Sl aa)) (g:(aa->Option Bool)):Option Bool:=(yj f g).bind fun b=>some (decide ((0:Int)<=b))
theorem SR (a0:(Sl aa)) (a1:(aa->Option Bool)):vt a0 a1=yl a0 a1:=by
 unfold vt yl;refine Qs ?_;refine Q.oz (by simp only [SP]) fun b=>?_;all_goals rfl
mutual
def pK:Nat->aa->Bool->Option Bool
 | 0,_,_=>none
 | n+1,f,g=>(tD f g).bind fun b=>aN (b) (yl f.av (fun i=>(q8 n) i g)) false fun j=>some (b&&(!j))
def q8:Nat->aa->Bool->Option Bool
 | 0,_,_=>none
 | n+1,f,g=>((pK n) f g).bind fun b=>some (!b)
end
def ym (n:Nat):Prop:=∀{a0:aa}{a1:Bool}   {r:Bool},pK n a0 a1=some r->∀(H:ah),AC Tryz.prog 216 [.agg (aa.c a0),.d (.bool a1)] H fun v h'=>v=.a (.d (.bool r))/\h'=H
def yo (n:Nat):Prop:=∀{a0:aa}{a1:Bool}   {r:Bool},q8 n a0 a1=some r->∀(H:ah),AC Tryz.prog 248 [.agg (aa.c a0),.d (.view (qg a1))] H fun v h'=>v=.a (.d (.bool r))/\h'=H
theorem SS (n:Nat) (p:ym (ak:=ak) n) (f:yo (ak:=ak) n):ym (ak:=ak) (n+1):=by
 intro m o   r b H;rw [pK] at b;refine AC.oW 15 [.tmp 4] Tryz.call216 Tryz.func216 ?_;refine af (S BX (S BX (S As (nil ?_))));refine af (S Ld (S Ld ?_));obtain⟨q,g,b⟩:=qT (SL _ _) b;refine Sc rfl rfl (SM g) ?_;refine S Mv (G0 Fv ?_);refine gC rfl rfl (fun hC=>aG (k:=9) rfl (bS (TK rfl) rfl rfl (congrArg (fun x=>some (A.d x)) (aa.dm _)))) rfl ?_
 refine gC rfl rfl (fun hC=>makeFunc rfl) rfl ?_;obtain⟨s,i,b⟩:=dx (o':=vt m.av (fun j=>(q8 n) j o)) (by simp only [SR]) b;refine gC rfl rfl (fun hC=>aG (k:=10) rfl (aG (k:=11) rfl (en rfl rfl (fun H=>SQ (i hC) H (fun _ _ l=>f l))))) rfl ?_;refine G1 12 rfl NB ?_;refine S PA (S As (nil ?_));exact rt b
theorem SU (n:Nat) (f:ym (ak:=ak) n) (i:yo (ak:=ak) n):yo (ak:=ak) (n+1):=by
 intro k l   r b H;rw [q8] at b;refine AC.oW 8 [.tmp 3] Tryz.call248 Tryz.func248 ?_;refine af (S BX (S As (nil ?_)));refine af (S Ld (S Ld ?_));obtain⟨j,g,b⟩:=qT rfl b;refine Sc rfl rfl (f g) ?_;refine S NB (S As (nil ?_));exact rt b
theorem vu:∀(n:Nat),(ym (ak:=ak) n)/\(yo (ak:=ak) n)
 | 0=>⟨fun b=>by first|cases b|(rw [pK] at b; cases b),fun b=>by first|cases b|(rw [q8] at b; cases b)⟩
 | n+1=>⟨SS n (vu n).1 (vu n).2,SU n (vu n).1 (vu n).2⟩
def I4 (a0:aa) (a1:Bool):Option Bool:=pK F0 a0 a1
theorem SV {b:aa}{f r:Bool}(g:I4 b f=some r) (H:ah) :AC Tryz.prog 216 [.agg (aa.c b),.d (.bool f)] H fun v h'=>v=.a (.d (.bool r))/\h'=H:=(vu F0).1 g H 
def CL (b:aa) (f:Bool):Option Bool:=pK F0 b f
theorem SX (a0:aa) (a1:Bool):I4 a0 a1=CL a0 a1:=rfl
def q_ (f:aa):Option Bool:=(yf f).bind fun b=>aN ((decide (b<=(4096:Int)))) (yg f) (0:Int) fun g=>aN (((decide (b<=(4096:Int)))&&(decide (g<=(24:Int))))) (CL f false) false fun i=>some (((decide (b<=(4096:Int)))&&(decide (g<=(24:Int))))&&i)
def CM (b:aa):Option Bool:=q_ b
theorem SY (a0:aa):CM a0=q_ a0:=rfl
theorem SZ {f:aa}{r:Bool}(b:CM f=some r) (H:ah) :AC Tryz.prog 172 [.agg (aa.c f)] H fun v h'=>v=.a (.d (.bool r))/\h'=H:=by
 unfold CM q_ at b;refine AC.oW 15 [.tmp 2] Tryz.call172 Tryz.func172 ?_;refine af (S BX (S As (nil ?_)));refine af (S Ld ?_);obtain⟨k,g,b⟩:=qT (Sx _) b;refine Sc rfl rfl (Sw g) ?_;refine S BI (S Mv (G0 Ld ?_));obtain⟨l,i,b⟩:=dx (SA _) b;refine dA 7 rfl rfl rfl rfl rfl (fun hC=>Sz (i hC)) ?_;refine G1 8 rfl BI ?_;refine S PA (S Mv (G0 Ld ?_));obtain⟨m,j,b⟩:=dx (SX _ _) b
 refine dA 12 rfl rfl rfl rfl rfl (fun hC=>SV (j hC)) ?_;refine S PA (S As (nil ?_));exact rt b
def mA (p:aq) (o:(Sl Z8)) (f:(Sl aD)):List Z8->Nat->Int->Option (Int ⊕ Bool)
 | [],j,b=>some (Sum.inl b)
 | q::r,j,b=>on (q) fun i=>on ((⟨o.nl,o.l.take j⟩:Sl Z8)) fun s=>on (iV s i.ai) fun t=>on (fun(u:Int)=>mA p o f (r) (j+1) u) fun k=>bif t.2 then(k b) else(aN ((decide (b<((f.l.length:Nat):Int)))) (bV f.l b) aD.zero fun v=>bif ((decide (b<((f.l.length:Nat):Int)))&&((v.ai==i.ai))) then((bV f.l b).bind fun w=>(nT p i.aJ w.eU).bind fun g=>aN (!(!decide (g.2=(0:Int)))) (bV f.l b) aD.zero fun x=>aN (!(!decide (g.2=(0:Int)))) (q_ x.eU) false fun m=>aN (!((!decide (g.2=(0:Int)))||(!m))) (bV f.l b) aD.zero fun y=>aN (!((!decide (g.2=(0:Int)))||(!m))) (pz g.1 y.eU) false fun z=>bif (((!decide (g.2=(0:Int)))||(!m))||(!z)) then(some (Sum.inr false)) else((bG b (1:Int)).bind fun B=>k B)) else(on (gq i.aJ) fun C=>bif (C||i.c_) then(some (Sum.inr false)) else(k b)))
def rf (m:aq) (b:(Sl Z8)) (f:(Sl aD)):Option Bool:=Option.bind (mA m b f b.l 0 (0:Int)) fun g=>match g with|Sum.inl i=>(on (i) fun j=>some (decide (j=((f.l.length:Nat):Int))))|Sum.inr k=>(some k)
def CN (b:aq) (f:(Sl Z8)) (g:(Sl aD)):Option Bool:=rf b f g
theorem S2 (a0:aq) (a1:(Sl Z8)) (a2:(Sl aD)):CN a0 a1 a2=rf a0 a1 a2:=rfl
theorem S3 {m:aq}{g:Sl Z8}{i:Sl aD}{E F:Option Nat}{oT:Ab.Obj}{gT:Nat}{r:Bool}(b:CN m g i=some r) (H:ah) (ao:H gT=some oT) (ap:fP Tryz.prog oT):AC Tryz.prog 110 [.agg (aq.c m),.d (Sl.d 10 Z8.c E g),.d (Sl.d 6 aD.c F i)] H fun v h'=>v=.a (.d (.bool r))/\h'=H:=by
 unfold CN rf at b;refine AC.oW 92 [.tmp 6] Tryz.call110 Tryz.func110 ?_;refine af (S BX (S As (nil ?_)));refine af (S As (nil ?_));refine aT (TA 2 kN) (fun(z:Int)=>[(7,.a (.d (.int .i64 z)))]) (fun z=>H) (fun z=>(some (decide (z=((i.l.length:Nat):Int))))=some r) ?_ ?_
 ·intro av G;refine af (S Mv ?_);refine sLen (f:=Z8.c) (s:=g) (TK rfl) rfl rfl rfl rfl fun aw=>?_;refine S Mv (nil ?_);refine block ?_;obtain⟨p,q,b⟩:=cB b;refine bx (TA 1 (TA 2 (TA 3 (TA 14 (TA 15 kN))))) (fun(z:Int×Nat)=>[(7,.a (.d (.int .i64 z.1))),(16,.a (.d (.int .i64 ((z.2:Nat):Int))))]) (fun z=>H) (fun z=>g.l.length-z.2) (fun z=>Option.bind (mA m g i (g.l.drop z.2) z.2 z.1) p=some r) ((0:Int),0) b wA ?_
  rintro ⟨o,j⟩ b ax I;try dsimp only at b
  refine af (S BI (nil ?_));refine ay fun J w=>?_;refine ag.cA (fun l=>Option.bind (mA m g i l j o) p=some r) b rfl (fun az x t b=>?_) (fun t b=>?_)
  ·rw [mA] at b;try dsimp only at t
   have aA:=oD t;refine sk w ?_;clear w J;refine aT (TA 1 (TA 2 (TA 3 (TA 14 (TA 15 (TA 16 kN)))))) (fun(z:Int)=>[(7,.a (.d (.int .i64 z)))]) (fun z=>H) (fun z=>Option.bind (mA m g i (g.l.drop (j+1)) (j+1) z) p=some r) ?_ ?_
   ·intro aB u;refine block ?_;refine af (S Mv ?_);obtain⟨aC,K,b⟩:=vO x b;refine S (ix Z8.c j K) (S Ld ?_);refine Sl ?_;refine S As ?_;refine Sf ?_;refine nil ?_;refine bu 9 _ rfl (KA 1 (KA 2 (KA 3 (KA 7 (KA 8 (KA 14 (KA 15 (KA 16 aS.nil)))))))) ?_;refine ay fun L y=>?_;refine ag.bY (Sd Mv (Sd Mv ?_));obtain⟨aE,M,b⟩:=vO (Q.qq (by omega)) b;refine au.s0 (lJ (f:=Z8.c) (l:=none) (r:=(some ((j:Nat):Int))) (TK rfl) rfl (TK rfl) rfl rfl trivial rfl M) rfl ?_
    refine Sd Fv (Sd Ld ?_);obtain⟨aF,N,b⟩:=vO (Cm _ _) b;refine cq rfl rfl (Cn N) ?_;refine Sd Mv (Sd EX (Sd EX ?_));refine au.sB (TK rfl) rfl rfl ?_ (by repeat (first|exact bA.nil|apply bA.cons));refine au.dh (dH (TK rfl) rfl rfl rfl rfl rfl) ?_;refine Sd As ?_;refine au.nil (by decide +kernel) ?_;refine bu 10 _ rfl (KA 1 (KA 2 (KA 3 (KA 7 (KA 9 (KA 11 (KA 14 (KA 15 (KA 16 aS.nil))))))))) ?_
    refine af (S Mv (nil ?_));obtain⟨_,rfl,b⟩:=mO b;refine cO b (fun O b=>?_) (fun O b=>?_)
    ·refine ag.exit ?_;exact u _ o wA b
    refine sk y ?_;clear y L;refine ay fun P B=>?_;refine ag.bY (Sd Mv (Sd Mv ?_));refine au.s0 (cZ (f:=aD.c) (s:=i) (TK rfl) rfl rfl rfl) rfl ?_;refine Sd BI (Sd Mv (b_ Mv (b_ Mv ?_)));obtain⟨aH,R,b⟩:=eA rfl b;refine au.gC rfl rfl (fun hC=>aG (k:=36) rfl (aG (k:=37) rfl (fu (f:=aD.c) (TK rfl) rfl (TK rfl) rfl rfl rfl (R hC)))) rfl ?_;refine cm 38 rfl Fv ?_
    refine cm 39 rfl Ld ?_;refine b_ Fv ?_;refine cm 41 rfl Ld ?_;refine uE 40 42 rfl rfl BS ?_;refine Sd PA ?_;refine au.nil (by decide +kernel) ?_;refine cO b (fun U b=>?_) (fun U b=>?_)
    ·refine ag.bY (Sd Ld (Sd Fv (Sd Ld (Sd Mv (Sd Mv ?_)))));obtain⟨aJ,W,b⟩:=qO rfl b;refine au.s0 (fu (f:=aD.c) (TK rfl) rfl (TK rfl) rfl rfl rfl W) rfl ?_;refine Sd Fv (Sd Ld ?_);obtain⟨aK,X,b⟩:=qO (Ss _ _ _) b;refine au.s0 (gN rfl rfl (Su (gT:=gT) (oT:=oT) X _ aI (by assumption))) rfl ?_;refine Sd Mv (Sd EX (Sd EX ?_));refine au.sB (TK rfl) rfl rfl ?_ (by repeat (first|exact bA.nil|apply bA.cons))
     refine au.dh (dH (TK rfl) rfl rfl rfl rfl rfl) ?_;refine Sd As ?_;refine au.nil (by decide +kernel) ?_;refine bu 12 _ rfl (KA 1 (KA 2 (KA 3 (KA 7 (KA 13 (KA 14 (KA 15 (KA 16 aS.nil)))))))) ?_;refine ay fun Y C=>?_;refine ag.bY (Sd Mv (Sd BI (Sd Mv (b_ Mv (b_ Mv ?_)))));obtain⟨aL,Z,b⟩:=eA rfl b;refine au.gC rfl rfl (fun hC=>aG (k:=60) rfl (aG (k:=61) rfl (fu (f:=aD.c) (TK rfl) rfl (TK rfl) rfl rfl rfl (Z hC)))) rfl ?_
     refine cm 62 rfl Fv ?_;refine cm 63 rfl Ld ?_;obtain⟨aM,aa,b⟩:=eA (SY _) b;refine qs 64 rfl rfl rfl rfl rfl (fun hC=>SZ (aa hC)) ?_;refine cm 65 rfl NB ?_;refine Sd PO (Sd Mv (b_ Ld (b_ Mv (b_ Mv ?_))));obtain⟨aN,ab,b⟩:=eA rfl b;refine au.gC rfl rfl (fun hC=>aG (k:=70) rfl (aG (k:=71) rfl (fu (f:=aD.c) (TK rfl) rfl (TK rfl) rfl rfl rfl (ab hC)))) rfl ?_
     refine cm 72 rfl Fv ?_;refine cm 73 rfl Ld ?_;obtain⟨aO,ad,b⟩:=eA (IF _ _) b;refine oA 69 74 rfl rfl rfl rfl rfl rfl (fun hC=>IG (ad hC)) ?_;refine cm 75 rfl NB ?_;refine Sd PO ?_;refine au.nil (by decide +kernel) ?_;refine cO b (fun ae b=>?_) (fun ae b=>?_)
     ·refine af (S As (nil ?_));refine ag.ret ?_;repeat (first|refine bK ?_|refine bL ?_)
      have b:=ku q b;obtain rfl:=oJ b;refine bz.bJ H rfl ⟨rfl,rfl⟩ ?_;exact(fun _ _ h=>h)
     refine sk C ?_;clear C Y;refine af (S Mv ?_);obtain⟨ai,aj,b⟩:=qO rfl b;refine s0 (cI rfl rfl aj) rfl ?_;refine S As (nil ?_);refine ag.exit ?_;exact u _ ai wA b
    refine sk B ?_;clear B P;refine af (S Fv (S Ld ?_));obtain⟨aP,ak,b⟩:=vO (u_ _) b;refine Sc rfl rfl (vb ak) ?_;refine S Mv (G0 Fv ?_);refine G1 84 rfl Ld ?_;refine S PO (nil ?_);refine cO b (fun al b=>?_) (fun al b=>?_)
    ·refine af (S As (nil ?_));refine ag.ret ?_;repeat (first|refine bK ?_|refine bL ?_)
     have b:=ku q b;obtain rfl:=oJ b;refine bz.bJ H rfl ⟨rfl,rfl⟩ ?_;exact(fun _ _ h=>h)
    refine ag.skip ?_;exact u _ o wA b
   rintro am b;try dsimp only at b
   refine region ?_;refine SI ?_;refine S Mv (nil ?_);exact I _ (am,(j+1)) wA b (dl x)
  rw [mA] at b;have b:=ku q b;try dsimp only at b
  refine ag.exit ?_;obtain⟨aQ,an,b⟩:=bW b;have b:=ku an b;exact G _ o wA b
 rintro aR b;try dsimp only at b
 refine af (S Mv (S Mv ?_));refine sLen (f:=aD.c) (s:=i) (TK rfl) rfl rfl rfl rfl fun aU=>?_;refine S BI (S As (nil ?_));exact rt b
def tG (i:aq) (b:aj):Option Bool:=aN ((!(decide (b.dR<(-1:Int)))&&(decide ((0:Int)<=b.dR)))) (qX b.aJ) false fun m=>bif ((decide (b.dR<(-1:Int)))||((decide ((0:Int)<=b.dR))&&(!m))) then(some false) else(bif ((b.ai==([95,95,116,121,112,101,110,97,109,101]:Bs))) then((vc ).bind fun o=>(qV b.aJ o).bind fun j=>aN (((j&&(decide (((b.aO.l.length:Nat):Int)=(0:Int))))&&(decide (((b.bE.l.length:Nat):Int)=(0:Int))))) (qY b.bF) false fun p=>some (((j&&(decide (((b.aO.l.length:Nat):Int)=(0:Int))))&&(decide (((b.bE.l.length:Nat):Int)=(0:Int))))&&(p||((b.bF==([95,95,116,121,112,101,110,97,109,101]:Bs)))))) else(on (eL i b.bR) fun q=>on (kF q.1 b.ai) fun f=>aN (!(!f.2)) (qV b.aJ f.1.aJ) false fun g=>aN (!((!f.2)||(!g))) (qY b.bF) false fun k=>aN (!(((!f.2)||(!g))||(!k))) (rf i f.1.aO b.aO) false fun r=>bif ((((!f.2)||(!g))||(!k))||(!r)) then(some false) else(on (bif !(decide (((b.bE.l.length:Nat):Int)=(0:Int))) then lB i b.aJ.ai else false) fun s=>some ((decide (((b.bE.l.length:Nat):Int)=(0:Int)))||(!s)))))
def CO (b:aq) (f:aj):Option Bool:=tG b f
theorem S4 (a0:aq) (a1:aj):CO a0 a1=tG a0 a1:=rfl
theorem S5 {m:aq}{g:aj}{oT:Ab.Obj}{gT:Nat}{r:Bool}(b:CO m g=some r) (H:ah) (L:H gT=some oT) (M:fP Tryz.prog oT):AC Tryz.prog 63 [.agg (aq.c m),.agg (aj.c g)] H fun v h'=>v=.a (.d (.bool r))/\h'=H:=by
 unfold CO tG at b;refine AC.oW 103 [.tmp 4] Tryz.call63 Tryz.func63 ?_;refine af (S BX (S BX (S As (nil ?_))));refine ay fun o i=>?_;refine af (S Fv (S Ld (S BI (S Mv (G0 Fv ?_)))));refine G1 13 rfl Ld ?_;refine G1 14 rfl BI ?_;refine G1 15 rfl Mv ?_;refine G0 Fv ?_;refine G1 17 rfl Ld ?_;obtain⟨N,p,b⟩:=dx (It _) b;refine dA 18 rfl rfl rfl rfl rfl (fun hC=>Iu (p hC)) ?_
 refine G1 19 rfl NB ?_;refine gC rfl rfl (fun hC=>aG (k:=16) rfl (fV rfl rfl rfl)) rfl ?_;refine S PO (nil ?_);refine cE b (fun q b=>?_) (fun q b=>?_)
 ·refine af (S As (nil ?_));exact rt b
 refine sk i ?_;clear i o;refine ay fun t j=>?_;refine af (S Fv (S Ld (S BS (nil ?_))));refine cE b (fun u b=>?_) (fun u b=>?_)
 ·refine ag.bY (Sd Fv (Sd Ld ?_));obtain⟨O,w,b⟩:=qT (Rs ) b;refine cq rfl rfl (Iv w) ?_;obtain⟨P,y,b⟩:=qT (Ip _ _) b;refine cq rfl rfl (B5 y) ?_;refine Sd Mv (b_ Fv ?_);refine cm 31 rfl Ld ?_;refine au.gC rfl rfl (fun hC=>aG (k:=32) rfl (cZ (f:=aD.c) (s:=g.aO) (TK rfl) rfl rfl rfl)) rfl ?_;refine cm 33 rfl BI ?_;refine Sd PA (Sd Mv (b_ Fv ?_))
  refine au.gC rfl rfl (fun hC=>aG (k:=37) rfl (bS (TK rfl) rfl rfl (congrArg (fun x=>some (A.d x)) (aj.gG _)))) rfl ?_;refine au.gC rfl rfl (fun hC=>aG (k:=38) rfl (cZ (f:=aj.c) (s:=g.bE) (TK rfl) rfl rfl rfl)) rfl ?_;refine cm 39 rfl BI ?_;refine Sd PA (Sd Mv (b_ Fv ?_));refine cm 43 rfl Ld ?_;obtain⟨Q,z,b⟩:=dx (Iw _) b;refine qs 44 rfl rfl rfl rfl rfl (fun hC=>Iy (z hC)) ?_
  refine cm 45 rfl Mv ?_;refine b_ Fv ?_;refine cm 47 rfl Ld ?_;refine cm 48 rfl BS ?_;refine au.gC rfl rfl (fun hC=>aG (k:=46) rfl (qk rfl rfl rfl)) rfl ?_;refine Sd PA (Sd As ?_);refine au.nil (by decide +kernel) ?_;exact rt b
 refine sk j ?_;clear j t;refine af (S Ld (S Fv (S Ld ?_)));obtain⟨R,B,b⟩:=vT (oO _ _) b;refine Sc rfl rfl (pq B) ?_;refine S Mv (S EX (S EX ?_));refine Sl ?_;refine Sf ?_;refine S As (nil ?_);refine bu 5 _ rfl (KA 2 (KA 3 aS.nil)) ?_;refine af (S Ld (S Fv (S Ld ?_)));obtain⟨U,C,b⟩:=vT (RA _ _) b;refine Sc rfl rfl (Iz C) ?_;refine S Mv (S EX (S EX ?_))
 refine Sl ?_;refine Sf ?_;refine S As (nil ?_);refine bu 7 _ rfl (KA 2 (KA 3 (KA 8 aS.nil))) ?_;refine ay fun E l=>?_;refine af (S Mv (S NB (S Mv (G0 Fv ?_))));refine G1 69 rfl Ld ?_;refine G0 Fv ?_;refine G1 71 rfl Ld ?_;obtain⟨W,F,b⟩:=dx (Ip _ _) b;refine fI 70 72 rfl rfl rfl rfl rfl rfl (fun hC=>B5 (F hC)) ?_;refine G1 73 rfl NB ?_;refine S PO (S Mv (G0 Fv ?_))
 refine G1 77 rfl Ld ?_;obtain⟨X,G,b⟩:=dx (Iw _) b;refine dA 78 rfl rfl rfl rfl rfl (fun hC=>Iy (G hC)) ?_;refine G1 79 rfl NB ?_;refine S PO (S Mv (G0 Ld (G0 Fv ?_)));refine G1 84 rfl Ld ?_;refine G0 Fv ?_;refine G1 86 rfl Ld ?_;obtain⟨Y,I,b⟩:=dx (S2 _ _ _) b;refine gC rfl rfl (fun hC=>aG (k:=83) rfl (aG (k:=85) rfl (aG (k:=87) rfl (gN rfl rfl (S3 (gT:=gT) (oT:=oT) (I hC) _ aI (by assumption)))))) rfl ?_
 refine G1 88 rfl NB ?_;refine S PO (nil ?_);refine cE b (fun J b=>?_) (fun J b=>?_)
 ·refine af (S As (nil ?_));exact rt b
 refine sk l ?_;clear l E;refine af (S Fv ?_);refine s0 (bS (TK rfl) rfl rfl (congrArg (fun x=>some (A.d x)) (aj.gG _))) rfl ?_;refine sLen (f:=aj.c) (s:=g.bE) (TK rfl) rfl rfl rfl rfl fun Z=>?_;refine S BI (S Mv (G0 Ld (G0 Fv ?_)));refine G1 97 rfl Fv ?_;refine G1 98 rfl Ld ?_;obtain⟨aa,K,b⟩:=lN (fun _=>(IQ _ _)) b;refine fI 96 99 rfl rfl rfl rfl rfl rfl (fun hC=>IR (K hC)) ?_
 refine G1 100 rfl NB ?_;refine S PO (S As (nil ?_));exact rt b
def tH  :Option Int:=some (-1:Int)
def tI (f:(Sl aj)) (g:(aj->Option Bool)) :Nat->Nat->Option Int
 | 0,_=>none
 | i+1,b=>bif (decide (((b:Nat):Int)<((f.l.length:Nat):Int))) then((f.l[b]?).bind fun j=>(g j).bind fun k=>bif k then(some ((b:Nat):Int)) else((tI f g i) (b+1))) else(tH   )
def vv (b:(Sl aj)) (f:(aj->Option Bool)):Option Int:=tI b f (b.l.length+1) 0
theorem S6 {g:Sl aj}{k:aj->Option Bool}{w0:Option Nat}{m:List D}{k1:Nat}{r:Int}(b:vv g k=some r) (H:ah) (u:∀o r,k o=some r->∀H,AC Tryz.prog k1 ([.agg (aj.c o)]++m.map A.d) H fun v h'=>v=.a (.d (.bool r))/\h'=H):AC Tryz.prog 112 [.d (Sl.d 9 aj.c w0 g),.d (.func k1 m)] H fun v h'=>v=.a (.d (.int .i64 r))/\h'=H:=by
 unfold vv at b;refine AC.oW 19 [.tmp 4] Tryz.call112 Tryz.func112 ?_;refine af (S As (nil ?_));refine aT kN (fun(z:Unit)=>[]) (fun z=>H) (fun z=>tH =some r) ?_ ?_
 ·intro G w;refine af (S Mv ?_);refine sLen (f:=aj.c) (s:=g) (TK rfl) rfl rfl rfl rfl fun I=>?_;refine S Mv (nil ?_);refine block ?_;refine bx (TA 0 (TA 1 (TA 7 kN))) (fun(z:Nat×Nat)=>[(8,.a (.d (.int .i64 ((z.2:Nat):Int))))]) (fun z=>H) (fun z=>z.1) (fun z=>tI g k z.1 z.2=some r) ((g.l.length+1),0) b wA ?_;rintro ⟨i,p⟩ b J x;try dsimp only at b
  cases i with
  | zero=>cases b
  | succ i =>
    rw [tI] at b;refine af (S BI (nil ?_));refine ay fun y q=>?_;refine cE b (fun j b=>?_) (fun j b=>?_)
    ·try dsimp only at j
     have K:=oD j;refine sk q ?_;clear q y;refine ay fun B t=>?_;refine block ?_;refine af (S Mv (S As (nil ?_)));refine af (S Mv (S Mv (S Mv ?_)));obtain⟨L,C,b⟩:=bO b;refine S (ix aj.c p C) (S Ld ?_);obtain⟨M,E,b⟩:=bO b;refine s0 (en rfl rfl (u _ _ E)) rfl ?_;refine nil ?_;refine cE b (fun F b=>?_) (fun F b=>?_)
     ·refine af (S Mv (S As (nil ?_)));exact rt b
     refine sk t ?_;clear t B;refine region ?_;refine SI ?_;refine S Mv (nil ?_);exact x _ (i,(p+1)) wA b (nS _)
    refine ag.exit ?_;exact w _ () wA b
 rintro _ b;try dsimp only at b
 unfold tH at b;refine af (S As (nil ?_));exact rt b
def oL (f:(aj->Bool)):List aj->Nat->Unit ⊕ Int
 | [],b=>Sum.inl ()
 | g::i,b=>on (g) fun j=>on (f j) fun k=>bif k then(Sum.inr ((b:Nat):Int)) else(oL f (i) (b+1) )
theorem S7 {g:Sl aj}{k:aj->Bool}(i:(Unit ⊕ Int)->Option Int) (m:∀(f:Nat) (b:Nat),tH   =i (Sum.inl ())) (o:∀e:Int,some e=i (Sum.inr e)):∀(f:Nat) (b:Nat),(0<f/\g.l.length<b+f)->tI g (fun p=>some (k p)) f b=i (oL k (g.l.drop b) b ):=by
 intro f;induction f with
 | zero=>intro b hn; exact absurd hn.1 (by omega)
 | succ f q =>
  intro b hn;rw [tI];by_cases aY:b<g.l.length
  ·obtain⟨r,j⟩:=Qa aY;rw [Q.jQ j,oL];refine QT aY ?_;refine Q.rT j fun s t=>?_;refine Q.rT rfl fun u v=>?_;refine Q.wO ?_ ?_
   ·all_goals exact o _
   all_goals exact q _ ⟨by omega,by omega⟩
  rw [dL (by omega),oL];refine QF aY ?_;exact m f b
def xh (g:(Sl aj)) (i:(aj->Bool)):Int:=on (oL i g.l 0 ) fun b=>match b with|Sum.inl _=>(on (()) fun _=>(-1:Int))|Sum.inr f=>(f)
theorem S8 (a0:(Sl aj)) (a1:(aj->Bool)):vv a0 (fun f=>some (a1 f))=some (xh a0 a1):=by
 unfold vv xh;refine Q.wP fun g b=>?_;refine S7  g ?_ ?_ _ _ ⟨Nat.succ_pos _,by omega⟩
 ·intro l m;refine Qe (b _) ?_;try dsimp only
  refine Q.wP fun i j=>?_;have k:tH  =i ():=by
   refine Qe (j _) ?_;unfold tH;all_goals rfl
  all_goals exact k
 intro o;refine Qe (b _) ?_;try dsimp only
 all_goals rfl
def vz (f:(Sl aj)) (g:(aj->Option Bool)):Option Bool:=(vv f g).bind fun b=>some (decide ((0:Int)<=b))
theorem S9 {i:Sl aj}{j:aj->Option Bool}{w0:Option Nat}{f:List D}{k1:Nat}{r:Bool}(b:vz i j=some r) (H:ah) (k:∀g r,j g=some r->∀H,AC Tryz.prog k1 ([.agg (aj.c g)]++f.map A.d) H fun v h'=>v=.a (.d (.bool r))/\h'=H):AC Tryz.prog 64 [.d (Sl.d 9 aj.c w0 i),.d (.func k1 f)] H fun v h'=>v=.a (.d (.bool r))/\h'=H:=by
 unfold vz at b;refine AC.oW 9 [.tmp 4] Tryz.call64 Tryz.func64 ?_;refine af (S As (nil ?_));refine af (S Mv (S Mv ?_));obtain⟨m,l,b⟩:=bO b;refine s0 (en rfl rfl (fun H=>S6 l H k)) rfl ?_;refine S BI (S As (nil ?_));exact rt b
def uK (f:(Sl aj)) (g:(aj->Bool)):Bool:=on (xh f g) fun b=>(decide ((0:Int)<=b))
theorem S_ (a0:(Sl aj)) (a1:(aj->Bool)):vz a0 (fun b=>some (a1 b))=some (uK a0 a1):=by
 unfold vz uK;refine Q.rT (S8 _ _) fun f g=>?_;all_goals rfl
def qB (b:aj) (f:aj):Bool:=(((b.bR==f.bR))&&((b.bF==f.bF)))
def yp (b:aj) (f:aj):Option Bool:=some (qB b f)
theorem Ta (a0:aj) (a1:aj):yp a0 a1=some (qB a0 a1):=rfl
theorem Tb {f g:aj}{r:Bool}(b:yp f g=some r) (H:ah) :AC Tryz.prog 65 [.agg (aj.c f),.d (.view (aj.c g))] H fun v h'=>v=.a (.d (.bool r))/\h'=H:=by
 unfold yp qB at b;refine AC.oW 16 [.tmp 3] Tryz.call65 Tryz.func65 ?_;refine af (S BX (S As (nil ?_)));refine af (S Fv (S Ld (S Fv (S Ld (S BS (S Mv (G0 Fv ?_)))))));refine G1 10 rfl Ld ?_;refine G0 Fv ?_;refine G1 12 rfl Ld ?_;refine G2 11 13 rfl rfl BS ?_;refine S PA (S As (nil ?_));exact rt b
def oM (j:aq) (k:(Sl aj)) (m:(Sl Bs)) (o:aq->(Sl aj)->Bs->Option Bool):List aj->Nat->Int->Option (Unit ⊕ Bool)
 | [],i,f=>some (Sum.inl ())
 | q::r,i,f=>on (q) fun b=>on (g_ m b.bR) fun g=>aN (!(decide (g<f))) (tG j b) false fun p=>aN (!((decide (g<f))||(!p))) (o j b.bE b.aJ.ai) false fun s=>bif (((decide (g<f))||(!p))||(!s)) then(some (Sum.inr false)) else(on ((⟨k.nl,k.l.take i⟩:Sl aj)) fun t=>on (uK t (fun u=>qB u b)) fun v=>bif v then(some (Sum.inr false)) else(oM j k m o (r) (i+1) g))
def lc:Nat->aq->(Sl aj)->Bs->Option Bool
 | 0,_,_,_=>none
 | n+1,b,f,k=>(qS b k).bind fun g=>Option.bind (oM b f g (lc n) f.l 0 (0:Int)) fun i=>match i with|Sum.inl _=>(on (()) fun _=>some true)|Sum.inr j=>(some j)
def CP (n:Nat):Prop:=∀{a0:aq}{a1:(Sl aj)}{a2:Bs}{b:Option Nat}{oT:Ab.Obj}{gT:Nat}{r:Bool},lc n a0 a1 a2=some r->∀(H:ah) (f:H gT=some oT) (g:fP Tryz.prog oT),AC Tryz.prog 29 [.agg (aq.c a0),.d (Sl.d 9 aj.c b a1),.d (.str a2)] H fun v h'=>v=.a (.d (.bool r))/\h'=H
theorem Tc (n:Nat) (B:CP (ak:=ak) n):CP (ak:=ak) (n+1):=by
 intro y g az ae oT gT r b H ai al;rw [lc] at b;refine AC.oW 52 [.tmp 6] Tryz.call29 Tryz.func29 ?_;refine af (S BX (S As (nil ?_)));refine af (S Ld (S Mv ?_));obtain⟨p,C,b⟩:=qT (Rk _ _) b;refine Sc rfl rfl (Io C) ?_;refine S As (nil ?_);refine af (S As (nil ?_));refine aT kN (fun(z:Unit)=>[]) (fun z=>H) (fun z=>(some true)=some r) ?_ ?_
 ·intro am E;refine af (S Mv ?_);refine sLen (f:=aj.c) (s:=g) (TK rfl) rfl rfl rfl rfl fun an=>?_;refine S Mv (nil ?_);refine block ?_;obtain⟨q,j,b⟩:=cB b;refine bx (TA 1 (TA 3 (TA 7 (TA 15 (TA 16 kN))))) (fun(z:Int×Nat)=>[(8,.a (.d (.int .i64 z.1))),(17,.a (.d (.int .i64 ((z.2:Nat):Int))))]) (fun z=>H) (fun z=>g.l.length-z.2) (fun z=>Option.bind (oM y g p (lc n) (g.l.drop z.2) z.2 z.1) q=some r) ((0:Int),0) b wA ?_
  rintro ⟨F,i⟩ b ao G;try dsimp only at b
  refine af (S BI (nil ?_));refine ay fun I t=>?_;refine ag.cA (fun l=>Option.bind (oM y g p (lc n) l i F) q=some r) b rfl (fun ap u m b=>?_) (fun m b=>?_)
  ·rw [oM] at b;try dsimp only at m
   have aq:=oD m;refine sk t ?_;clear t I;refine ay fun J v=>?_;refine block ?_;refine af (S Mv ?_);obtain⟨K,L,b⟩:=vO u b;refine S (ix aj.c i L) (S Ld ?_);refine Sl ?_;refine S As ?_;refine Sf ?_;refine nil ?_;refine bu 10 _ rfl (KA 1 (KA 3 (KA 7 (KA 8 (KA 9 (KA 15 (KA 16 (KA 17 aS.nil)))))))) ?_;refine af (S Mv (S Fv (S Ld ?_)));obtain⟨M,N,b⟩:=vO (B0 _ _) b
   refine Sc rfl rfl (B1 N) ?_;refine S As (nil ?_);refine ay fun O w=>?_;refine af (S Mv (S Mv (S BI (S Mv (G0 Ld (G0 Ld ?_))))));obtain⟨au,P,b⟩:=eA (S4 _ _) b;refine gC rfl rfl (fun hC=>aG (k:=30) rfl (aG (k:=31) rfl (gN rfl rfl (S5 (gT:=gT) (oT:=oT) (P hC) _ aI (by assumption))))) rfl ?_;refine G1 32 rfl NB ?_;refine S PO (S Mv (G0 Ld (G0 Fv ?_)))
   refine gC rfl rfl (fun hC=>aG (k:=37) rfl (bS (TK rfl) rfl rfl (congrArg (fun x=>some (A.d x)) (aj.gG _)))) rfl ?_;refine G0 Fv ?_;refine G1 39 rfl Fv ?_;refine G1 40 rfl Ld ?_;obtain⟨av,R,b⟩:=eA rfl b;refine gC rfl rfl (fun hC=>aG (k:=36) rfl (aG (k:=38) rfl (aG (k:=41) rfl (gN rfl rfl (B (gT:=gT) (oT:=oT) (R hC) _ aI (by assumption)))))) rfl ?_;refine G1 42 rfl NB ?_
   refine S PO (nil ?_);refine cO b (fun U b=>?_) (fun U b=>?_)
   ·refine af (S As (nil ?_));refine ag.ret ?_;repeat (first|refine bK ?_|refine bL ?_)
    have b:=ku j b;obtain rfl:=oJ b;refine bz.bJ H rfl ⟨rfl,rfl⟩ ?_;exact(fun _ _ h=>h)
   refine sk w ?_;clear w O;refine af (S Mv (S As (nil ?_)));refine af (S Mv (S Mv ?_));obtain⟨W,X,b⟩:=vO (Q.qq (by omega)) b;refine s0 (lJ (f:=aj.c) (l:=none) (r:=(some ((i:Nat):Int))) (TK rfl) rfl (TK rfl) rfl rfl trivial rfl X) rfl ?_;refine s0 (makeFunc rfl) rfl ?_;obtain⟨aw,Y,b⟩:=vO (o:=vz W (fun Z=>yp Z K)) (by simp only [Ta,S_]) b
   refine s0 (en rfl rfl (fun H=>S9 Y H (fun _ _ aa=>Tb aa))) rfl ?_;refine nil ?_;refine cO b (fun ab b=>?_) (fun ab b=>?_)
   ·refine af (S As (nil ?_));refine ag.ret ?_;repeat (first|refine bK ?_|refine bL ?_)
    have b:=ku j b;obtain rfl:=oJ b;refine bz.bJ H rfl ⟨rfl,rfl⟩ ?_;exact(fun _ _ h=>h)
   refine sk v ?_;clear v J;refine region ?_;refine SI ?_;refine S Mv (nil ?_);exact G _ (M,(i+1)) wA b (dl u)
  rw [oM] at b;have b:=ku j b;try dsimp only at b
  refine ag.exit ?_;obtain⟨ax,ad,b⟩:=bW b;have b:=ku ad b;exact E _ () wA b
 rintro _ b;try dsimp only at b
 refine af (S As (nil ?_));exact rt b
theorem I5:∀(n:Nat),(CP (ak:=ak) n)
 | 0=>fun b=>by first|cases b|(rw [lc] at b; cases b)
 | n+1=>Tc n (I5 n)
def xm (b:aq) (f:(Sl aj)) (g:Bs):Option Bool:=lc F0 b f g
theorem Td {b:aq}{f:Sl aj}{g:Bs}{i:Option Nat}{oT:Ab.Obj}{gT:Nat}{r:Bool}(j:xm b f g=some r) (H:ah) (k:H gT=some oT) (l:fP Tryz.prog oT):AC Tryz.prog 29 [.agg (aq.c b),.d (Sl.d 9 aj.c i f),.d (.str g)] H fun v h'=>v=.a (.d (.bool r))/\h'=H:=(I5 F0) j H k l
def Te (b:aq) (f:(Sl aj)) (g:Bs):Option Bool:=lc F0 b f g
theorem PT (a0:aq) (a1:(Sl aj)) (a2:Bs):xm a0 a1 a2=Te a0 a1 a2:=rfl
section
variable [jO ak]
-- @uses supergraph/schema.Root supergraph/schema.Find supergraph/normal.list
/-- The levels of picks, each before those within it. -/
def gj:Nat->Int->List aj->Option (List Int)
 | 0,_,_=>none
 | _+1,_,[]=>some []
 | n+1,f,p::r=>(bG f 1).bind fun k=>(gj n k p.bE.l).bind fun a=>(gj n f r).bind fun b=>some (f::(a++b))
def Tf (C:List Nat) (f g:List (Int×Value)->World->Prop) (pre:List (Int×Value)) (xs:List Int) (w:World):Ending->World->Prop:=fun e w' =>
 (e=.returned (.bool true)/\∃b,b.map (·.1)=xs/\f (pre++b) w'/\gD C w w')\/(e=.returned (.bool false)/\∃q,q.map (·.1) <+: xs/\g (pre++q) w')
noncomputable def Tg (s:Sl aj) (b:Int) (l0:Nat) (i:Nat):Ts:=[(11,.a (.d (.int .i64 ((i:Nat):Int)))),(10,.a (.d (.int .i64 ((s.l.length:Nat):Int)))),(9,.a (.d (Sl.d 9 aj.c none s))),(6,.a (.d (.bool false))),(1,.a (.d (.int .i64 b))),(2,.a (.d (.yield l0)))]
theorem Th {l0:Nat}{C:List Nat}{B N:Nat}{G ab:List (Int×Value)->World->Prop}(aR:AbidesFrom B G) (aT:AbidesFrom B ab)
  (aU:∀m pre (x:Int×Value) W,G pre W->pre.length<N->YieldAt Fence.wide m Tryz.prog l0 #[.int .i64 x.1,x.2] W fun e W'=>(e=.returned (.bool true)/\G (pre++[x]) W'/\gD C W W')\/(e=.returned (.bool false)/\ab (pre++[x]) W')) :
  ∀(k:Nat) (u:Int) (s:Sl aj) (xs:List Int),gj k u s.l=some xs->∀(n:Nat) (pre:List (Int×Value)) (j:J) (w:World) (v:Value),dJ j w gX->aB j w (Sl.d 9 aj.c none s) v->(∀b∈C,b<w.heap.size/\j.F b=0) ->
   G pre w->pre.length+xs.length<=N->CallsIn Fence.wide n Tryz.prog 60 #[v,.int .i64 u,.func (.yield l0) #[] #[]] w (Tf C G ab pre xs w):=by
 have H:∀pre,lK (G pre):=fun pre A al h am=>aR pre A al none h am (fun r e=>by cases e);have Q:∀pre,lK (ab pre):=fun pre A al h am=>aT pre A al none h am (fun r e=>by cases e);intro k;induction k using Nat.strongRecOn with
 | _ k aV =>
 intro u s xs av n pre j w v hr hv hC aw ax;refine callsIn_of_wp Tryz.func60 rfl trivial ?_ rfl;have az:=rS (fn:=Tryz.f60) (n:=30) rfl (args:=[.d (Sl.d 9 aj.c none s),.d (.int .i64 u),.d (.yield l0)]) (cF:=[v,.int .i64 u,.func (.yield l0) #[] #[]]) rfl hr (.cons hv (.cons (.int _ _) (.cons (.yield _) .nil)));have h0:Live C (G pre) w 30 _ _ w:=⟨j,az,hC,.refl _ _,aw⟩;refine Live.ay (ak:=bf.on) (H pre) h0 fun K o=>?_
 refine region ?_;refine S As ?_;refine nil ⟨rfl,rfl,rfl,rfl,o _ fun a1 bG h1=>?_⟩;clear o K;refine wpIn_seq ?_;refine Live.ay (ak:=bf.on) (H pre) h1 fun K o=>?_;refine region ?_;refine S Mv ?_;refine sLen (f:=aj.c) (s:=s) (TK rfl) rfl rfl rfl rfl fun aW=>?_;refine S Mv ?_;refine nil ⟨rfl,rfl,rfl,rfl,o _ fun a2 aA aC=>?_⟩;clear o K;refine wpIn_block ?_;have aD:Live C (G pre) w 30 (Tg s u l0 0) a2 aA:=Live.to aC
 obtain⟨k',aE⟩:∃k',k'=k:=⟨_,rfl⟩;refine wpIn_loop_rounds k' ?_;obtain⟨i,hi⟩:∃i:Nat,i=0:=⟨_,rfl⟩;obtain⟨z,ad⟩:∃p,p=pre:=⟨_,rfl⟩;obtain⟨ae,af⟩:∃y,y=xs:=⟨_,rfl⟩;have E:gj k' u (s.l.drop i)=some ae:=by rw [hi,aE,af]; simpa using av
 have aX:z.length+ae.length<=N:=by rw [ad,af]; exact ax
 have hq:∃q:List (Int×Value),z=pre++q/\q.map (·.1)++ae=xs:=⟨[],by simp [ad],by simp [af]⟩;have bH:k'<=k:=by omega
 rw [<- hi,<- ad] at aD;clear av ax hi ad af aE aC h1 h0 az aw hC hv hr;induction k' generalizing i z ae a2 aA with
 | zero=>cases E
 | succ m aZ =>
  rw [roundsIn_succ];refine Live.ay (ak:=bf.on) (H z) aD fun K o=>?_;refine region ?_;refine S BI ?_;refine nil ⟨rfl,rfl,rfl,rfl,o _ fun a4 bI an=>?_⟩;clear o K;have aF:=Live.bool (t:=12) an rfl;refine wpIn_seq ?_;by_cases aY:i<s.l.length
  ·have ao:s.l.drop i=s.l[i]::s.l.drop (i+1):=by rw [List.drop_eq_getElem_cons aY]
   obtain⟨p,aG⟩:∃p,p=s.l[i]:=⟨_,rfl⟩;have a0:s.l[i]?=some p:=by rw [aG]; exact List.getElem?_eq_getElem aY
   rw [ao,<- aG,gj] at E;obtain⟨k1,a3,E⟩:=Option.bind_eq_some_iff.1 E;obtain⟨ap,has,E⟩:=Option.bind_eq_some_iff.1 E;obtain⟨aH,a6,E⟩:=Option.bind_eq_some_iff.1 E;obtain rfl:=oJ E;have a7:(decide ((i:Int)<((s.l.length:Nat):Int)))=true:=by simpa using aY
   refine wpIn_cond_true (by rw [aF,a7]) ?_;refine wpIn_skip ?_;show Code.wpIn _ _ _ _ _ _ _;refine wpIn_seq ?_;refine wpIn_block ?_;refine Live.ay (ak:=bf.on) (H z) an fun K o=>?_;refine ag.post ?_;refine region ?_;refine S (ix aj.c i a0) (S Ld ?_);refine Sl ?_;refine Sf ?_;refine nil ⟨_,cw.freeze 8 _ rfl (by repeat (first|exact bA.nil|apply bA.cons)) (KA 1 (KA 2 (KA 6 (KA 9 (KA 10 (KA 11 aS.nil)))))),rfl,rfl,rfl,rfl,o _ fun a5 bM a8=>?_⟩
   clear o K;refine wpIn_seq ?_;refine wpIn_region_lit ?_;refine Live.op (ak:=bf.on) (H z) a8 ox rfl rfl rfl fun bN bO a9=>?_;refine Live.op (ak:=bf.on) (H z) a9 ox rfl rfl rfl fun bQ bR a_=>?_;refine Live.op (ak:=bf.on) (H z) a_ (bS (TK rfl) rfl rfl rfl) rfl rfl rfl fun M a' X=>?_;refine wpListIn_plain rfl fun K o=>?_;have ba:M.eval (.tmp 15)=.func (.yield l0) #[] #[]:=by
    obtain⟨_,_,_,hv⟩:=Live.val (t:=15) X rfl;generalize M.eval (.tmp 15)=x at hv;have R:aB _ _ (.yield l0) x:=hv;cases R; rfl
   have bb:M.eval (.tmp 16)=.int .i64 u:=by
    obtain⟨_,_,_,hv⟩:=Live.val (t:=16) X rfl;generalize M.eval (.tmp 16)=x at hv;have R:aB _ _ (.int .i64 u) x:=hv;cases R; rfl
   obtain⟨I,bc⟩:∃x,x=M.eval (.tmp 17):=⟨_,rfl⟩;have bT:z.length+(1+(ap.length+aH.length))<=N:=by simp at aX; omega
   obtain⟨Y,Z,aa⟩:=hq;obtain⟨fn,tmps,assign,body,aJ,aK⟩:=aU (n-1) z (u,I) a' X.inv (by omega);refine⟨fun _ _=>trivial, ?_⟩;rw [show Oper.semAt Fence.wide.round M.eval _=execOp M.eval _ from rfl,Om ba];have bd:(#[Operand.tmp 16,Operand.tmp 17].map M.eval)=#[.int .i64 u,I]:=by simp [bb,<- bc]
   rw [bd,aJ];refine⟨fun h=>(by cases h),aK.mono ?_⟩;rintro e w' (⟨rfl,be,hk⟩|⟨rfl,aq⟩)
   ·refine o _ _ ?_;have bg:=(Live.round (wK:=G (z++[(u,I)])) X hk be).wJ (d:=18) (cv:=.bool true) rfl (.a (.d (.bool true))) (fun _ _=>.bool _);clear o K aK aJ;have U:=H (z++[(u,I)]);refine Live.op (ak:=bf.on) U bg (uk rfl) rfl rfl rfl fun bh v1 g1=>?_;refine Live.op (ak:=bf.on) U g1 ox rfl rfl rfl fun bi v2 g2=>?_;refine Live.qo (ak:=bf.on) (g:=20) (b:=false) U g2 (FW (TK rfl) rfl rfl (TK rfl) rfl rfl) rfl rfl rfl rfl fun bj v3 g3=>?_
    refine Live.qo (ak:=bf.on) (g:=20) (b:=false) U g3 (bS (TK rfl) rfl rfl (congrArg (fun x=>some (A.d x)) (aj.gG _))) rfl rfl rfl rfl fun bk v4 g4=>?_;refine Live.qo (ak:=bf.on) (g:=20) (b:=false) U g4 ox rfl rfl rfl rfl fun bl v5 g5=>?_;refine Live.qo (ak:=bf.on) (g:=20) (b:=false) U g5 (cI rfl rfl a3) rfl rfl rfl rfl fun bm v6 g6=>?_;refine Live.qo (ak:=bf.on) (g:=20) (b:=false) U g6 ox rfl rfl rfl rfl fun L aL g7=>?_
    refine wpListIn_step fun K o=>?_;rw [Live.want (g:=20) (want:=false) (b:=false) rfl rfl g7,if_pos (show (false==false)=true from rfl)];obtain⟨bo,bp,bq,br⟩:=Live.val (t:=22) g7 rfl;have bs:L.eval (.tmp 24)=.int .i64 k1:=by
     obtain⟨_,_,_,hv⟩:=Live.val (t:=24) g7 rfl;generalize L.eval (.tmp 24)=x at hv;have R:aB _ _ (.int .i64 k1) x:=hv;cases R; rfl
    have bt:L.eval (.tmp 25)=.func (.yield l0) #[] #[]:=by
     obtain⟨_,_,_,hv⟩:=Live.val (t:=25) g7 rfl;generalize L.eval (.tmp 25)=x at hv;have R:aB _ _ (.yield l0) x:=hv;cases R; rfl
    refine⟨fun _ _=>trivial, ?_⟩;rw [show Oper.semAt Fence.wide.round L.eval _=execOp L.eval _ from rfl,Gh Tryz.call60];have bu:(#[Operand.tmp 22,Operand.tmp 24,Operand.tmp 25].map L.eval)=#[L.eval (.tmp 22),.int .i64 k1,.func (.yield l0) #[] #[]]:=by simp [bs,bt]
    rw [bu];have bv:=aV m (by omega) k1 p.bE ap has (n-1) (z++[(u,I)]) bo aL _ bp br bq g7.inv (by simp; omega);refine⟨fun h=>(by cases h),bv.mono ?_⟩;rintro e bU (⟨rfl,ai,aM,bw,bx⟩|⟨rfl,bB,bC,aq⟩)
    ·refine o _ _ ?_;have g8:=(Live.round (wK:=G ((z++[(u,I)])++ai)) g7 bx bw).wJ (d:=26) (cv:=.bool true) rfl (.a (.d (.bool true))) (fun _ _=>.bool _);have au:=H ((z++[(u,I)])++ai);refine Live.qo (ak:=bf.on) (g:=20) (b:=false) au g8 (uk rfl) rfl rfl rfl rfl fun aN v9 g9=>?_;refine Live.op (ak:=bf.on) au g9 (Fh rfl rfl (by conv=>lhs; whnf)) rfl rfl rfl fun aO v10 g10=>?_
     refine wpListIn_nil ?_;show Code.wpIn _ _ _ _ _ _ _;refine wpIn_cond_false (Live.bool (t:=28) g10 rfl) ?_;refine wpIn_skip ?_;show Code.wpIn _ _ _ _ _ _ _;refine Live.Ol (ak:=bf.on) au g10 fun K o=>?_;refine region ?_;refine s0 (cI rfl rfl (Oo i s.l.length aY aW)) rfl ?_;refine S Mv ?_;refine nil ⟨rfl,rfl,rfl,rfl,o _ fun bV bW bD=>?_⟩;show Code.roundsIn _ _ _ _ _ _ _ _
     have bY:ai.length=ap.length:=by rw [<- aM,List.length_map]
     refine aZ _ _ (i+1) _ (Live.to bD) aH a6 (by simp; omega) ⟨Y++((u,I)::ai),by rw [Z]; simp,by rw [<- aa,<- aM]; simp⟩ (by omega)
    refine o _ _ ?_;have d0:=(Live.dead (ts':=[(20,.a (.d (.bool false)))]) g7 (dY.get (dY.cons rfl kN)) (On _ _) aq).wJ (d:=26) (cv:=.bool false) rfl (.a (.d (.bool false))) (fun _ _=>.bool _);refine Live.qo (ak:=bf.on) (g:=20) (b:=false) (Q _) d0 (uk rfl) rfl rfl rfl rfl fun aN v9 d1=>?_;refine Live.op (ak:=bf.on) (Q _) d1 (Fh rfl rfl (by conv=>lhs; whnf)) rfl rfl rfl fun aO v10 d2=>?_
    refine wpListIn_nil ?_;show Code.wpIn _ _ _ _ _ _ _;refine wpIn_cond_true (Live.bool (t:=28) d2 rfl) ?_;refine Live.ay (ak:=bf.on) (Q _) d2 fun K o=>?_;refine region ?_;refine S As ?_;refine nil ⟨rfl,rfl,rfl,rfl,o _ fun aP aQ O=>?_⟩;refine wpIn_ret ?_;obtain⟨f1,v0,f2,rfl⟩:=Live.zY (P:=Tryz.prog) (fn:=Tryz.f60) Tryz.bn (t:=6) O rfl rfl;refine⟨f1,_,f2,.inr ⟨rfl,Y++((u,I)::bB),by rw [<- aa]; simp only [List.map_append,List.map_cons]; exact(List.prefix_append_right_inj _).2 (by simpa using bC.trans (List.prefix_append _ _)), ?_⟩⟩
    have f3:=O.inv;rw [Z] at f3
    simpa using f3
   refine o _ _ ?_;have d0:=(Live.dead (ts':=[]) X (dY.get kN) pure_nil aq).wJ (d:=18) (cv:=.bool false) rfl (.a (.d (.bool false))) (fun _ _=>.bool _);refine Live.op (ak:=bf.on) (Q _) d0 (uk rfl) rfl rfl rfl fun bh v1 d1=>?_;refine Live.op (ak:=bf.on) (Q _) d1 ox rfl rfl rfl fun bi v2 d2=>?_;refine Live.qp (g:=20) (b:=true) d2 rfl rfl rfl fun bj v3 d3=>?_;refine Live.qp (g:=20) (b:=true) d3 rfl rfl rfl fun bk v4 d4=>?_
   refine Live.qp (g:=20) (b:=true) d4 rfl rfl rfl fun bl v5 d5=>?_;refine Live.qp (g:=20) (b:=true) d5 rfl rfl rfl fun bm v6 d6=>?_;refine Live.qp (g:=20) (b:=true) d6 rfl rfl rfl fun L aL d7=>?_;refine Live.qp (g:=20) (b:=true) d7 rfl rfl rfl fun bZ b0 d8=>?_;refine Live.qp (g:=20) (b:=true) d8 rfl rfl rfl fun aN v9 d9=>?_;refine Live.op (ak:=bf.on) (Q _) d9 (Mu rfl rfl (by conv=>lhs; whnf)) rfl rfl rfl fun aO v10 d10=>?_
   refine wpListIn_nil ?_;show Code.wpIn _ _ _ _ _ _ _;refine wpIn_cond_true (Live.bool (t:=28) d10 rfl) ?_;refine Live.ay (ak:=bf.on) (Q _) d10 fun K o=>?_;refine region ?_;refine S As ?_;refine nil ⟨rfl,rfl,rfl,rfl,o _ fun aP aQ O=>?_⟩;refine wpIn_ret ?_;obtain⟨f1,v0,f2,rfl⟩:=Live.zY (P:=Tryz.prog) (fn:=Tryz.f60) Tryz.bn (t:=6) O rfl rfl;refine⟨f1,_,f2,.inr ⟨rfl,Y++[(u,I)],by rw [<- aa]; simp only [List.map_append,List.map_cons,List.map_nil]; exact(List.prefix_append_right_inj _).2 ⟨_,rfl⟩, ?_⟩⟩
   have f3:=O.inv;rw [Z] at f3
   simpa using f3
  have ao:s.l.drop i=[]:=List.drop_of_length_le (by omega);rw [ao,gj] at E;obtain rfl:=oJ E;have bF:(decide ((i:Int)<((s.l.length:Nat):Int)))=false:=by simpa using aY
  obtain⟨Y,Z,aa⟩:=hq;refine wpIn_cond_false (by rw [aF,bF]) ?_;refine wpIn_exit ?_;show Code.wpIn _ _ _ _ _ _ _;refine Live.ay (ak:=bf.on) (H _) an fun K o=>?_;refine region ?_;refine S As ?_;refine nil ⟨rfl,rfl,rfl,rfl,o _ fun aP aQ O=>?_⟩;refine wpIn_ret ?_;obtain⟨f1,v0,f2,rfl⟩:=Live.zY (P:=Tryz.prog) (fn:=Tryz.f60) Tryz.bn (t:=6) O rfl rfl;refine⟨f1,_,f2,.inl ⟨rfl,Y,by simpa using aa, ?_⟩⟩
  obtain⟨_,_,_,f3,f4⟩:=O;exact⟨by rw [<- Z]; exact f4,f3⟩
theorem I6 {j:J}{w:World}(z:∀b,w.heap.size<=b->j.F b=0){k:Nat}{g:Int}{s:Sl aj}{xs:List Int}(H:gj k g s.l=some xs){c1 c2:Value}(h1:aB j w (.view [Sl.d 9 aj.c none s]) c1) (I:aB j w (.view [.int .i64 g]) c2)
  {C:List Nat}(hC:∀b∈C,b<w.heap.size/\j.F b=0) (n:Nat) :
  SeqStopsK Fence.wide n Tryz.prog 59 #[c1,c2] (fun x:Int×Value=>#[.int .i64 x.1,x.2]) (gD C) (fun L=>L.map (·.1)=xs) (fun q=>q.map (·.1) <+: xs) xs.length w:=by
 intro l J aq W p B M N h0;have E:∀b o c,o<j.F b->w.cell? ⟨b,o,none⟩=some c->W.cell? ⟨b,o,none⟩=some c:=fun b o c O hc=>by
  rw [<- hc];exact World.cell?_of_block (p.block b (by
   rcases Nat.lt_or_ge b w.heap.size with h|h
   ·exact h
   rw [z b h] at O; omega))
 have hr:dJ j W gX:=(wH fun b i=>z b (Nat.le_trans p.size i)).1;refine callsIn_of_wp Tryz.func59 rfl trivial ?_ rfl;have P:=rS (fn:=Tryz.f59) (n:=8) rfl (args:=[.d (.yield l),.d (.view [Sl.d 9 aj.c none s]),.d (.view [.int .i64 g])]) (cF:=[.func (.yield l) #[] #[],c1,c2]) rfl hr (.cons (.yield _) (.cons (h1.kept E) (.cons (I.kept E) .nil)));have Q:∀pre,lK (J pre):=fun pre A R h S=>B pre A R none h S (fun r e=>by cases e)
 have u:lK (J []):=Q [];have g0:Live C (J []) W 8 _ _ W:=⟨j,P,fun b i=>⟨Nat.lt_of_lt_of_le (hC b i).1 p.size,(hC b i).2⟩,.refl _ _,h0⟩;refine wpIn_region_lit ?_;refine Live.op (ak:=bf.on) u g0 (bS (TK rfl) rfl rfl rfl) rfl rfl rfl fun au v1 g1=>?_;refine Live.op (ak:=bf.on) u g1 (bS (TK rfl) rfl rfl rfl) rfl rfl rfl fun av v2 g2=>?_;refine Live.op (ak:=bf.on) u g2 ox rfl rfl rfl fun f v3 g3=>?_
 refine wpListIn_plain rfl fun K G=>?_;obtain⟨U,X,Y,Z⟩:=Live.val (t:=4) g3 rfl;have aa:f.eval (.tmp 5)=.int .i64 g:=by
  obtain⟨_,_,_,hv⟩:=Live.val (t:=5) g3 rfl;generalize f.eval (.tmp 5)=x at hv;have v:aB _ _ (.int .i64 g) x:=hv;cases v; rfl
 have ab:f.eval (.tmp 6)=.func (.yield l) #[] #[]:=by
  obtain⟨_,_,_,hv⟩:=Live.val (t:=6) g3 rfl;generalize f.eval (.tmp 6)=x at hv;have v:aB _ _ (.yield l) x:=hv;cases v; rfl
 refine⟨fun _ _=>trivial, ?_⟩;rw [show Oper.semAt Fence.wide.round f.eval _=execOp f.eval _ from rfl,Gh Tryz.call60];have ad:(#[Operand.tmp 4,Operand.tmp 5,Operand.tmp 6].map f.eval)=#[f.eval (.tmp 4),.int .i64 g,.func (.yield l) #[] #[]]:=by simp [aa,ab]
 rw [ad];have ae:=Th (l0:=l) (C:=C) B M (fun m pre x af ag hl=>Ox (N pre x af ag hl)) k g s xs H (n-1) [] U v3 _ X Z Y g3.inv (by simp);refine⟨fun h=>(by cases h),ae.mono ?_⟩;rintro e aw (⟨rfl,ai,al,am,ax⟩|⟨rfl,an,ao,ap⟩)
 ·refine G _ _ (wpListIn_nil ⟨?_,_,results_none rfl _ _ _,⟨_,rfl⟩,.inl ⟨ai,al,by simpa using am⟩⟩);obtain⟨_,y,_⟩:=g3;rw [put_defers]; exact y.defers
 refine G _ _ (wpListIn_nil ⟨?_,_,results_none rfl _ _ _,⟨_,rfl⟩,.inr ⟨an,ao,by simpa using ap⟩⟩);obtain⟨_,y,_⟩:=g3;rw [put_defers]; exact y.defers
theorem I7 (s:Sl aj) (b:Int) (H:ah):AC Tryz.prog 28 [.d (Sl.d 9 aj.c none s),.d (.int .i64 b)] H fun v h'=>v=.a (.d (.func 59 [.view [Sl.d 9 aj.c none s],.view [.int .i64 b]]))/\h'=H:=by
 have _lo:jO ak:=inferInstance;refine AC.oW 6 [.tmp 4] Tryz.call28 Tryz.func28 ?_;refine af (S BX (S BX (S As (nil ?_))));refine af ?_;refine s0 (makeFunc rfl) rfl ?_;refine S As (nil ?_);refine ag.ret ?_;refine bz.bJ H rfl ⟨rfl,rfl⟩ ?_;exact(fun _ _ h=>h)
def oP (xs:List Int):Bool:=decide (2048<xs.length)||xs.any fun k=>decide (24<k)
def qD (i:aq) (f:cK):Option Bool:=(qN f.an).bind fun b=>(qP i b).bind fun g =>
 bif ((!g.2||(b==([]:Bs)))||(!decide (g.1.an=(1:Int)))) then some false else
 (gj F0 (1:Int) f.bE.l).bind fun xs=>if xs.length<=4611686018427387904 then(bif oP xs then some false else xm i f.bE b) else none
def xl (b:aq) (f:cK):Option Bool:=qD b f
theorem Ti (a0:aq) (a1:cK):qD a0 a1=xl a0 a1:=rfl
set_option maxRecDepth 100000 in
set_option maxHeartbeats 4000000 in
theorem CQ {N:aq}{G:cK}{oT:Ab.Obj}{gT:Nat}{r:Bool}(F:qD N G=some r) (H:ah) (bd:H gT=some oT) (be:fP Tryz.prog oT):AC Tryz.prog 9 [.agg (aq.c N),.agg (cK.c G)] H fun v h'=>v=.a (.d (.bool r))/\h'=H:=by
 unfold qD at F;refine⟨fun _ _=>Tryz.call9 _ _,fun j w c hr ab=>?_⟩;cases ab with
 | @cons _ v0 _ _ bf ab =>
 cases ab with
 | @cons _ v1 _ _ bg ab =>
 cases ab;refine(callsIn_wide (n:=3)).1 (callsIn_of_wp_marks Tryz.func9 rfl trivial ?_ rfl);have a0:=rS (fn:=Tryz.f9) (n:=48) rfl (args:=[.agg (aq.c N),.agg (cK.c G)]) (cF:=[v0,v1]) rfl hr (.cons bf (.cons bg .nil));show Code.wpIn _ _ _ _ (bodyPostM _ _ _ _ (Fin j w H fun v h'=>v=.a (.d (.bool r))/\h'=H)) _ _;refine ag.lM (ak:=ak) a0 fun K p=>?_;refine region ?_;refine S BX (S BX ?_)
 refine Sl ?_;refine nil ⟨rfl,p _ fun cg ch ci cj bh bi=>?_⟩;clear p K a0;refine ag.lM (ak:=ak) bh fun K p=>?_;refine region ?_;refine S Fv (S Ld ?_);obtain⟨M,bj,F⟩:=bO F;refine Sc rfl rfl (xJ bj) ?_;refine S As ?_;refine nil ⟨rfl,p _ fun ck cl cm co bk bl=>?_⟩;clear p K;refine ag.lM (ak:=ak) bk fun K p=>?_;refine ag.post ?_;refine region ?_;refine S Ld (S Mv ?_)
 obtain⟨Y,bm,F⟩:=bO F;refine Sc rfl rfl (pq bm) ?_;refine S Mv (S EX (S EX ?_));refine Sl ?_;refine Sf ?_;refine S As ?_;refine nil ⟨_,cw.freeze 6 _ rfl (by repeat (first|exact bA.nil|apply bA.cons)) (KA 2 (KA 3 (KA 4 (KA 5 (KA 7 aS.nil))))),rfl,p _ fun cp cq cr ct bo bp=>?_⟩;clear p K;refine wpIn_seq ?_;refine ag.lM (ak:=ak) bo fun K p=>?_;refine region ?_;refine S Mv (S NB (S Mv (G0 Mv ?_)))
 refine G1 22 rfl BS ?_;refine S PO (S Mv (G0 Fv ?_));refine G1 26 rfl Ld ?_;refine G1 27 rfl BI ?_;refine S PO ?_;refine nil ⟨rfl,p _ fun a1 a2 bq aE aF br=>?_⟩;clear p K;have a3:=((bi.trans bl).trans bp).trans br;have a4:aE.eval (.tmp 29)=.bool ((!Y.2||(M==([]:Bs)))||(!decide (Y.1.an=(1:Int)))):=by
  have h1:aX a1 a2 bq (.a (.d (.bool ((!Y.2||(M==([]:Bs)))||(!decide (Y.1.an=(1:Int))))))) (aE.eval (.tmp 29)):=aF.tmps 29;generalize aE.eval (.tmp 29)=x at h1;have ad:aB a1 a2 (.bool _) x:=h1;cases ad; rfl
 cases hc:((!Y.2||(M==([]:Bs)))||(!decide (Y.1.an=(1:Int)))) with
 | true =>
  rw [hc] at F;obtain rfl:=oJ F;refine wpIn_cond_true (by rw [a4,hc]) ?_;refine ag.lM (ak:=ak) aF fun K p=>?_;refine region ?_;refine Sf ?_;refine nil ⟨rfl,p _ fun bs bt bu aG ao aH=>?_⟩;refine wpIn_ret ?_;have bv:aG.defers=[]:=ao.defers;show LeavesInM _ _ _ _ _ _ aG.defers _ _;rw [bv];exact Gm (ak:=ak) Tryz.bn ao (rs:=[.cell 4 4]) rfl (xs:=[.d (.bool false)]) rfl (a3.trans aH) ⟨rfl,rfl⟩
 | false =>
  rw [hc] at F;obtain⟨xs,bx,F⟩:=bO F
  split at F
  case isFalse=>cases F
  rename_i cu
  refine wpIn_cond_false (by rw [a4,hc]) ?_;refine wpIn_skip ?_;show Code.wpIn _ _ _ _ _ _ _;refine ag.lM (ak:=ak) aF fun K p=>?_;refine region ?_;refine Sl ?_;refine Sf ?_;refine nil ⟨rfl,p _ fun bs bt bu aG ao aH=>?_⟩;clear p K;refine wpIn_seq ?_;refine ag.lM (ak:=ak) ao fun K p=>?_;refine region ?_;refine S Fv (S Ld ?_);refine s0 (en rfl rfl (fun H=>I7 G.bE 1 H)) rfl ?_
  refine nil ⟨rfl,p _ fun g u aJ z E bB=>?_⟩;clear p K;have ap:=(a3.trans aH).trans bB;refine wpIn_block ?_;obtain⟨m,bC,bD,au,aK,aL,bF,cv⟩:=E.loc (t:=4) (i:=0) rfl rfl;obtain⟨s,cs,bG,av,bH,a5,bI,Q⟩:=E.loc (t:=8) (i:=1) rfl rfl;have bM:cs=[.int .i64 0]:=by
   cases bI with
   | cons h ht=>cases ht; cases h; rfl
  have bN:bC=[.bool false]:=by
   cases bF with
   | cons h ht=>cases ht; cases h; rfl
  subst bM bN;have bQ:aJ.length=2:=by have:=E.hl.2.each.length; simpa using this.symm
  obtain rfl:aJ=[m,s]:=by
   match aJ,bQ,au,av with
   | [x,y],_,au,av=>simp at au av; rw [au,av]
  have aM:m≠s:=by have:=E.hl.2.nodup; simp at this; exact this
  have bR:s<u.heap.size:=fO a5;have bT:m<u.heap.size:=fO aL;have bU:∃c1 c2,z.eval (.tmp 32)=.func (.func 59) #[] #[c1,c2]/\aB g u (.view [Sl.d 9 aj.c none G.bE]) c1/\aB g u (.view [.int .i64 1]) c2:=by
   have h1:aX g u [m,s] (.a (.d (.func 59 [.view [Sl.d 9 aj.c none G.bE],.view [.int .i64 1]]))) (z.eval (.tmp 32)):=E.tmps 32;generalize z.eval (.tmp 32)=x at h1;have ad:aB g u (.func 59 [.view [Sl.d 9 aj.c none G.bE],.view [.int .i64 1]]) x:=h1;cases ad with
   | func _ _ gK hl hr =>
    match gK,hl with
    | [c1,c2],_=>exact⟨c1,c2,rfl,hr 0 (by simp) (by simp),hr 1 (by simp) (by simp)⟩
  obtain⟨c1,c2,bV,bW,bY⟩:=bU;have R:z.tmps.size=48:=E.size;have aN:z.defers=[]:=E.defers;have aw:HL g u [m] [[.bool false]] H:=(HL.trim (ak:=ak) E.hl 1).1;have cx:bw g u (Ab.Own g H [m,s]) g u (Ab.Own g H [m]):=(HL.trim (ak:=ak) E.hl 1).2;have a6:¬Ab.Own g H [m] s:=by
   rintro (h|h)
   ·simp at h; exact aM h.symm
   exact E.hl.2.apart s (by simp) (.inr h)
  refine wpIn_rangeFunc_ownF (I:=fun pre W=>(W.heap[s]?=some (.cells #[.int .i64 ((pre.length:Nat):Int)] bG (0,0)))/\fW [s] u W/\oP (pre.map (·.1))=false)
   (Ix:=fun c pre W=>c=.ret/\fW [s] u W/\oP (pre.map (·.1))=true)
   (a₁:=fun x=>({ tmps:=(z.tmps.setIfInBounds 33 (.int .i64 x.1)).setIfInBounds 34 x.2,defers:=[] }:Act).put (some 9) (.int .i64 x.1)) rfl (Nat.le_add_left 1 2) bV trivial (fun _ _=>Tryz.call59 _ _)
   (I6 (C:=[s]) E.hl.1.fresh bx bW bY (by simp; exact⟨bR,Q⟩) 2) (fun h k=>h.trans k) (fun W l o o' _ h1 ad _=>.put W l o o' h1 ad) (RowKit.Below.refl _ _) (fun _=>rfl)
   (fun pre A B row O ax hr=>⟨(ax.block s (fO O.1) (fun e=>by have:=(hr s e.symm).1; omega)).trans O.1,O.2.1.grown ax fun r e=>(hr r e).1,O.2.2⟩)
   (fun c pre A B row O ax hr=>⟨O.1,O.2.1.grown ax fun r e=>(hr r e).1,O.2.2⟩) ⟨a5,.refl _ _,rfl⟩ ?_ ?_ ?_ ?_
  ·intro l x W K p;refine wpIn_region_lit ?_;refine jP (fun _=>trivial) rfl (by simp) (run_assign (v:=.int .i64 x.1) (fQ (by simp [Array.getElem?_setIfInBounds,R]))) ?_;refine wpListIn_nil ?_;show K _ W
   simpa using p
  ·rintro l pre x W ⟨U,hu,L⟩ hlen;have aO:∀f,(Fence.wide.inRound l).fn f:=fun _=>trivial;obtain⟨Z,ae⟩:∃Z,Z=({ tmps:=(z.tmps.setIfInBounds 33 (.int .i64 x.1)).setIfInBounds 34 x.2,defers:=[] }:Act).put (some 9) (.int .i64 x.1):=⟨_,rfl⟩;have s0:Z.tmps.size=48:=by rw [ae,fR]; simp [R]
   have t9:Z.tmps[9]?=some (.int .i64 x.1):=by rw [ae,iv _ (by simp [R]),if_pos rfl]
   have t8:Z.tmps[8]?=some (.pointer (some ⟨s,0,none⟩)):=by rw [ae,iv _ (by simp [R]),if_neg (by decide)]; simp [Array.getElem?_setIfInBounds]; exact bH
   have t4:Z.tmps[4]?=some (.pointer (some ⟨m,0,none⟩)):=by rw [ae,iv _ (by simp [R]),if_neg (by decide)]; simp [Array.getElem?_setIfInBounds]; exact aK
   rw [<- ae];refine wpIn_block (wpIn_seq (wpIn_region_lit ?_));refine Ov aO (TK rfl) rfl rfl (fun _=>rfl) t8 ⟨rfl,rfl⟩ (by rw [s0]; decide) (by rw [s0]; decide) U (by omega) fun ay bZ aP b0 af=>?_;refine wpListIn_nil ?_;show Code.wpIn _ _ _ _ _ _ _;have a7:=af.here;have a8:(bZ.heap[m]?=some (.cells #[.bool false] bD (0,0))):=((af.other m aM).trans (hu.other m bT (by simpa using aM))).trans aL
   have b1:ay.tmps[8]?=some (.pointer (some ⟨s,0,none⟩)):=(aP 8 (by decide) (by decide)).trans t8;have b2:ay.tmps[9]?=some (.int .i64 x.1):=(aP 9 (by decide) (by decide)).trans t9;have b3:ay.tmps[4]?=some (.pointer (some ⟨m,0,none⟩)):=(aP 4 (by decide) (by decide)).trans t4;have b4:ay.tmps.size=48:=b0.trans s0;have aa:=hu.Gk af (by simp);have b5:=af.keep (C:=[s]) (by simp);have a9:=af.z_ U rfl
   refine wpIn_seq (wpIn_region_lit ?_);refine Ow (gi:=2) aO (TK rfl) rfl (fun _=>rfl) b1 b2 a7 rfl (by rw [b4]; decide) ⟨rfl,rfl,rfl,rfl,rfl⟩ fun a_ b6 az=>?_;have b7:a_.tmps[4]?=some (.pointer (some ⟨m,0,none⟩)):=(b6 4 (by decide) (by decide) (by decide) (by decide) (by decide) (by decide)).trans b3;refine wpListIn_nil ?_;show Code.wpIn _ _ _ _ _ _ _;have aA:oP ((pre++[x]).map (·.1))=(decide ((2048:Int)<((pre.length:Nat):Int)+1)||decide (24<x.1)):=by
    unfold oP at L ⊢;simp only [Bool.or_eq_false_iff] at L;have h1:decide (2048<((pre++[x]).map (·.1)).length)=decide ((2048:Int)<((pre.length:Nat):Int)+1):=decide_eq_decide.2 (by simp; omega);rw [h1,List.map_append,List.any_append,L.2]; simp
   cases a':(decide ((2048:Int)<((pre.length:Nat):Int)+1)||decide (24<x.1)) with
   | true =>
    rw [a'] at az aA;refine wpIn_cond_true (fQ az) ?_;refine wpIn_seq (wpIn_region_lit ?_);obtain⟨b8,b9,X⟩:=z8 (P:=Tryz.prog) (t:=4) (a:=a_) (x:=.tmp 4) (y:=.const (.bool false)) (v:=.bool false) (d:=.bool false) (TK rfl) rfl (fQ b7) rfl a8 (.bool _);refine zZ aO rfl (by simp) b9 ?_;refine wpListIn_nil ?_;show Code.wpIn _ _ _ _ _ _ _;refine wpIn_ret ?_;have b_:fW [s] u b8:=⟨by rw [X.size]; exact aa.size,X.os.trans aa.os,X.tape.trans aa.tape,X.output.trans aa.output,fun k hk hn=>by
     by_cases e:k=m
     ·subst e; rw [X.here,aL]
     rw [X.other k e]; exact aa.other k hk hn⟩
    exact⟨a9.trans (X.z_ a8 rfl),rfl,b_,aA⟩
   | false =>
    rw [a'] at az aA;refine wpIn_cond_false (fQ az) ?_;refine wpIn_skip ?_;refine⟨a9,b5, ?_,aa,aA⟩;rw [a7]; simp
  ·rintro D cy W b' ca ⟨U,hu,L⟩ p;have hle:Le g u g W:=hu.le (by simp; exact Q) E.hl.1.fresh;have aQ:HL g W [m] [[.bool false]] H:=hu.hl (by simp; exact Q) aw (by simp; exact a6);have aR:aX g u [m,s] (.a (.d (.view (aq.c N)))) (z.tmps.getD 2 undef):=E.tmps 2;have aT:aX g u [m,s] (.a (.d (.view (cK.c G)))) (z.tmps.getD 3 undef):=E.tmps 3;have aU:aX g u [m,s] (.a (.d (.str M))) (z.tmps.getD 5 undef):=E.tmps 5
   have aV:bw g u (Ab.Own g H [m,s]) g W (Ab.Own g H [m]):=fW.Gq (ak:=ak) hu (by simp; exact Q) E.hl.1.fresh (by simp; exact .inl (by simp)) (fun b U=>U.elim (fun h=>.inl (by simp at h; simp [h])) .inr);have aC:¬Ab.Own g H [m] D:=fun h=>by have:=h.lt aw; omega
   have aW:w.heap.size<=D:=by have:=ap.size; omega
   obtain⟨J,aD⟩:∃x:d_,x.ds=[{ target:=.collected D,args:=#[] }]:=⟨⟨[{ target:=.collected D,args:=#[] }]⟩,rfl⟩;have aY:@dB J g W [m] ⟨48,[(2,.a (.d (.view (aq.c N)))),(3,.a (.d (.view (cK.c G)))),(5,.a (.d (.str M))),(4,.cV 0 0)],[[.bool false]],H⟩ { z with defers:={ target:=.collected D,args:=#[] }::z.defers }:=by
    refine @dB.mk J _ _ _ _ _ (show ({ target:=.collected D,args:=#[] }::z.defers:List Deferred)=J.ds by rw [aN,aD]) R (fun k=>?_) aQ;by_cases k2:k=2
    ·subst k2; exact aR.mono hle (Ext.refl _)
    by_cases ai:k=3
    ·subst ai; exact aT.mono hle (Ext.refl _)
    by_cases al:k=5
    ·subst al; exact aU.mono hle (Ext.refl _)
    by_cases am:k=4
    ·subst am; exact⟨m,rfl,by show z.tmps.getD 4 undef=_; rw [Array.getD_eq_getD_getElem?,aK]; rfl⟩
    have:get [(2,V.a (.d (.view (aq.c N)))),(3,.a (.d (.view (cK.c G)))),(5,.a (.d (.str M))),(4,.cV 0 0)] k=.any:=by
     rw [eN _ _ (Ne.symm k2),eN _ _ (Ne.symm ai),eN _ _ (Ne.symm al),eN _ _ (Ne.symm am)]; rfl
    show aX _ _ _ (get _ k) _;rw [this]; trivial
   rw [ca] at L;rw [L] at F;show Code.wpIn _ _ _ _ _ _ _;refine ag.Oy (ak:=ak) (eP:=J) aY fun K cb=>?_;refine region ?_;refine S Ld (S Fv (S Ld (S Mv ?_)));refine s0 (gN rfl rfl (Td F _ bd be)) rfl ?_;refine Sf ?_;refine nil ⟨rfl,cb _ fun cz cA cB ba bb aZ=>?_⟩;refine wpIn_ret ?_;have cc:ba.defers=[{ target:=.collected D,args:=#[] }]:=(@dB.defers J _ _ _ _ _ bb).trans aD
   show LeavesInM _ _ _ _ _ _ ba.defers _ _;rw [cc];have bc:=fO p;refine Gp (ak:=ak) (eP:=J) Tryz.bn bb (rs:=[.cell 4 4]) rfl (xs:=[.d (.bool r)]) rfl ((ap.trans aV).trans aZ) ⟨rfl,rfl⟩ ((aZ.frame D bc aC).1.trans p) aW (fun h=>aC (aZ.own D bc h))
  rintro D c pre W b' cd ⟨rfl,hu,L⟩ p;have hle:Le g u g W:=hu.le (by simp; exact Q) E.hl.1.fresh;have aQ:HL g W [m] [[.bool false]] H:=hu.hl (by simp; exact Q) aw (by simp; exact a6);have aR:aX g u [m,s] (.a (.d (.view (aq.c N)))) (z.tmps.getD 2 undef):=E.tmps 2;have aT:aX g u [m,s] (.a (.d (.view (cK.c G)))) (z.tmps.getD 3 undef):=E.tmps 3;have aU:aX g u [m,s] (.a (.d (.str M))) (z.tmps.getD 5 undef):=E.tmps 5
  have aV:bw g u (Ab.Own g H [m,s]) g W (Ab.Own g H [m]):=fW.Gq (ak:=ak) hu (by simp; exact Q) E.hl.1.fresh (by simp; exact .inl (by simp)) (fun b U=>U.elim (fun h=>.inl (by simp at h; simp [h])) .inr);have aC:¬Ab.Own g H [m] D:=fun h=>by have:=h.lt aw; omega
  have aW:w.heap.size<=D:=by have:=ap.size; omega
  obtain⟨J,aD⟩:∃x:d_,x.ds=[{ target:=.collected D,args:=#[] }]:=⟨⟨[{ target:=.collected D,args:=#[] }]⟩,rfl⟩;have aY:@dB J g W [m] ⟨48,[(2,.a (.d (.view (aq.c N)))),(3,.a (.d (.view (cK.c G)))),(5,.a (.d (.str M))),(4,.cV 0 0)],[[.bool false]],H⟩ { z with defers:={ target:=.collected D,args:=#[] }::z.defers }:=by
   refine @dB.mk J _ _ _ _ _ (show ({ target:=.collected D,args:=#[] }::z.defers:List Deferred)=J.ds by rw [aN,aD]) R (fun k=>?_) aQ;by_cases k2:k=2
   ·subst k2; exact aR.mono hle (Ext.refl _)
   by_cases ai:k=3
   ·subst ai; exact aT.mono hle (Ext.refl _)
   by_cases al:k=5
   ·subst al; exact aU.mono hle (Ext.refl _)
   by_cases am:k=4
   ·subst am; exact⟨m,rfl,by show z.tmps.getD 4 undef=_; rw [Array.getD_eq_getD_getElem?,aK]; rfl⟩
   have:get [(2,V.a (.d (.view (aq.c N)))),(3,.a (.d (.view (cK.c G)))),(5,.a (.d (.str M))),(4,.cV 0 0)] k=.any:=by
    rw [eN _ _ (Ne.symm k2),eN _ _ (Ne.symm ai),eN _ _ (Ne.symm al),eN _ _ (Ne.symm am)]; rfl
   show aX _ _ _ (get _ k) _;rw [this]; trivial
  have ce:oP xs=true:=by
   obtain⟨q,hq⟩:=cd;unfold oP at L ⊢;rw [<- hq];simp only [Bool.or_eq_true,decide_eq_true_eq] at L ⊢;rcases L with h|h
   ·exact .inl (by simp at h ⊢; omega)
   exact .inr (by rw [List.any_append,h]; rfl)
  rw [ce] at F;obtain rfl:=oJ F;refine wpIn_ret ?_;show LeavesInM _ _ _ _ _ _ _ _ _;show LeavesInM _ _ _ _ _ _ ({ target:=.collected D,args:=#[] }::z.defers) _ _;rw [aN];have cf:=Gp (ak:=ak) (eP:=J) (P:=Tryz.prog) (fn:=Tryz.f9) (n:=3) (h:=H) (w:=w) (j:=j) (Post:=fun v h'=>v=.a (.d (.bool false))/\h'=H) Tryz.bn aY (rs:=[.cell 4 4]) rfl (xs:=[.d (.bool false)]) rfl (ap.trans aV) ⟨rfl,rfl⟩ p aW aC
  exact cf
end
def pL (b:Int) (f:Int):Int:=bif (decide (b<f)) then((-1:Int)) else(bif (decide (f<b)) then((1:Int)) else((0:Int)))
def tJ (b:Int) (f:Int):Option Int:=some (pL b f)
theorem CR (a0:Int) (a1:Int):tJ a0 a1=some (pL a0 a1):=rfl
theorem CS {i j r:Int}(b:tJ i j=some r) (H:ah) :AC Tryz.prog 122 [.d (.int .i64 i),.d (.int .i64 j)] H fun v h'=>v=.a (.d (.int .i64 r))/\h'=H:=by
 unfold tJ pL at b;refine AC.oW 11 [.tmp 4] Tryz.call122 Tryz.func122 ?_;refine af (S As (nil ?_));refine ay fun k f=>?_;refine af (S Mv (S Mv (S BI (nil ?_))));refine cP b (fun l b=>?_) (fun l b=>?_)
 ·refine af (S As (nil ?_));exact rt b
 refine sk f ?_;clear f k;refine ay fun m g=>?_;refine af (S Mv (S Mv (S BI (nil ?_))));refine cP b (fun o b=>?_) (fun o b=>?_)
 ·refine af (S As (nil ?_));exact rt b
 refine sk g ?_;clear g m;refine af (S As (nil ?_));exact rt b
end Go.Proofs
namespace Go.Proofs
open Go Go.Ab
open aQ ar ag aS dY
variable {ak:bf}
def pM (b:Bs) (f:Bs):Int:=bif (Op.bytesLess b f) then((-1:Int)) else(bif (!(Op.bytesLess b f||b==f)) then((1:Int)) else((0:Int)))
def vA (b:Bs) (f:Bs):Option Int:=some (pM b f)
theorem I8 (a0:Bs) (a1:Bs):vA a0 a1=some (pM a0 a1):=rfl
theorem I9 {i j:Bs}{r:Int}(b:vA i j=some r) (H:ah) :AC Tryz.prog 123 [.d (.str i),.d (.str j)] H fun v h'=>v=.a (.d (.int .i64 r))/\h'=H:=by
 unfold vA pM at b;refine AC.oW 11 [.tmp 4] Tryz.call123 Tryz.func123 ?_;refine af (S As (nil ?_));refine ay fun k f=>?_;refine af (S Mv (S Mv (S BS (nil ?_))));refine cP b (fun l b=>?_) (fun l b=>?_)
 ·refine af (S As (nil ?_));exact rt b
 refine sk f ?_;clear f k;refine ay fun m g=>?_;refine af (S Mv (S Mv (S BS (nil ?_))));refine cP b (fun o b=>?_) (fun o b=>?_)
 ·refine af (S As (nil ?_));exact rt b
 refine sk g ?_;clear g m;refine af (S As (nil ?_));exact rt b
def CT (b:aa) (f:Int):Option Bs:=bif (decide (f<((b.aF.l.length:Nat):Int))) then((bV b.aF.l f).bind fun g=>some g) else(some ([]:Bs))
def tK (b:aa) (f:Int):Option Bs:=CT b f
theorem Tj (a0:aa) (a1:Int):tK a0 a1=CT a0 a1:=rfl
theorem I_ {g:aa}{j:Int}{r:Bs}(b:tK g j=some r) (H:ah) :AC Tryz.prog 124 [.agg (aa.c g),.d (.int .i64 j)] H fun v h'=>v=.a (.d (.str r))/\h'=H:=by
 unfold tK CT at b;refine AC.oW 15 [.tmp 4] Tryz.call124 Tryz.func124 ?_;refine af (S BX (S As (nil ?_)));refine ay fun k i=>?_;refine af (S Mv (S Fv (S Ld ?_)));refine sLen (f:=aP) (s:=g.aF) (TK rfl) rfl rfl rfl rfl fun o=>?_;refine S BI (nil ?_);refine cE b (fun l b=>?_) (fun l b=>?_)
 ·refine af (S Fv (S Ld (S Mv ?_)));obtain⟨p,m,b⟩:=qT rfl b;refine s0 (fu (f:=aP) (TK rfl) rfl (TK rfl) rfl rfl rfl m) rfl ?_;refine S Ld (S As (nil ?_));exact rt b
 refine sk i ?_;clear i k;refine af (S As (nil ?_));exact rt b
def CU  (b:Int):Option Int:=some b
def tL (b:Int) (f:Int->Int->Option Int) (g:Int):Option Int:=(bG b (1:Int)).bind fun i=>f g i
def pN (f:aa) (g:aa) (i:aa->aa->Option Int):Nat->Int->Int->Option Int
 | 0,_,_=>none
 | j+1,k,b=>bif (decide (k=(0:Int))) then(bif ((decide (((f.av.l.length:Nat):Int)<=b))||(decide (((g.av.l.length:Nat):Int)<=b))) then((tJ ((f.av.l.length:Nat):Int) ((g.av.l.length:Nat):Int)).bind fun o=>some o) else((tK f b).bind fun p=>(tK g b).bind fun q=>(vA p q).bind fun m=>bif (decide (m=(0:Int))) then((bV f.av.l b).bind fun r=>(bV g.av.l b).bind fun s=>(i r s).bind fun t=>tL b ((pN f g i j)) t) else(tL b ((pN f g i j)) m))) else(CU   k)
def vB (g:aa) (i:aa) (b:aa->aa->Option Int) (f:Int):Option Int:=pN g i b F0 f (0:Int)
def tM (b:aa) (f:aa) (g:aa->aa->Option Int) (i:Int):Option Int:=bif (decide (i=(0:Int))) then((vA b.aR f.aR).bind fun j=>vB b f g j) else(vB b f g i)
def iN:Nat->aa->aa->Option Int
 | 0,_,_=>none
 | n+1,b,f=>(tJ b.an f.an).bind fun g=>bif (decide (g=(0:Int))) then((tJ b.aV f.aV).bind fun i=>tM b f (iN n) i) else(tM b f (iN n) g)
def CV (n:Nat):Prop:=∀{a0:aa}{a1:aa}   {r:Int},iN n a0 a1=some r->∀(H:ah),AC Tryz.prog 70 [.agg (aa.c a0),.agg (aa.c a1)] H fun v h'=>v=.a (.d (.int .i64 r))/\h'=H
theorem Tm (n:Nat) (t:CV (ak:=ak) n):CV (ak:=ak) (n+1):=by
 intro g i   r b H ;rw [iN] at b;refine AC.oW 70 [.tmp 4] Tryz.call70 Tryz.func70 ?_;refine af (S BX (S BX (S As (nil ?_))));refine af (S Fv (S Ld (S Fv (S Ld ?_))));obtain⟨u,v,b⟩:=bO b;refine Sc rfl rfl (CS v) ?_;refine S As (nil ?_);refine aT (TA 2 (TA 3 kN)) (fun(z:Int)=>[(5,.a (.d (.int .i64 z)))]) (fun z=>H) (fun z=>tM g i (iN n) z=some r) ?_ ?_
 ·intro an l;refine af (S Mv (S BI (nil ?_)));refine cE b (fun w b=>?_) (fun w b=>?_)
  ·refine region ?_;refine S Fv (S Ld (S Fv (S Ld ?_)));obtain⟨y,B,b⟩:=bO b;refine Sc rfl rfl (CS B) ?_;refine S As (nil ?_);exact l _ y wA b
  refine ag.skip ?_;exact l _ u wA b
 rintro C b;try dsimp only at b
 unfold tM at b;refine aT (TA 2 (TA 3 kN)) (fun(z:Int)=>[(5,.a (.d (.int .i64 z)))]) (fun z=>H) (fun z=>vB g i (iN n) z=some r) ?_ ?_
 ·intro ao m;refine af (S Mv (S BI (nil ?_)));refine cE b (fun E b=>?_) (fun E b=>?_)
  ·refine region ?_;refine S Fv (S Ld (S Fv (S Ld ?_)));obtain⟨F,G,b⟩:=bO b;refine Sc rfl rfl (I9 G) ?_;refine S As (nil ?_);exact m _ F wA b
  refine ag.skip ?_;exact m _ C wA b
 rintro I b;try dsimp only at b
 unfold vB at b;refine aT kN (fun(z:Int)=>[(5,.a (.d (.int .i64 z)))]) (fun z=>H) (fun z=>CU z=some r) ?_ ?_
 ·intro ap J;refine af (S As (nil ?_));refine block ?_;refine bx (TA 2 (TA 3 kN)) (fun(z:Nat×Int×Int)=>[(5,.a (.d (.int .i64 z.2.1))),(6,.a (.d (.int .i64 z.2.2)))]) (fun z=>H) (fun z=>z.1) (fun z=>pN g i (iN n) z.1 z.2.1 z.2.2=some r) (F0,I,(0:Int)) b wA ?_;rintro ⟨j,K,L⟩ b aq M;try dsimp only at b
  cases j with
  | zero=>cases b
  | succ j =>
    rw [pN] at b;refine ay fun N o=>?_;refine af (S Mv (S BI (nil ?_)));refine cE b (fun O b=>?_) (fun O b=>?_)
    ·refine sk o ?_;clear o N;refine aT (TA 2 (TA 3 (TA 6 kN))) (fun(z:Int)=>[(5,.a (.d (.int .i64 z)))]) (fun z=>H) (fun z=>tL L ((pN g i (iN n) j)) z=some r) ?_ ?_
     ·intro aw p;refine block ?_;refine ay fun P q=>?_;refine af (S Mv (S Fv ?_));refine s0 (bS (TK rfl) rfl rfl (congrArg (fun x=>some (A.d x)) (aa.dm _))) rfl ?_;refine sLen (f:=aa.c) (s:=g.av) (TK rfl) rfl rfl rfl rfl fun ax=>?_;refine S BI (S Mv (G0 Mv (G0 Fv ?_)));refine gC rfl rfl (fun hC=>aG (k:=37) rfl (bS (TK rfl) rfl rfl (congrArg (fun x=>some (A.d x)) (aa.dm _)))) rfl ?_
      refine gC rfl rfl (fun hC=>aG (k:=38) rfl (cZ (f:=aa.c) (s:=i.av) (TK rfl) rfl rfl rfl)) rfl ?_;refine G2 36 39 rfl rfl BI ?_;refine S PO (nil ?_);refine cE b (fun Q b=>?_) (fun Q b=>?_)
      ·refine af (S Fv ?_);refine s0 (bS (TK rfl) rfl rfl (congrArg (fun x=>some (A.d x)) (aa.dm _))) rfl ?_;refine sLen (f:=aa.c) (s:=g.av) (TK rfl) rfl rfl rfl rfl fun az=>?_;refine S Fv ?_;refine s0 (bS (TK rfl) rfl rfl (congrArg (fun x=>some (A.d x)) (aa.dm _))) rfl ?_;refine sLen (f:=aa.c) (s:=i.av) (TK rfl) rfl rfl rfl rfl fun aA=>?_;obtain⟨aB,R,b⟩:=bO b
       refine Sc rfl rfl (CS R) ?_;refine S As (nil ?_);exact rt b
      refine sk q ?_;clear q P;refine ag.bY (Sd Ld (Sd Mv ?_));obtain⟨aC,U,b⟩:=bO b;refine cq rfl rfl (I_ U) ?_;refine Sd Ld (Sd Mv ?_);obtain⟨aD,W,b⟩:=bO b;refine cq rfl rfl (I_ W) ?_;obtain⟨X,Y,b⟩:=bO b;refine cq rfl rfl (I9 Y) ?_;refine Sd As ?_;refine au.nil (by decide +kernel) ?_;refine af (S Mv (S BI (nil ?_)));refine cE b (fun Z b=>?_) (fun Z b=>?_)
      ·refine ag.draw rfl ?_;refine Sd Fv ?_;refine au.s0 (bS (TK rfl) rfl rfl (congrArg (fun x=>some (A.d x)) (aa.dm _))) rfl ?_;refine Sd Mv ?_;obtain⟨aE,ab,b⟩:=bO b;refine au.s0 (fu (f:=aa.c) (TK rfl) rfl (TK rfl) rfl rfl rfl ab) rfl ?_;refine Sd Ld (Sd Fv ?_);refine au.s0 (bS (TK rfl) rfl rfl (congrArg (fun x=>some (A.d x)) (aa.dm _))) rfl ?_;refine Sd Mv ?_
       obtain⟨aF,ad,b⟩:=bO b;refine au.s0 (fu (f:=aa.c) (TK rfl) rfl (TK rfl) rfl rfl rfl ad) rfl ?_;refine Sd Ld ?_;obtain⟨ae,ai,b⟩:=bO b;refine cq rfl rfl (t ai) ?_;refine Sd As ?_;refine au.nil (by decide +kernel) ?_;exact p _ ae wA b
      refine ag.skip ?_;exact p _ X wA b
     rintro aj b;try dsimp only at b
     unfold tL at b;refine region ?_;refine S Mv ?_;obtain⟨al,am,b⟩:=bO b;refine s0 (cI rfl rfl am) rfl ?_;refine S As (nil ?_);exact M _ (j,aj,al) wA b (nS _)
    refine ag.exit ?_;exact J _ K wA b
 rintro aH b;try dsimp only at b
 unfold CU at b;refine af (S Mv (S As (nil ?_)));exact rt b
theorem Jb:∀(n:Nat),(CV (ak:=ak) n)
 | 0=>fun b=>by first|cases b|(rw [iN] at b; cases b)
 | n+1=>Tm n (Jb n)
def CW (b:aa) (f:aa):Option Int:=iN F0 b f
theorem Tn {b f:aa}{r:Int}(g:CW b f=some r) (H:ah) :AC Tryz.prog 70 [.agg (aa.c b),.agg (aa.c f)] H fun v h'=>v=.a (.d (.int .i64 r))/\h'=H:=(Jb F0) g H 
def ri (f:aa) (g:aa):Option Bool:=(CW f g).bind fun b=>some (decide (b=(0:Int)))
def CX (b:aa) (f:aa):Option Bool:=ri b f
theorem To (a0:aa) (a1:aa):CX a0 a1=ri a0 a1:=rfl
theorem Tp {f g:aa}{r:Bool}(b:CX f g=some r) (H:ah) :AC Tryz.prog 34 [.agg (aa.c f),.agg (aa.c g)] H fun v h'=>v=.a (.d (.bool r))/\h'=H:=by
 unfold CX ri at b;refine AC.oW 9 [.tmp 4] Tryz.call34 Tryz.func34 ?_;refine af (S BX (S BX (S As (nil ?_))));refine af (S Ld (S Ld ?_));obtain⟨j,i,b⟩:=qT rfl b;refine Sc rfl rfl (Tn i) ?_;refine S BI (S As (nil ?_));exact rt b
def CY  :Option Bool:=some true
def CZ (b:Nat) (f:Nat->Option Bool) :Option Bool:=f (b+1)
def C0 (b:Nat) (f:aj) (g:Nat->Option Bool):Nat->Nat->Option Bool
 | 0,_=>none
 | j+1,i=>bif (decide (((i:Nat):Int)<((f.aO.l.length:Nat):Int))) then(none) else(CZ b g )
def tN (i:(Sl aj)) (m:(Sl aj)) (j:(Sl aj)->(Sl aj)->Option Bool):Nat->Nat->Option Bool
 | 0,_=>none
 | o+1,g=>bif (decide (((g:Nat):Int)<((i.l.length:Nat):Int))) then((i.l[g]?).bind fun b=>(m.l[g]?).bind fun f=>aN (!(((((!(b.bF==f.bF))||(!(b.bR==f.bR)))||(!(b.ai==f.ai)))||(!(b.eO==f.eO)))||(!decide (b.dR=f.dR)))) (xC b.aJ f.aJ) false fun k=>aN (!(((((((!(b.bF==f.bF))||(!(b.bR==f.bR)))||(!(b.ai==f.ai)))||(!(b.eO==f.eO)))||(!decide (b.dR=f.dR)))||(!k))||(!decide (((b.aO.l.length:Nat):Int)=((f.aO.l.length:Nat):Int))))) (j b.bE f.bE) false fun p=>bif ((((((((!(b.bF==f.bF))||(!(b.bR==f.bR)))||(!(b.ai==f.ai)))||(!(b.eO==f.eO)))||(!decide (b.dR=f.dR)))||(!k))||(!decide (((b.aO.l.length:Nat):Int)=((f.aO.l.length:Nat):Int))))||(!p)) then(none) else(C0 g b ((tN i m j o)) (b.aO.l.length+1) 0)) else(CY   )
def pO:Nat->(Sl aj)->(Sl aj)->Option Bool
 | 0,_,_=>none
 | n+1,b,f=>bif (!decide (((b.l.length:Nat):Int)=((f.l.length:Nat):Int))) then(none) else(tN b f (pO n) (b.l.length+1) 0)
def C1 (n:Nat):Prop:=∀{a0:(Sl aj)}{a1:(Sl aj)}{w0:Option Nat}{b:Option Nat}  {r:Bool},pO n a0 a1=some r->∀(H:ah),AC Tryz.prog 11 [.d (Sl.d 9 aj.c w0 a0),.d (Sl.d 9 aj.c b a1)] H fun v h'=>v=.a (.d (.bool r))/\h'=H
theorem Tq (n:Nat) (y:C1 (ak:=ak) n):C1 (ak:=ak) (n+1):=by
 intro g o w0 Q  r b H ;rw [pO] at b;refine AC.oW 122 [.tmp 4] Tryz.call11 Tryz.func11 ?_;refine af (S As (nil ?_));refine ay fun B t=>?_;refine af (S Mv ?_);refine sLen (f:=aj.c) (s:=g) (TK rfl) rfl rfl rfl rfl fun R=>?_;refine S Mv ?_;refine sLen (f:=aj.c) (s:=o) (TK rfl) rfl rfl rfl rfl fun U=>?_;refine S BI (nil ?_);refine cE b (fun C b=>?_) (fun C b=>?_)
 ·cases b
 refine sk t ?_;clear t B;refine aT kN (fun(z:Unit)=>[]) (fun z=>H) (fun z=>CY =some r) ?_ ?_
 ·intro W E;refine af (S As (nil ?_));refine block ?_;refine bx (TA 0 (TA 1 kN)) (fun(z:Nat×Nat)=>[(5,.a (.d (.int .i64 ((z.2:Nat):Int))))]) (fun z=>H) (fun z=>z.1) (fun z=>tN g o (pO n) z.1 z.2=some r) ((g.l.length+1),0) b wA ?_;rintro ⟨i,j⟩ b X F;try dsimp only at b
  cases i with
  | zero=>cases b
  | succ i =>
    rw [tN] at b;refine ay fun G u=>?_;refine af (S Mv (S Mv ?_));refine sLen (f:=aj.c) (s:=g) (TK rfl) rfl rfl rfl rfl fun Y=>?_;refine S BI (nil ?_);refine cE b (fun p b=>?_) (fun p b=>?_)
    ·try dsimp only at p
     have Z:=oD p;refine sk u ?_;clear u G;refine aT (TA 0 (TA 1 (TA 5 kN))) (fun(z:Unit)=>[]) (fun z=>H) (fun z=>CZ j ((tN g o (pO n) i)) =some r) ?_ ?_
     ·intro aa I;refine block ?_;refine ag.bY (Sd Mv (Sd Mv ?_));obtain⟨m,J,b⟩:=bO b;refine Sd (ix aj.c j J) (Sd Ld (Sd Mv (Sd Mv ?_)));obtain⟨K,L,b⟩:=bO b;refine Sd (ix aj.c j L) (Sd Ld ?_);refine au.sB (TK rfl) rfl rfl ?_ (by repeat (first|exact bA.nil|apply bA.cons));refine au.sB (TK rfl) rfl rfl ?_ (by repeat (first|exact bA.nil|apply bA.cons));refine au.dh (dH (TK rfl) rfl rfl rfl rfl rfl) ?_
      refine au.dh (dH (TK rfl) rfl rfl rfl rfl rfl) ?_;refine au.nil (by decide +kernel) ?_;refine bu 7 _ rfl (KA 0 (KA 1 (KA 5 (KA 6 aS.nil)))) ?_;refine bu 6 _ rfl (KA 0 (KA 1 (KA 5 (KA 7 aS.nil)))) ?_;refine ay fun M v=>?_;refine af (S Fv (S Ld (S Fv (S Ld (S BS (S Mv (G0 Fv ?_)))))));refine G1 34 rfl Ld ?_;refine G0 Fv ?_;refine G1 36 rfl Ld ?_;refine G2 35 37 rfl rfl BS ?_
      refine S PO (S Mv (G0 Fv ?_));refine G1 41 rfl Ld ?_;refine G0 Fv ?_;refine G1 43 rfl Ld ?_;refine G2 42 44 rfl rfl BS ?_;refine S PO (S Mv (G0 Fv ?_));refine G1 48 rfl Ld ?_;refine G0 Fv ?_;refine G1 50 rfl Ld ?_;refine G2 49 51 rfl rfl BS ?_;refine S PO (S Mv (G0 Fv ?_));refine G1 55 rfl Ld ?_;refine G0 Fv ?_;refine G1 57 rfl Ld ?_;refine G2 56 58 rfl rfl BI ?_;refine S PO (S Mv (G0 Fv ?_))
      refine G1 62 rfl Ld ?_;refine G0 Fv ?_;refine G1 64 rfl Ld ?_;obtain⟨ab,N,b⟩:=gO b;refine fI 63 65 rfl rfl rfl rfl rfl rfl (fun hC=>xD (N hC)) ?_;refine G1 66 rfl NB ?_;refine S PO (S Mv (G0 Fv ?_));refine G1 70 rfl Ld ?_;refine gC rfl rfl (fun hC=>aG (k:=71) rfl (cZ (f:=aD.c) (s:=m.aO) (TK rfl) rfl rfl rfl)) rfl ?_;refine G0 Fv ?_;refine G1 73 rfl Ld ?_;refine gC rfl rfl (fun hC=>aG (k:=74) rfl (cZ (f:=aD.c) (s:=K.aO) (TK rfl) rfl rfl rfl)) rfl ?_
      refine G2 72 75 rfl rfl BI ?_;refine S PO (S Mv (G0 Fv ?_));refine gC rfl rfl (fun hC=>aG (k:=79) rfl (bS (TK rfl) rfl rfl (congrArg (fun x=>some (A.d x)) (aj.gG _)))) rfl ?_;refine G0 Fv ?_;refine gC rfl rfl (fun hC=>aG (k:=81) rfl (bS (TK rfl) rfl rfl (congrArg (fun x=>some (A.d x)) (aj.gG _)))) rfl ?_;obtain⟨ad,O,b⟩:=gO b;refine fI 80 82 rfl rfl rfl rfl rfl rfl (fun hC=>y (O hC)) ?_
      refine G1 83 rfl NB ?_;refine S PO (nil ?_);refine cE b (fun P b=>?_) (fun P b=>?_)
      ·cases b
      refine sk v ?_;clear v M;refine af (S As (nil ?_));refine block ?_;refine bx (TA 0 (TA 1 (TA 5 (TA 6 (TA 7 kN))))) (fun(z:Nat×Nat)=>[(8,.a (.d (.int .i64 ((z.2:Nat):Int))))]) (fun z=>H) (fun z=>z.1) (fun z=>C0 j m ((tN g o (pO n) i)) z.1 z.2=some r) ((m.aO.l.length+1),0) b wA ?_;rintro ⟨w,ae⟩ b ai al;try dsimp only at b
      cases w with
      | zero=>cases b
      | succ w =>
        rw [C0] at b;refine ay fun am an=>?_;refine af (S Mv (S Fv (S Ld ?_)));refine sLen (f:=aD.c) (s:=m.aO) (TK rfl) rfl rfl rfl rfl fun ao=>?_;refine S BI (nil ?_);refine cE b (fun q b=>?_) (fun q b=>?_)
        ·try dsimp only at q
         have ap:=oD q;cases b
        refine ag.exit ?_;exact I _ () wA b
     rintro _ b;try dsimp only at b
     unfold CZ at b;refine region ?_;refine S Mv ?_;refine SI ?_;refine S As (nil ?_);exact F _ (i,(j+1)) wA b (nS _)
    refine ag.exit ?_;exact E _ () wA b
 rintro _ b;try dsimp only at b
 unfold CY at b;refine af (S As (nil ?_));exact rt b
theorem Jc:∀(n:Nat),(C1 (ak:=ak) n)
 | 0=>fun b=>by first|cases b|(rw [pO] at b; cases b)
 | n+1=>Tq n (Jc n)
def Jd (b:(Sl aj)) (f:(Sl aj)):Option Bool:=pO F0 b f
theorem Tr {b f:Sl aj}{w0 g:Option Nat}{r:Bool}(i:Jd b f=some r) (H:ah) :AC Tryz.prog 11 [.d (Sl.d 9 aj.c w0 b),.d (Sl.d 9 aj.c g f)] H fun v h'=>v=.a (.d (.bool r))/\h'=H:=(Jc F0) i H 
section
variable [jO ak]
def Tryz.Je:Go.Shelf.Ren:=⟨fun|159=>36|165=>72|166=>73|167=>74|169=>75|230=>76|204=>77|240=>126|241=>127|197=>128|118=>129|168=>130|270=>131|262=>132|276=>181|277=>182|260=>183|242=>184|313=>185|278=>222|274=>223|275=>224|n=>n,fun|9=>9|4=>4|3=>3|5=>5|72=>130|0=>0|76=>134|75=>133|107=>139|70=>127|20=>20|37=>128|127=>181|21=>21|105=>182|164=>219|162=>225|203=>223|119=>262|46=>190|139=>265|138=>264|51=>266|160=>267|208=>292|206=>290|80=>137|n=>n,fun|13=>0|3=>2|4=>3|n=>n⟩
theorem Tryz.Tt:Go.Proofs.Lays.n159 Tryz.prog Tryz.Je:={
 mixed:=by kernel_rfl
 f118:=Tryz.func129.trans (congrArg some (by kernel_rfl))
 f159:=Tryz.func36.trans (congrArg some (by kernel_rfl))
 f165:=Tryz.func72.trans (congrArg some (by kernel_rfl))
 f166:=Tryz.func73.trans (congrArg some (by kernel_rfl))
 f167:=Tryz.func74.trans (congrArg some (by kernel_rfl))
 f168:=Tryz.func130.trans (congrArg some (by kernel_rfl))
 f169:=Tryz.func75.trans (congrArg some (by kernel_rfl))
 f197:=Tryz.func128.trans (congrArg some (by kernel_rfl))
 f204:=Tryz.func77.trans (congrArg some (by kernel_rfl))
 f230:=Tryz.func76.trans (congrArg some (by kernel_rfl))
 f240:=Tryz.func126.trans (congrArg some (by kernel_rfl))
 f241:=Tryz.func127.trans (congrArg some (by kernel_rfl))
 f242:=Tryz.func184.trans (congrArg some (by kernel_rfl))
 f260:=Tryz.func183.trans (congrArg some (by kernel_rfl))
 f262:=Tryz.func132.trans (congrArg some (by kernel_rfl))
 f270:=Tryz.func131.trans (congrArg some (by kernel_rfl))
 f274:=Tryz.func223.trans (congrArg some (by kernel_rfl))
 f275:=Tryz.func224.trans (congrArg some (by kernel_rfl))
 f276:=Tryz.func181.trans (congrArg some (by kernel_rfl))
 f277:=Tryz.func182.trans (congrArg some (by kernel_rfl))
 f278:=Tryz.func222.trans (congrArg some (by kernel_rfl))
 f313:=Tryz.func185.trans (congrArg some (by kernel_rfl))
 t0:=Tryz.underlying0
 a0:=Tryz.isAgg0
 z0:=Tryz.sizeOf0
 v0:=Tryz.zeroValue0
 t3:=Tryz.underlying3
 a3:=Tryz.isAgg3
 z3:=Tryz.sizeOf3
 v3:=Tryz.zeroValue3
 t4:=Tryz.underlying4
 a4:=Tryz.isAgg4
 z4:=Tryz.sizeOf4
 v4:=Tryz.zeroValue4
 t5:=Tryz.underlying5
 a5:=Tryz.isAgg5
 z5:=Tryz.sizeOf5
 v5:=Tryz.zeroValue5
 t9:=Tryz.underlying9
 a9:=Tryz.isAgg9
 z9:=Tryz.sizeOf9
 v9:=Tryz.zeroValue9
 t20:=Tryz.underlying20
 a20:=Tryz.isAgg20
 z20:=Tryz.sizeOf20
 v20:=Tryz.zeroValue20
 t21:=Tryz.underlying21
 a21:=Tryz.isAgg21
 z21:=Tryz.sizeOf21
 v21:=Tryz.zeroValue21
 t37:=Tryz.underlying128
 a37:=Tryz.isAgg128
 z37:=Tryz.sizeOf128
 v37:=Tryz.zeroValue128
 t46:=Tryz.underlying190
 a46:=Tryz.isAgg190
 z46:=Tryz.sizeOf190
 v46:=Tryz.zeroValue190
 t51:=Tryz.underlying266
 a51:=Tryz.isAgg266
 z51:=Tryz.sizeOf266
 v51:=Tryz.zeroValue266
 t70:=Tryz.underlying127
 a70:=Tryz.isAgg127
 z70:=Tryz.sizeOf127
 v70:=Tryz.zeroValue127
 t72:=Tryz.underlying130
 a72:=Tryz.isAgg130
 z72:=Tryz.sizeOf130
 v72:=Tryz.zeroValue130
 t75:=Tryz.underlying133
 a75:=Tryz.isAgg133
 z75:=Tryz.sizeOf133
 v75:=Tryz.zeroValue133
 t76:=Tryz.underlying134
 a76:=Tryz.isAgg134
 z76:=Tryz.sizeOf134
 v76:=Tryz.zeroValue134
 t105:=Tryz.underlying182
 a105:=Tryz.isAgg182
 z105:=Tryz.sizeOf182
 v105:=Tryz.zeroValue182
 t107:=Tryz.underlying139
 a107:=Tryz.isAgg139
 z107:=Tryz.sizeOf139
 v107:=Tryz.zeroValue139
 t119:=Tryz.underlying262
 a119:=Tryz.isAgg262
 z119:=Tryz.sizeOf262
 t127:=Tryz.underlying181
 a127:=Tryz.isAgg181
 z127:=Tryz.sizeOf181
 v127:=Tryz.zeroValue181
 t138:=Tryz.underlying264
 a138:=Tryz.isAgg264
 z138:=Tryz.sizeOf264
 v138:=Tryz.zeroValue264
 t139:=Tryz.underlying265
 a139:=Tryz.isAgg265
 z139:=Tryz.sizeOf265
 v139:=Tryz.zeroValue265
 t160:=Tryz.underlying267
 a160:=Tryz.isAgg267
 z160:=Tryz.sizeOf267
 v160:=Tryz.zeroValue267
 t162:=Tryz.underlying225
 a162:=Tryz.isAgg225
 z162:=Tryz.sizeOf225
 v162:=Tryz.zeroValue225
 t164:=Tryz.underlying219
 a164:=Tryz.isAgg219
 z164:=Tryz.sizeOf219
 v164:=Tryz.zeroValue219
 t203:=Tryz.underlying223
 a203:=Tryz.isAgg223
 z203:=Tryz.sizeOf223
 v203:=Tryz.zeroValue223
 t206:=Tryz.underlying290
 a206:=Tryz.isAgg290
 z206:=Tryz.sizeOf290
 v206:=Tryz.zeroValue290
 t208:=Tryz.underlying292
 a208:=Tryz.isAgg292
 z208:=Tryz.sizeOf292
 v208:=Tryz.zeroValue292
 g3:=by kernel_rfl
 g4:=by kernel_rfl
 g13:=by kernel_rfl }
theorem Tryz.Tu:Builder.Extra Tryz.prog Tryz.Je where
 sizeBuilder:=by kernel_rfl
 liesBuilder:=by kernel_rfl
 t5:=Tryz.underlying5
 a5:=Tryz.isAgg5
 z5:=Tryz.sizeOf5
 v5:=Tryz.zeroValue5
 infoByte:=by kernel_rfl
 cellsByte:=by kernel_rfl
 sizeByte:=by kernel_rfl
 neB5:=by decide
def Jf (s:Bs):Option Bs:=zX s
theorem Tv {b r:Bs}(f:Jf b=some r) (H:ah):AC Tryz.prog 36 [.d (.str b)] H fun v h'=>v=.a (.d (.str r))/\h'=H:=Oj Tryz.Tt Tryz.Tu f rfl
end
def Tryz.Tw:Go.Shelf.Ren:=⟨fun|240=>126|276=>181|n=>n,fun|0=>0|4=>4|9=>9|20=>20|70=>127|72=>130|164=>219|37=>128|n=>n,fun|n=>n⟩
theorem Tryz.Tx:Go.Proofs.Lays.n240 Tryz.prog Tryz.Tw:={
 mixed:=by kernel_rfl
 f240:=Tryz.func126.trans (congrArg some (by kernel_rfl))
 f276:=Tryz.func181.trans (congrArg some (by kernel_rfl))
 t0:=Tryz.underlying0
 a0:=Tryz.isAgg0
 z0:=Tryz.sizeOf0
 v0:=Tryz.zeroValue0
 t4:=Tryz.underlying4
 a4:=Tryz.isAgg4
 z4:=Tryz.sizeOf4
 v4:=Tryz.zeroValue4
 t9:=Tryz.underlying9
 a9:=Tryz.isAgg9
 z9:=Tryz.sizeOf9
 v9:=Tryz.zeroValue9
 t20:=Tryz.underlying20
 a20:=Tryz.isAgg20
 z20:=Tryz.sizeOf20
 v20:=Tryz.zeroValue20
 t70:=Tryz.underlying127
 a70:=Tryz.isAgg127
 z70:=Tryz.sizeOf127
 v70:=Tryz.zeroValue127
 t72:=Tryz.underlying130
 a72:=Tryz.isAgg130
 z72:=Tryz.sizeOf130
 v72:=Tryz.zeroValue130
 t164:=Tryz.underlying219
 a164:=Tryz.isAgg219
 z164:=Tryz.sizeOf219
 v164:=Tryz.zeroValue219 }
def Jg (b:bT):Option bT:=some ⟨true,b.cW⟩
def Jh (b:bT):Option bT:=some ⟨true,b.cW⟩
theorem Ty (a0:bT):Jg a0=Jh a0:=rfl
theorem Tz {g:bT}{f b:Nat}{r:bT}(i:Jg g=some r) (H:ah) (j:H f=some (.dz 130 (bT.cg f (some b) g))) (k:H b=some (.tok 1 g.cW.l.length (some 5))):AC Tryz.prog 126 [.d (.ptr f 0)] H fun v h'=>v=.cS []/\h'=((H.set b (some (.tok 1 r.cW.l.length (some 5)))).set f (some (.dz 130 (bT.cg f (some b) r)))):=by
 obtain rfl:=oJ i;refine(Ob (T:=130) Tryz.Tx ⟨by kernel_rfl,by kernel_rfl⟩ rfl rfl j).mono fun v h' e=>⟨e.1, ?_⟩;rw [e.2];show _=ah.set (ah.set H b _) _ _;rw [ah.oh H b _ k]
def Ji (i:bT) (f:Bs):Option (Int×Unit×bT):=(Jh i).bind fun b=>(aZ 1 b.cW (wG f)).bind fun g=>some (((f.length:Nat):Int),(),(bT.mk b.wE g))
def tO (b:bT) (f:Bs):Option (Int×Unit×bT):=Ji b f
theorem yq {i:bT}{m:Bs}{b f:Nat}{r:Int×Unit×bT}(g:tO i m=some r) (H:ah) (s:H b=some (.dz 130 (bT.cg b (some f) i))) (t:H f=some (.tok 1 i.cW.l.length (some 5))):AC Tryz.prog 73 [.d (.ptr b 0),.d (.str m)] H fun v h'=>v=.cS [.d (.int .i64 r.1),.d (.nilIface)]/\h'=((H.set f (some (.tok 1 r.2.2.cW.l.length (some 5)))).set b (some (.dz 130 (bT.cg b (some f) r.2.2)))):=by
 unfold tO Ji at g;refine AC.oW 19 [.tmp 4,.tmp 5] Tryz.call73 Tryz.func73 ?_;have u:b≠f:=fun o=>by subst o; simp_all
 refine ag.eS (h':=((H.set f (some (.tok 1 i.cW.l.length (some 5)))).set b (some (.dz 130 (bT.cg b (some f) i))))) (by funext n_; simp only [ah.set]; (repeat' split)<;>simp_all) ?_;refine af (S As (S As (nil ?_)));refine af (S Mv ?_);obtain⟨j,p,g⟩:=qT (Ty _) g;refine sH (de rfl rfl (Tz p _ aI aI)) rfl ?_;refine hq ((H.set f (some (.tok 1 j.cW.l.length (some 5)))).set b (some (.dz 130 (bT.cg b (some f) j)))) ?_
 refine nil ?_;refine af (S Mv (S Mv (S NP ?_)));refine s0 (ct (TK rfl) rfl rfl (TK rfl) rfl rfl) rfl ?_;refine s0 (N7 (TK rfl) rfl rfl aI rfl) rfl ?_;refine S Mv ?_;obtain⟨k,q,g⟩:=qT rfl g;refine sH (Og (TK rfl) rfl (TK rfl) (TK rfl) rfl rfl rfl rfl rfl rfl rfl aI rfl rfl q) rfl ?_;refine hq ((H.set f (some (.tok 1 k.l.length (some 5)))).set b (some (.dz 130 (bT.cg b (some f) j)))) ?_
 refine S NP ?_;refine s0 (ct (TK rfl) rfl rfl (TK rfl) rfl rfl) rfl ?_;refine fT (N8 (TK rfl) rfl rfl aI rfl (by repeat (first|exact cD.zero|apply cD.succ))) rfl rfl ?_;refine hq ((H.set f (some (.tok 1 k.l.length (some 5)))).set b (some (.dz 130 (bT.cg b (some f) (bT.mk j.wE k))))) ?_;refine nil ?_;refine af (S Mv ?_);refine mS (TK rfl) rfl rfl rfl rfl fun w=>?_
 refine S As (S As (nil ?_));exact rt g
end Go.Proofs
