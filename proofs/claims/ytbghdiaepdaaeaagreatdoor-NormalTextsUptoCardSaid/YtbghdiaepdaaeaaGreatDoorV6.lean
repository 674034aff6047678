import Derived.Test.YtbghdiaepdaaeaaGreatDoorV5
set_option maxRecDepth 100000
set_option maxHeartbeats 2000000
set_option linter.unusedVariables false
set_option linter.unusedSimpArgs false
namespace Go.Proofs
open Go Go.Ab
open aS aq ah aU dV
variable {an:bf}
def sC  :Option Bool:=some true
def sD (f:(Sl aj)) (g:(Sl aj)) (i:(aj->aj->Option Bool)) :Nat->Nat->Option Bool
 | 0,_=>none
 | j+1,b=>bif (decide (((b:Nat):Int)<((f.l.length:Nat):Int))) then((f.l[b]?).bind fun k=>(g.l[b]?).bind fun m=>(i k m).bind fun o=>bif (!o) then(some false) else((sD f g i j) (b+1))) else(sC   )
def uq (b:(Sl aj)) (f:(Sl aj)) (g:(aj->aj->Option Bool)):Option Bool:=bif (!decide (((b.l.length:Nat):Int)=((f.l.length:Nat):Int))) then(some false) else(sD b f g (b.l.length+1) 0)
theorem Rr {g i:Sl aj}{o:aj->aj->Option Bool}{w0 y:Option Nat}{p:List D}{k2:Nat}{r:Bool}(b:uq g i o=some r) (H:ag) (B:∀q t r,o q t=some r->∀H,AC Tryz.prog k2 ([.agg (aj.c q),.agg (aj.c t)]++p.map A.d) H fun v h'=>v=.a (.d (.bool r))/\h'=H):AC Tryz.prog 40 [.d (Sl.d 9 aj.c w0 g),.d (Sl.d 9 aj.c y i),.d (.func k2 p)] H fun v h'=>v=.a (.d (.bool r))/\h'=H:=by
 unfold uq at b;refine AC.oW 32 [.tmp 6] Tryz.call40 Tryz.func40 ?_;refine aa (S As (nil ?_));refine ay fun C u=>?_;refine aa (S Mv ?_);refine sLen (f:=aj.c) (s:=g) (TK rfl) rfl rfl rfl rfl fun O=>?_;refine S Mv ?_;refine sLen (f:=aj.c) (s:=i) (TK rfl) rfl rfl rfl rfl fun P=>?_;refine S BI (nil ?_);refine cE b (fun E b=>?_) (fun E b=>?_)
 ·refine aa (S As (nil ?_));exact rt b
 refine sk u ?_;clear u C;refine aP kN (fun(z:Unit)=>[]) (fun z=>H) (fun z=>sC =some r) ?_ ?_
 ·intro Q F;refine aa (S Mv ?_);refine sLen (f:=aj.c) (s:=g) (TK rfl) rfl rfl rfl rfl fun R=>?_;refine S Mv (nil ?_);refine block ?_;refine bD (TA 1 (TA 2 (TA 15 (TA 16 kN)))) (fun(z:Nat×Nat)=>[(17,.a (.d (.int .i64 ((z.2:Nat):Int))))]) (fun z=>H) (fun z=>z.1) (fun z=>sD g i o z.1 z.2=some r) ((g.l.length+1),0) b wA ?_;rintro ⟨j,k⟩ b U G;try dsimp only at b
  cases j with
  | zero=>cases b
  | succ j =>
    rw [sD] at b;refine aa (S BI (nil ?_));refine ay fun I w=>?_;refine cE b (fun m b=>?_) (fun m b=>?_)
    ·try dsimp only at m
     have W:=oD m;refine sk w ?_;clear w I;refine ay fun J x=>?_;refine block ?_;refine aa (S Mv ?_);obtain⟨X,K,b⟩:=bO b;refine S (ix aj.c k K) (S Ld ?_);refine Sl ?_;refine S As ?_;refine Sf ?_;refine nil ?_;refine bH 8 _ rfl (KA 1 (KA 2 (KA 7 (KA 15 (KA 16 (KA 17 aU.nil)))))) ?_;refine aa (S Mv (S Mv ?_));obtain⟨Y,L,b⟩:=bO b;refine S (ix aj.c k L) (S Ld ?_)
     refine Sl ?_;refine Sf ?_;refine nil ?_;refine bH 9 _ rfl (KA 1 (KA 2 (KA 8 (KA 15 (KA 16 (KA 17 aU.nil)))))) ?_;refine aa (S Mv (S Ld (S Ld ?_)));obtain⟨Z,M,b⟩:=bO b;refine s0 (fh rfl rfl (B _ _ _ M)) rfl ?_;refine S NB (nil ?_);refine cE b (fun N b=>?_) (fun N b=>?_)
     ·refine aa (S As (nil ?_));exact rt b
     refine sk x ?_;clear x J;refine region ?_;refine SI ?_;refine S Mv (nil ?_);exact G _ (j,(k+1)) wA b (nS _)
    refine ah.exit ?_;exact F _ () wA b
 rintro _ b;try dsimp only at b
 unfold sC at b;refine aa (S As (nil ?_));exact rt b
def oA (f:(Sl aj)) (g:(aj->aj->Option Bool)):List aj->Nat->Option (Unit ⊕ Bool)
 | [],b=>some (Sum.inl ())
 | i::j,b=>on (i) fun k=>(f.l[b]?).bind fun m=>(g k m).bind fun o=>bif (!o) then(some (Sum.inr false)) else(oA f g (j) (b+1) )
theorem Rs {g k:Sl aj}{m:aj->aj->Option Bool}(i:(Unit ⊕ Bool)->Option Bool) (o:∀(f:Nat) (b:Nat),sC   =i (Sum.inl ())) (p:∀e:Bool,some e=i (Sum.inr e)):∀(f:Nat) (b:Nat),(0<f/\g.l.length<b+f)->sD g k m f b=Option.bind (oA k m (g.l.drop b) b ) i:=by
 intro f;induction f with
 | zero=>intro b hn; exact absurd hn.1 (by omega)
 | succ f q =>
  intro b hn;rw [sD];by_cases bh:b<g.l.length
  ·obtain⟨r,j⟩:=Qa bh;rw [Q.lF j,oA];refine QT bh ?_;refine Q.mv j fun s t=>?_;refine Q.nM rfl fun u=>?_;refine Q.nM rfl fun v=>?_;refine Q.kF ?_ ?_
   ·all_goals exact p _
   all_goals exact q _ ⟨by omega,by omega⟩
  rw [dL (by omega),oA];refine QF bh ?_;exact o f b
def ur (b:(Sl aj)) (f:(Sl aj)) (j:(aj->aj->Option Bool)):Option Bool:=bif (!decide (((b.l.length:Nat):Int)=((f.l.length:Nat):Int))) then(some false) else(Option.bind (oA f j b.l 0 ) fun g=>match g with|Sum.inl _=>(on (()) fun _=>some true)|Sum.inr i=>(some i))
theorem Ru (a0:(Sl aj)) (a1:(Sl aj)) (a2:(aj->aj->Option Bool)):uq a0 a1 a2=ur a0 a1 a2:=by
 unfold uq ur;refine Qs ?_;refine Q.kF ?_ ?_
 ·all_goals rfl
 refine Q.q7 fun f b=>?_;refine Rs  f ?_ ?_ _ _ ⟨Nat.succ_pos _,by omega⟩
 ·intro k l;refine Qe (b _) ?_;try dsimp only
  refine Q.q6 fun g i=>?_;have j:sC  =g ():=by
   refine Qe (i _) ?_;unfold sC;all_goals rfl
  all_goals exact j
 intro m;refine Qe (b _) ?_;try dsimp only
 all_goals rfl
def sF  :Option Bool:=some true
def sG (f:(Sl ax)) (g:(Sl ax)) (i:(ax->ax->Option Bool)) :Nat->Nat->Option Bool
 | 0,_=>none
 | j+1,b=>bif (decide (((b:Nat):Int)<((f.l.length:Nat):Int))) then((f.l[b]?).bind fun k=>(g.l[b]?).bind fun m=>(i k m).bind fun o=>bif (!o) then(some false) else((sG f g i j) (b+1))) else(sF   )
def uu (b:(Sl ax)) (f:(Sl ax)) (g:(ax->ax->Option Bool)):Option Bool:=bif (!decide (((b.l.length:Nat):Int)=((f.l.length:Nat):Int))) then(some false) else(sG b f g (b.l.length+1) 0)
theorem Rv {g i:Sl ax}{o:ax->ax->Option Bool}{w0 y:Option Nat}{p:List D}{k2:Nat}{r:Bool}(b:uu g i o=some r) (H:ag) (B:∀q t r,o q t=some r->∀H,AC Tryz.prog k2 ([.agg (ax.c q),.agg (ax.c t)]++p.map A.d) H fun v h'=>v=.a (.d (.bool r))/\h'=H):AC Tryz.prog 43 [.d (Sl.d 6 ax.c w0 g),.d (Sl.d 6 ax.c y i),.d (.func k2 p)] H fun v h'=>v=.a (.d (.bool r))/\h'=H:=by
 unfold uu at b;refine AC.oW 32 [.tmp 6] Tryz.call43 Tryz.func43 ?_;refine aa (S As (nil ?_));refine ay fun C u=>?_;refine aa (S Mv ?_);refine sLen (f:=ax.c) (s:=g) (TK rfl) rfl rfl rfl rfl fun O=>?_;refine S Mv ?_;refine sLen (f:=ax.c) (s:=i) (TK rfl) rfl rfl rfl rfl fun P=>?_;refine S BI (nil ?_);refine cE b (fun E b=>?_) (fun E b=>?_)
 ·refine aa (S As (nil ?_));exact rt b
 refine sk u ?_;clear u C;refine aP kN (fun(z:Unit)=>[]) (fun z=>H) (fun z=>sF =some r) ?_ ?_
 ·intro Q F;refine aa (S Mv ?_);refine sLen (f:=ax.c) (s:=g) (TK rfl) rfl rfl rfl rfl fun R=>?_;refine S Mv (nil ?_);refine block ?_;refine bD (TA 1 (TA 2 (TA 15 (TA 16 kN)))) (fun(z:Nat×Nat)=>[(17,.a (.d (.int .i64 ((z.2:Nat):Int))))]) (fun z=>H) (fun z=>z.1) (fun z=>sG g i o z.1 z.2=some r) ((g.l.length+1),0) b wA ?_;rintro ⟨j,k⟩ b U G;try dsimp only at b
  cases j with
  | zero=>cases b
  | succ j =>
    rw [sG] at b;refine aa (S BI (nil ?_));refine ay fun I w=>?_;refine cE b (fun m b=>?_) (fun m b=>?_)
    ·try dsimp only at m
     have W:=oD m;refine sk w ?_;clear w I;refine ay fun J x=>?_;refine block ?_;refine aa (S Mv ?_);obtain⟨X,K,b⟩:=bO b;refine S (ix ax.c k K) (S Ld ?_);refine Sl ?_;refine S As ?_;refine Sf ?_;refine nil ?_;refine bH 8 _ rfl (KA 1 (KA 2 (KA 7 (KA 15 (KA 16 (KA 17 aU.nil)))))) ?_;refine aa (S Mv (S Mv ?_));obtain⟨Y,L,b⟩:=bO b
     refine S (ix ax.c k L) (S Ld ?_);refine Sl ?_;refine Sf ?_;refine nil ?_;refine bH 9 _ rfl (KA 1 (KA 2 (KA 8 (KA 15 (KA 16 (KA 17 aU.nil)))))) ?_;refine aa (S Mv (S Ld (S Ld ?_)));obtain⟨Z,M,b⟩:=bO b;refine s0 (fh rfl rfl (B _ _ _ M)) rfl ?_;refine S NB (nil ?_);refine cE b (fun N b=>?_) (fun N b=>?_)
     ·refine aa (S As (nil ?_));exact rt b
     refine sk x ?_;clear x J;refine region ?_;refine SI ?_;refine S Mv (nil ?_);exact G _ (j,(k+1)) wA b (nS _)
    refine ah.exit ?_;exact F _ () wA b
 rintro _ b;try dsimp only at b
 unfold sF at b;refine aa (S As (nil ?_));exact rt b
def oC (f:(Sl ax)) (g:(ax->ax->Option Bool)):List ax->Nat->Option (Unit ⊕ Bool)
 | [],b=>some (Sum.inl ())
 | i::j,b=>on (i) fun k=>(f.l[b]?).bind fun m=>(g k m).bind fun o=>bif (!o) then(some (Sum.inr false)) else(oC f g (j) (b+1) )
theorem Rw {g k:Sl ax}{m:ax->ax->Option Bool}(i:(Unit ⊕ Bool)->Option Bool) (o:∀(f:Nat) (b:Nat),sF   =i (Sum.inl ())) (p:∀e:Bool,some e=i (Sum.inr e)):∀(f:Nat) (b:Nat),(0<f/\g.l.length<b+f)->sG g k m f b=Option.bind (oC k m (g.l.drop b) b ) i:=by
 intro f;induction f with
 | zero=>intro b hn; exact absurd hn.1 (by omega)
 | succ f q =>
  intro b hn;rw [sG];by_cases bh:b<g.l.length
  ·obtain⟨r,j⟩:=Qa bh;rw [Q.lF j,oC];refine QT bh ?_;refine Q.mv j fun s t=>?_;refine Q.nM rfl fun u=>?_;refine Q.nM rfl fun v=>?_;refine Q.kF ?_ ?_
   ·all_goals exact p _
   all_goals exact q _ ⟨by omega,by omega⟩
  rw [dL (by omega),oC];refine QF bh ?_;exact o f b
def uv (b:(Sl ax)) (f:(Sl ax)) (j:(ax->ax->Option Bool)):Option Bool:=bif (!decide (((b.l.length:Nat):Int)=((f.l.length:Nat):Int))) then(some false) else(Option.bind (oC f j b.l 0 ) fun g=>match g with|Sum.inl _=>(on (()) fun _=>some true)|Sum.inr i=>(some i))
theorem Rx (a0:(Sl ax)) (a1:(Sl ax)) (a2:(ax->ax->Option Bool)):uu a0 a1 a2=uv a0 a1 a2:=by
 unfold uu uv;refine Qs ?_;refine Q.kF ?_ ?_
 ·all_goals rfl
 refine Q.q7 fun f b=>?_;refine Rw  f ?_ ?_ _ _ ⟨Nat.succ_pos _,by omega⟩
 ·intro k l;refine Qe (b _) ?_;try dsimp only
  refine Q.q6 fun g i=>?_;have j:sF  =g ():=by
   refine Qe (i _) ?_;unfold sF;all_goals rfl
  all_goals exact j
 intro m;refine Qe (b _) ?_;try dsimp only
 all_goals rfl
def sI (b:Int):Bool:=(!decide (b=b))
def Cg (b:Int):Option Bool:=some (sI b)
theorem IC (a0:Int):Cg a0=some (sI a0):=rfl
theorem ID {f:Int}{r:Bool}(b:Cg f=some r) (H:ag) :AC Tryz.prog 187 [.d (.int .i64 f)] H fun v h'=>v=.a (.d (.bool r))/\h'=H:=by
 unfold Cg sI at b;refine AC.oW 6 [.tmp 2] Tryz.call187 Tryz.func187 ?_;refine aa (S As (nil ?_));refine aa (S Mv (S Mv (S BI (S As (nil ?_)))));exact rt b
def xq (b:Int) (f:Int):Int:=on (sI b) fun i=>on (sI f) fun g=>bif i then(bif g then((0:Int)) else((-1:Int))) else(bif g then((1:Int)) else(bif (decide (b<f)) then((-1:Int)) else(bif (decide (f<b)) then((1:Int)) else((0:Int)))))
def qo (b:Int) (f:Int):Option Int:=some (xq b f)
theorem Ry (a0:Int) (a1:Int):qo a0 a1=some (xq a0 a1):=rfl
theorem Ch {l m r:Int}(b:qo l m=some r) (H:ag) :AC Tryz.prog 138 [.d (.int .i64 l),.d (.int .i64 m)] H fun v h'=>v=.a (.d (.int .i64 r))/\h'=H:=by
 unfold qo xq at b;refine AC.oW 20 [.tmp 4] Tryz.call138 Tryz.func138 ?_;refine aa (S As (nil ?_));refine aa (S Mv ?_);obtain⟨E,o,b⟩:=vP (IC _) b;refine Sc rfl rfl (ID o) ?_;refine S As (nil ?_);refine aa (S Mv ?_);obtain⟨F,p,b⟩:=vP (IC _) b;refine Sc rfl rfl (ID p) ?_;refine S As (nil ?_);refine ay fun q f=>?_;refine aa (S Mv (nil ?_));refine cP b (fun s b=>?_) (fun s b=>?_)
 ·refine ay fun t g=>?_;refine aa (S Mv (nil ?_));refine cP b (fun u b=>?_) (fun u b=>?_)
  ·refine aa (S As (nil ?_));exact rt b
  refine sk g ?_;clear g t;refine aa (S As (nil ?_));exact rt b
 refine sk f ?_;clear f q;refine ay fun w i=>?_;refine aa (S Mv (nil ?_));refine cP b (fun x b=>?_) (fun x b=>?_)
 ·refine aa (S As (nil ?_));exact rt b
 refine sk i ?_;clear i w;refine ay fun y j=>?_;refine aa (S Mv (S Mv (S BI (nil ?_))));refine cP b (fun z b=>?_) (fun z b=>?_)
 ·refine aa (S As (nil ?_));exact rt b
 refine sk j ?_;clear j y;refine ay fun B k=>?_;refine aa (S Mv (S Mv (S BI (nil ?_))));refine cP b (fun C b=>?_) (fun C b=>?_)
 ·refine aa (S As (nil ?_));exact rt b
 refine sk k ?_;clear k B;refine aa (S As (nil ?_));exact rt b
def Tryz.Rz:Go.Shelf.Ren:=⟨fun|106=>139|213=>188|265=>225|n=>n,fun|9=>9|3=>3|n=>n,fun|n=>n⟩
theorem Tryz.RA:Go.Proofs.Lays.n106 Tryz.prog Tryz.Rz:={
 mixed:=by kernel_rfl
 f106:=Tryz.func139.trans (congrArg some (by kernel_rfl))
 f213:=Tryz.func188.trans (congrArg some (by kernel_rfl))
 f265:=Tryz.func225.trans (congrArg some (by kernel_rfl))
 t3:=Tryz.underlying3
 a3:=Tryz.isAgg3
 z3:=Tryz.sizeOf3
 v3:=Tryz.zeroValue3
 t9:=Tryz.underlying9
 a9:=Tryz.isAgg9
 z9:=Tryz.sizeOf9
 v9:=Tryz.zeroValue9 }
def uw (s t:Bs):Option Int:=some (Lib.compareBytes s t)
theorem IE {b f:Bs}{r:Int}(g:uw b f=some r) (H:ag):AC Tryz.prog 139 [.d (.str b),.d (.str f)] H fun v h'=>v=.a (.d (.int .i64 r))/\h'=H:=by
 obtain rfl:=oJ g;exact NX Tryz.RA rfl
def xu (b:af) (f:Int):Option Bs:=bif (decide (f<((b.aF.l.length:Nat):Int))) then((cq b.aF.l f).bind fun g=>some g) else(some ([]:Bs))
def sJ (b:af) (f:Int):Option Bs:=xu b f
theorem RB (a0:af) (a1:Int):sJ a0 a1=xu a0 a1:=rfl
theorem IF {g:af}{j:Int}{r:Bs}(b:sJ g j=some r) (H:ag) :AC Tryz.prog 140 [.agg (af.c g),.d (.int .i64 j)] H fun v h'=>v=.a (.d (.str r))/\h'=H:=by
 unfold sJ xu at b;refine AC.oW 15 [.tmp 4] Tryz.call140 Tryz.func140 ?_;refine aa (S BX (S As (nil ?_)));refine ay fun k i=>?_;refine aa (S Mv (S Fv (S Ld ?_)));refine sLen (f:=aM) (s:=g.aF) (TK rfl) rfl rfl rfl rfl fun o=>?_;refine S BI (nil ?_);refine cE b (fun l b=>?_) (fun l b=>?_)
 ·refine aa (S Fv (S Ld (S Mv ?_)));obtain⟨p,m,b⟩:=qT rfl b;refine s0 (fI (f:=aM) (TK rfl) rfl (TK rfl) rfl rfl rfl m) rfl ?_;refine S Ld (S As (nil ?_));exact rt b
 refine sk i ?_;clear i k;refine aa (S As (nil ?_));exact rt b
def oE  (b:Int):Option Int:=some b
def xw (b:Int) (f:Int->Int->Option Int) (g:Int):Option Int:=(bY b (1:Int)).bind fun i=>f g i
def xx (i:af) (j:af) (b:Int) (f:Int->Int->Option Int) :Option Int:=(qo ((i.av.l.length:Nat):Int) ((j.av.l.length:Nat):Int)).bind fun g=>xw b f g
def sK (f:af) (g:af) (i:Int) (j:Int->Int->Option Int) (k:af->af->Option Int):Nat->Int->Option Int
 | 0,_=>none
 | p+1,b=>bif (decide (b<(if ((g.av.l.length:Nat):Int)<((f.av.l.length:Nat):Int) then((g.av.l.length:Nat):Int) else((f.av.l.length:Nat):Int)))) then((sJ f b).bind fun q=>(sJ g b).bind fun r=>(uw q r).bind fun m=>bif (!decide (m=(0:Int))) then(oE   m) else((cq f.av.l b).bind fun s=>(cq g.av.l b).bind fun t=>(k s t).bind fun o=>bif (!decide (o=(0:Int))) then(oE   o) else((bY b (1:Int)).bind fun u=>(sK f g i j k p) u))) else(xx f g i j )
def j8 (b:af) (f:af) (g:af->af->Option Int):Nat->Int->Int->Option Int
 | 0,_,_=>none
 | j+1,k,i=>bif (decide (i<(1:Int))) then(bif (!decide (b.ak=f.ak)) then((qo b.ak f.ak).bind fun l=>oE   l) else(bif (!decide (b.bl=f.bl)) then((qo b.bl f.bl).bind fun m=>oE   m) else(bif (!(b.aV==f.aV)) then((uw b.aV f.aV).bind fun o=>oE   o) else(sK b f i ((j8 b f g j)) g F0 (0:Int))))) else(oE   k)
def iq:Nat->af->af->Option Int
 | 0,_,_=>none
 | n+1,b,f=>j8 b f (iq n) F0 (0:Int) (0:Int)
def Ci (n:Nat):Prop:=∀{a0:af}{a1:af}   {r:Int},iq n a0 a1=some r->∀(H:ag),AC Tryz.prog 84 [.agg (af.c a0),.agg (af.c a1)] H fun v h'=>v=.a (.d (.int .i64 r))/\h'=H
theorem RC (n:Nat) (w:Ci (an:=an) n):Ci (an:=an) (n+1):=by
 intro g i   r b H ;rw [iq] at b;refine AC.oW 84 [.tmp 4] Tryz.call84 Tryz.func84 ?_;refine aa (S BX (S BX (S As (nil ?_))));refine ah.scope ?_;refine aa (S As (nil ?_));refine ay fun y o=>?_;refine ah.label ?_;refine o _ ?_;clear o y;refine aP kN (fun(z:Int)=>[(5,.a (.d (.int .i64 z)))]) (fun z=>H) (fun z=>oE z=some r) ?_ ?_
 ·intro aE j;refine aa (S Mv (nil ?_));refine block ?_;refine bD (TA 2 (TA 3 kN)) (fun(z:Nat×Int×Int)=>[(5,.a (.d (.int .i64 z.2.1))),(7,.a (.d (.int .i64 z.2.2)))]) (fun z=>H) (fun z=>z.1) (fun z=>j8 g i (iq n) z.1 z.2.1 z.2.2=some r) (F0,(0:Int),(0:Int)) b wA ?_;rintro ⟨k,B,l⟩ b aF C;try dsimp only at b
  cases k with
  | zero=>cases b
  | succ k =>
    rw [j8] at b;refine aa (S BI (nil ?_));refine ay fun E p=>?_;refine cE b (fun F b=>?_) (fun F b=>?_)
    ·refine sk p ?_;clear p E;refine aP (TA 2 (TA 3 (TA 7 kN))) (fun(z:Int)=>[(5,.a (.d (.int .i64 z)))]) (fun z=>H) (fun z=>xw l ((j8 g i (iq n) k)) z=some r) ?_ ?_
     ·intro aG G;refine block ?_;refine ay fun I q=>?_;refine block ?_;refine aa (S Fv (S Ld (S Fv (S Ld (S BI (S As (nil ?_)))))));refine cE b (fun J b=>?_) (fun J b=>?_)
      ·refine aa (S Fv (S Ld (S Fv (S Ld ?_))));obtain⟨K,L,b⟩:=bO b;refine Sc rfl rfl (Ch L) ?_;refine S As (nil ?_);refine ah.exit ?_;exact j _ K wA b
      refine aa (S Fv (S Ld (S Fv (S Ld (S BI (S As (nil ?_)))))));refine cE b (fun M b=>?_) (fun M b=>?_)
      ·refine aa (S Fv (S Ld (S Fv (S Ld ?_))));obtain⟨N,O,b⟩:=bO b;refine Sc rfl rfl (Ch O) ?_;refine S As (nil ?_);refine ah.exit ?_;exact j _ N wA b
      refine aa (S Fv (S Ld (S Fv (S Ld (S BS (S As (nil ?_)))))));refine cE b (fun P b=>?_) (fun P b=>?_)
      ·refine aa (S Fv (S Ld (S Fv (S Ld ?_))));obtain⟨Q,R,b⟩:=bO b;refine Sc rfl rfl (IE R) ?_;refine S As (nil ?_);refine ah.exit ?_;exact j _ Q wA b
      refine sk q ?_;clear q I;refine aP (TA 2 (TA 3 (TA 7 kN))) (fun(z:Unit)=>[]) (fun z=>H) (fun z=>xx g i l ((j8 g i (iq n) k)) =some r) ?_ ?_
      ·intro aH U;refine aa (S Fv ?_);refine s0 (ck (TK rfl) rfl rfl (congrArg (fun x=>some (A.d x)) (af.di _))) rfl ?_;refine sLen (f:=af.c) (s:=g.av) (TK rfl) rfl rfl rfl rfl fun aI=>?_;refine S Fv ?_;refine s0 (ck (TK rfl) rfl rfl (congrArg (fun x=>some (A.d x)) (af.di _))) rfl ?_;refine sLen (f:=af.c) (s:=i.av) (TK rfl) rfl rfl rfl rfl fun aK=>?_;refine s0 (Fl rfl rfl) rfl ?_
       refine S Mv (nil ?_);refine block ?_;refine bD (TA 2 (TA 3 (TA 7 (TA 48 kN)))) (fun(z:Nat×Int)=>[(49,.a (.d (.int .i64 z.2)))]) (fun z=>H) (fun z=>z.1) (fun z=>sK g i l ((j8 g i (iq n) k)) (iq n) z.1 z.2=some r) (F0,(0:Int)) b wA ?_;rintro ⟨m,aL⟩ b aM W;try dsimp only at b
       cases m with
       | zero=>cases b
       | succ m =>
         rw [sK] at b;refine aa (S BI (nil ?_));refine ay fun X t=>?_;refine cE b (fun Y b=>?_) (fun Y b=>?_)
         ·refine sk t ?_;clear t X;refine ay fun Z u=>?_;refine block ?_;refine aa (S Mv (S As (nil ?_)));refine ay fun ab v=>?_;refine ah.cH (Sd Ld (Sd Mv ?_));obtain⟨aN,ad,b⟩:=bO b;refine cN rfl rfl (IF ad) ?_;refine Sd Ld (Sd Mv ?_);obtain⟨aO,ae,b⟩:=bO b;refine cN rfl rfl (IF ae) ?_;obtain⟨ai,aj,b⟩:=bO b;refine cN rfl rfl (IE aj) ?_
          refine Sd As ?_;refine au.nil (by decide +kernel) ?_;refine aa (S Mv (S BI (nil ?_)));refine cE b (fun ak b=>?_) (fun ak b=>?_)
          ·refine ah.exit ?_;exact j _ ai wA b
          refine sk v ?_;clear v ab;refine ah.cH (Sd Fv ?_);refine au.s0 (ck (TK rfl) rfl rfl (congrArg (fun x=>some (A.d x)) (af.di _))) rfl ?_;refine Sd Mv ?_;obtain⟨aQ,al,b⟩:=bO b;refine au.s0 (fI (f:=af.c) (TK rfl) rfl (TK rfl) rfl rfl rfl al) rfl ?_;refine Sd Ld (Sd Fv ?_);refine au.s0 (ck (TK rfl) rfl rfl (congrArg (fun x=>some (A.d x)) (af.di _))) rfl ?_
          refine Sd Mv ?_;obtain⟨aR,am,b⟩:=bO b;refine au.s0 (fI (f:=af.c) (TK rfl) rfl (TK rfl) rfl rfl rfl am) rfl ?_;refine Sd Ld ?_;obtain⟨ao,ap,b⟩:=bO b;refine cN rfl rfl (w ap) ?_;refine Sd As ?_;refine au.nil (by decide +kernel) ?_;refine aa (S Mv (S BI (nil ?_)));refine cE b (fun ar b=>?_) (fun ar b=>?_)
          ·refine ah.exit ?_;exact j _ ao wA b
          refine sk u ?_;clear u Z;refine region ?_;obtain⟨aw,ax,b⟩:=bO b;refine s0 (dc rfl rfl ax) rfl ?_;refine S Mv (nil ?_);exact W _ (m,aw) wA b (nS _)
         refine ah.exit ?_;exact U _ () wA b
      rintro _ b;try dsimp only at b
      unfold xx at b;refine region ?_;refine S Fv ?_;refine s0 (ck (TK rfl) rfl rfl (congrArg (fun x=>some (A.d x)) (af.di _))) rfl ?_;refine sLen (f:=af.c) (s:=g.av) (TK rfl) rfl rfl rfl rfl fun aS=>?_;refine S Fv ?_;refine s0 (ck (TK rfl) rfl rfl (congrArg (fun x=>some (A.d x)) (af.di _))) rfl ?_;refine sLen (f:=af.c) (s:=i.av) (TK rfl) rfl rfl rfl rfl fun aT=>?_
      obtain⟨az,aA,b⟩:=bO b;refine Sc rfl rfl (Ch aA) ?_;refine S As (nil ?_);exact G _ az wA b
     rintro aB b;try dsimp only at b
     unfold xw at b;refine region ?_;obtain⟨aC,aD,b⟩:=bO b;refine s0 (dc rfl rfl aD) rfl ?_;refine S Mv (nil ?_);exact C _ (k,aB,aC) wA b (nS _)
    refine ah.exit ?_;exact j _ B wA b
 rintro aV b;try dsimp only at b
 unfold oE at b;refine aa (S Mv (S As (nil ?_)));refine ah.ret ?_;repeat (first|refine bM ?_|refine bN ?_|refine Nt ?_)
 obtain rfl:=oJ b;refine bF.bK H rfl ⟨rfl,rfl⟩ ?_;exact(fun _ _ h=>h)
theorem IG:∀(n:Nat),(Ci (an:=an) n)
 | 0=>fun b=>by first|cases b|(rw [iq] at b; cases b)
 | n+1=>RC n (IG n)
def Cj (b:af) (f:af):Option Int:=iq F0 b f
theorem RD {b f:af}{r:Int}(g:Cj b f=some r) (H:ag) :AC Tryz.prog 84 [.agg (af.c b),.agg (af.c f)] H fun v h'=>v=.a (.d (.int .i64 r))/\h'=H:=(IG F0) g H 
def sM (f:af) (g:af):Option Bool:=(Cj f g).bind fun b=>some (decide (b=(0:Int)))
def Ck (b:af) (f:af):Option Bool:=sM b f
theorem RE (a0:af) (a1:af):Ck a0 a1=sM a0 a1:=rfl
theorem RF {f g:af}{r:Bool}(b:Ck f g=some r) (H:ag) :AC Tryz.prog 45 [.agg (af.c f),.agg (af.c g)] H fun v h'=>v=.a (.d (.bool r))/\h'=H:=by
 unfold Ck sM at b;refine AC.oW 9 [.tmp 4] Tryz.call45 Tryz.func45 ?_;refine aa (S BX (S BX (S As (nil ?_))));refine aa (S Ld (S Ld ?_));obtain⟨j,i,b⟩:=qT rfl b;refine Sc rfl rfl (RD i) ?_;refine S BI (S As (nil ?_));exact rt b
def xy (b:ax) (f:ax):Option Bool:=aQ (((b.ai==f.ai))) (sM b.cB f.cB) false fun g=>some (((b.ai==f.ai))&&g)
def qp (b:ax) (f:ax):Option Bool:=xy b f
theorem RG (a0:ax) (a1:ax):qp a0 a1=xy a0 a1:=rfl
theorem RH {f g:ax}{r:Bool}(b:qp f g=some r) (H:ag) :AC Tryz.prog 44 [.agg (ax.c f),.agg (ax.c g)] H fun v h'=>v=.a (.d (.bool r))/\h'=H:=by
 unfold qp xy at b;refine AC.oW 17 [.tmp 4] Tryz.call44 Tryz.func44 ?_;refine aa (S BX (S BX (S As (nil ?_))));refine aa (S Fv (S Ld (S Fv (S Ld (S BS (S Mv (G0 Fv ?_)))))));refine G1 11 rfl Ld ?_;refine G0 Fv ?_;refine G1 13 rfl Ld ?_;obtain⟨j,i,b⟩:=dB (RE _ _) b;refine fq 12 14 rfl rfl rfl rfl rfl rfl (fun hC=>RF (i hC)) ?_;refine S PA (S As (nil ?_));exact rt b
mutual
def nh:Nat->(Sl aj)->(Sl aj)->Option Bool
 | 0,_,_=>none
 | n+1,i,j=>(ur i j (fun b f=>(oF n) b f)).bind fun g=>some g
def oF:Nat->aj->aj->Option Bool
 | 0,_,_=>none
 | n+1,b,f=>aQ (!(((((!(b.bn==f.bn))||(!(b.bz==f.bz)))||(!(b.ai==f.ai)))||(!(b.bZ==f.bZ)))||(!decide (b.bW=f.bW)))) (sg b.aO f.aO) false fun i=>bif ((((((!(b.bn==f.bn))||(!(b.bz==f.bz)))||(!(b.ai==f.ai)))||(!(b.bZ==f.bZ)))||(!decide (b.bW=f.bW)))||(!i)) then(some false) else(((nh n) b.aK f.aK).bind fun g=>aQ (g) (uv b.aG f.aG qp) false fun j=>some (g&&j))
end
def xz (n:Nat):Prop:=∀{a0:(Sl aj)}{a1:(Sl aj)}{w0:Option Nat}{b:Option Nat}  {r:Bool},nh n a0 a1=some r->∀(H:ag),AC Tryz.prog 14 [.d (Sl.d 9 aj.c w0 a0),.d (Sl.d 9 aj.c b a1)] H fun v h'=>v=.a (.d (.bool r))/\h'=H
def xA (n:Nat):Prop:=∀{a0:aj}{a1:aj}   {r:Bool},oF n a0 a1=some r->∀(H:ag),AC Tryz.prog 41 [.agg (aj.c a0),.agg (aj.c a1)] H fun v h'=>v=.a (.d (.bool r))/\h'=H
theorem RI (n:Nat) (m:xz (an:=an) n) (f:xA (an:=an) n):xz (an:=an) (n+1):=by
 intro k l w0 o  r b H;rw [nh] at b;refine AC.oW 8 [.tmp 4] Tryz.call14 Tryz.func14 ?_;refine aa (S As (nil ?_));refine aa (S Mv (S Mv ?_));obtain⟨p,g,b⟩:=qT (o':=uq k l (fun i j=>(oF n) i j)) (by simp only [Ru]) b;refine s0 (fh rfl rfl (fun H=>Rr g H (fun _ _ _ hx=>f hx))) rfl ?_;refine S As (nil ?_);exact rt b
theorem RJ (n:Nat) (g:xz (an:=an) n) (s:xA (an:=an) n):xA (an:=an) (n+1):=by
 intro p q   r b H;rw [oF] at b;refine AC.oW 58 [.tmp 4] Tryz.call41 Tryz.func41 ?_;refine aa (S BX (S BX (S As (nil ?_))));refine ay fun i f=>?_;refine aa (S Fv (S Ld (S Fv (S Ld (S BS (S Mv (G0 Fv ?_)))))));refine G1 11 rfl Ld ?_;refine G0 Fv ?_;refine G1 13 rfl Ld ?_;refine G2 12 14 rfl rfl BS ?_;refine S PO (S Mv (G0 Fv ?_));refine G1 18 rfl Ld ?_;refine G0 Fv ?_;refine G1 20 rfl Ld ?_
 refine G2 19 21 rfl rfl BS ?_;refine S PO (S Mv (G0 Fv ?_));refine G1 25 rfl Ld ?_;refine G0 Fv ?_;refine G1 27 rfl Ld ?_;refine G2 26 28 rfl rfl BS ?_;refine S PO (S Mv (G0 Fv ?_));refine G1 32 rfl Ld ?_;refine G0 Fv ?_;refine G1 34 rfl Ld ?_;refine G2 33 35 rfl rfl BI ?_;refine S PO (S Mv (G0 Fv ?_));refine G1 39 rfl Ld ?_;refine G0 Fv ?_;refine G1 41 rfl Ld ?_;obtain⟨t,j,b⟩:=dB (Qv _ _) b
 refine fq 40 42 rfl rfl rfl rfl rfl rfl (fun hC=>HQ (j hC)) ?_;refine G1 43 rfl NB ?_;refine S PO (nil ?_);refine cE b (fun l b=>?_) (fun l b=>?_)
 ·refine aa (S As (nil ?_));exact rt b
 refine sk f ?_;clear f i;refine aa (S Fv ?_);refine s0 (ck (TK rfl) rfl rfl (congrArg (fun x=>some (A.d x)) (aj.gp _))) rfl ?_;refine S Fv ?_;refine s0 (ck (TK rfl) rfl rfl (congrArg (fun x=>some (A.d x)) (aj.gp _))) rfl ?_;obtain⟨u,m,b⟩:=qT rfl b;refine Sc rfl rfl (g m) ?_;refine S Mv (G0 Fv ?_);refine G1 52 rfl Ld ?_;refine G0 Fv ?_;refine G1 54 rfl Ld ?_
 obtain⟨v,o,b⟩:=dB (o':=uu p.aG q.aG qp) (by simp only [Rx]) b;refine gC rfl rfl (fun hC=>aI (k:=53) rfl (aI (k:=55) rfl (fh rfl rfl (fun H=>Rv (o hC) H (fun _ _ _ hx=>RH hx))))) rfl ?_;refine S PA (S As (nil ?_));exact rt b
theorem ux:∀(n:Nat),(xz (an:=an) n)/\(xA (an:=an) n)
 | 0=>⟨fun b=>by first|cases b|(rw [nh] at b; cases b),fun b=>by first|cases b|(rw [oF] at b; cases b)⟩
 | n+1=>⟨RI n (ux n).1 (ux n).2,RJ n (ux n).1 (ux n).2⟩
def Cl (a0:(Sl aj)) (a1:(Sl aj)):Option Bool:=nh F0 a0 a1
theorem II {b f:Sl aj}{w0 g:Option Nat}{r:Bool}(i:Cl b f=some r) (H:ag) :AC Tryz.prog 14 [.d (Sl.d 9 aj.c w0 b),.d (Sl.d 9 aj.c g f)] H fun v h'=>v=.a (.d (.bool r))/\h'=H:=(ux F0).1 i H 
def Cm (b:(Sl aj)) (f:(Sl aj)):Option Bool:=nh F0 b f
theorem RL (a0:(Sl aj)) (a1:(Sl aj)):Cl a0 a1=Cm a0 a1:=rfl
section
variable [gM an]
-- @uses supergraph/normal.Right
def sN (b:Sl aj):Option Int:=(gU F0 (1:Int) b.l).bind fun xs=>if xs.length<=4611686018427387904 then some ((xs.length:Nat):Int) else none
def xB (b:Sl aj):Option Int:=sN b
theorem RM (a0:Sl aj):sN a0=xB a0:=rfl
theorem RN {j:J}{w:World}{s:Sl aj}{v:Value}{xs:List Int}(hx:gU F0 (1:Int) s.l=some xs) (aG:xs.length<=4611686018427387904) (hr:dY j w gN) (hv:aA j w (Sl.d 9 aj.c none s) v) :
  Calls Tryz.prog 15 #[v] w fun e w'=>e=.returned (.int .i64 ((xs.length:Nat):Int))/\RowKit.Below w.heap.size w w':=by
 refine(callsIn_wide (n:=3)).1 (callsIn_of_wp_marks Tryz.func15 rfl trivial ?_ rfl);have Z:=vA (fn:=Tryz.f15) (n:=11) rfl (args:=[.d (Sl.d 9 aj.c none s)]) (dJ:=[v]) rfl hr (.cons hv .nil);refine ah.lE (an:=bf.on) Z fun K g=>?_;refine region ?_;refine S As ?_;refine nil ⟨rfl,g _ fun aH aI aK a1 aa ab=>?_⟩;clear g K;refine ah.lE (an:=bf.on) aa fun K g=>?_;refine region ?_
 refine Sl ?_;refine Sf ?_;refine nil ⟨rfl,g _ fun aL aM aN a2 ad ae=>?_⟩;clear g K;refine wpIn_seq ?_;refine ah.lE (an:=bf.on) ad fun K g=>?_;refine region ?_;refine S Mv ?_;refine s0 (fh rfl rfl (fun H=>H_ s 1 H)) rfl ?_;refine nil ⟨rfl,g _ fun I q af a3 G ai=>?_⟩;clear g K;have N:=(ab.trans ae).trans ai;have O:RowKit.Below w.heap.size w q:=N.below fun b=>vF
 refine wpIn_block ?_;obtain⟨p,cs,u,ak,Q,R,al,am⟩:=G.loc (t:=3) (i:=0) rfl rfl;have ao:cs=[.int .i64 0]:=by
  cases al with
  | cons h ht=>cases ht; cases h; rfl
 subst ao;have ap:w.heap.size<=p:=N.fresh (fun b=>vF) (.inl (List.mem_of_getElem? ak));have ar:p<q.heap.size:=fN R;have au:∃c1 c2,a3.eval (.tmp 5)=.func (.func 59) #[] #[c1,c2]/\aA I q (.view [Sl.d 9 aj.c none s]) c1/\aA I q (.view [.int .i64 1]) c2:=by
  have h1:aZ I q af (.a (.d (.func 59 [.view [Sl.d 9 aj.c none s],.view [.int .i64 1]]))) (a3.eval (.tmp 5)):=G.tmps 5;generalize a3.eval (.tmp 5)=x at h1;have M:aA I q (.func 59 [.view [Sl.d 9 aj.c none s],.view [.int .i64 1]]) x:=h1;cases M with
  | func _ _ gz hl hr =>
   match gz,hl with
   | [c1,c2],_=>exact⟨c1,c2,rfl,hr 0 (by simp) (by simp),hr 1 (by simp) (by simp)⟩
 obtain⟨c1,c2,av,aw,ax⟩:=au;have z:a3.tmps.size=11:=G.size;refine wpIn_rangeFunc_ownF rfl (Nat.le_add_left 1 2) av trivial (fun _ _=>Tryz.call59 _ _)
  (H9 (C:=[p]) G.hl.1.fresh hx aw ax (by simp; exact⟨ar,am⟩) 2) (fun h k=>h.trans k) (fun W l o o' _ h1 M _=>.put W l o o' h1 M) (RowKit.Below.refl _ _) (fun _=>rfl)
  (fun pre W=>(∃u,W.heap[p]?=some (.cells #[.int .i64 ((pre.length:Nat):Int)] u (0,0)))/\fT [p] q W) (fun _ _ _=>False)
  (fun pre A B row U X hr=>⟨U.1.imp fun u h=>(X.block p (fN h) (fun e=>by have:=(hr p e.symm).1; omega)).trans h,U.2.grown X fun r e=>(hr r e).1⟩)
  (fun _ _ _ _ _ h _ _=>h) ⟨⟨u,R⟩,.refl _ _⟩ (fun x=>{ tmps:=(a3.tmps.setIfInBounds 6 (.int .i64 x.1)).setIfInBounds 7 x.2,defers:=[] }) ?_ ?_ ?_ ?_
 ·intro l x W K g;refine wpIn_skip ?_;show K _ W
  simpa using g
 ·rintro l pre x W ⟨⟨u,E⟩,hu⟩ hlen;refine wpIn_block (wpIn_region_lit ?_);have t3:({ tmps:=(a3.tmps.setIfInBounds 6 (.int .i64 x.1)).setIfInBounds 7 x.2,defers:=[] }:Act).tmps[3]?=some (.pointer (some ⟨p,0,none⟩)):=by simp [Array.getElem?_setIfInBounds]; exact Q
  have F:∀f,(Fence.wide.inRound l).fn f:=fun _=>trivial;refine jI F rfl (by simp) (vJ (TK rfl) rfl rfl (fP t3) E (d:=.int .i64 ((pre.length:Nat):Int)) (fun Y=>⟨fun h=>(by cases h; rfl),fun h=>(by subst h; exact .int _ _)⟩)) ?_;refine jI F rfl (by simp) (vK (m:=((pre.length:Nat):Int)) (n:=1) (r:=.int .i64 (((pre.length+1:Nat)):Int)) (v:=.int .i64 (((pre.length+1:Nat)):Int)) (k:=.i64) (fP (by rw [ic _ (by simp [fR,z])]; rfl)) rfl (by simp only [nG,Option.some.injEq,D.int.injEq,true_and]; simp only [IntKind.wrap,IntKind.bits,IntKind.signed]; simp; omega) (fun Y h=>by cases h; rfl)) ?_
  obtain⟨W',ay,L⟩:=zy (P:=Tryz.prog) (t:=3) (a:=((({ tmps:=(a3.tmps.setIfInBounds 6 (.int .i64 x.1)).setIfInBounds 7 x.2,defers:=[] }:Act).put (some 8) (.int .i64 ((pre.length:Nat):Int))).put (some 9) (.int .i64 (((pre.length+1:Nat)):Int)))) (x:=.tmp 3) (y:=.tmp 9) (v:=.int .i64 (((pre.length+1:Nat)):Int)) (TK rfl) rfl (fP (by rw [ic _ (by simp [fR,z]),if_neg (by decide),ic _ (by simp [fR,z]),if_neg (by decide)]; exact t3)) (fP (by rw [ic _ (by simp [fR,z])]; rfl)) E (.int _ _)
  refine zx F rfl (by simp) ay ?_;refine wpListIn_nil ⟨L.zz E rfl,L.keep (by simp),⟨u, ?_⟩,hu.FX L (by simp)⟩;rw [L.here]; simp
 ·rintro D az W aO aB ⟨⟨u,E⟩,hu⟩ g;show Code.wpIn _ _ _ _ _ _ _;refine wpIn_seq (wpIn_region_lit ?_);have F:∀f,Fence.wide.fn f:=fun _=>trivial;have aC:a3.defers=[]:=G.defers;have aD:az.length=xs.length:=by rw [<- aB,List.length_map]
  rw [aD] at E;refine jI F rfl (by simp) (vJ (TK rfl) rfl rfl (fP Q) E (d:=.int .i64 ((xs.length:Nat):Int)) (fun Y=>⟨fun h=>(by cases h; rfl),fun h=>(by subst h; exact .int _ _)⟩)) ?_;refine jI F rfl (by simp) (run_assign (v:=.int .i64 ((xs.length:Nat):Int)) (fP (by rw [ic _ (by simp [z])]; rfl))) ?_;refine wpListIn_nil ?_;show Code.wpIn _ _ _ _ _ _ _;refine wpIn_ret ?_
  show LeavesInM _ _ _ _ _ _ _ _ _;rw [put_defers,put_defers];show LeavesInM _ _ _ _ _ _ ({ target:=.collected D,args:=#[] }::a3.defers) _ _;rw [aC];refine⟨by simp,.inl ⟨_,_,rfl,run_takeDeferred g, ?_⟩⟩;refine⟨_,results_tmp rfl _ _ _, ?_, ?_⟩
  ·have aE:((Act.put (Act.put { a3 with defers:={ target:=.collected D,args:=#[] }::a3.defers } (some 10) (.int .i64 ((xs.length:Nat):Int))) (some 2) (.int .i64 ((xs.length:Nat):Int))).tmps)[2]?=some (.int .i64 ((xs.length:Nat):Int)):=by rw [ic _ (by simp [fR,z])]; rfl
   have aF:=fP aE;exact congrArg Ending.returned aF
  have hB:=hu.below O (by simp; exact ap);refine hB.grown (grownBy_putObj' W D (.deferred none)) hB.size (fun k e=>by cases e; have:=O.size; omega)
 rintro D c pre W _ _ h _;exact h.elim
set_option maxRecDepth 100000 in
theorem IJ {f:Sl aj}{w0:Option Nat}{r:Int}(b:sN f=some r) (H:ag):AC Tryz.prog 15 [.d (Sl.d 9 aj.c w0 f)] H fun v h'=>v=.a (.d (.int .i64 r))/\h'=H:=by
 unfold sN at b;obtain⟨xs,hx,b⟩:=Option.bind_eq_some_iff.1 b
 split at b
 case isFalse=>cases b
 rename_i i
 obtain rfl:=oJ b;refine⟨fun _ _=>Tryz.call15 _ _,fun j w c hr g=>?_⟩;cases g with
 | cons p g =>
 cases g;have h1:aA j w (.slice 9 w0 f.nl (f.l.map aj.c)) _:=p;refine(RN hx i (vE hr.fresh).1 h1.FY).mono ?_;rintro e w' ⟨rfl,k⟩;have hl:HL j w [] [] H:=⟨hr,⟨.nil,by simp,by simp⟩⟩;obtain⟨m,o⟩:=hl.below (an:=an) k;exact⟨_,_,j,H,rfl,⟨rfl,rfl⟩,aA.int _ _,m.1,o⟩
end
def Cn  :Option Bool:=some true
def Co (f:(Sl ig)) :Nat->Nat->Option Bool
 | 0,_=>none
 | g+1,b=>bif (decide (((b:Nat):Int)<((f.l.length:Nat):Int))) then(none) else(Cn   )
def Cp (b:(Sl ig)) (f:(Sl ig)):Option Bool:=bif (!decide (((b.l.length:Nat):Int)=((f.l.length:Nat):Int))) then(none) else(Co b (b.l.length+1) 0)
theorem RO {g j:Sl ig}{w0 o:Option Nat}{r:Bool}(b:Cp g j=some r) (H:ag) :AC Tryz.prog 46 [.d (Sl.d 9 ig.c w0 g),.d (Sl.d 9 ig.c o j)] H fun v h'=>v=.a (.d (.bool r))/\h'=H:=by
 unfold Cp at b;refine AC.oW 69 [.tmp 4] Tryz.call46 Tryz.func46 ?_;refine aa (S As (nil ?_));refine ay fun p k=>?_;refine aa (S Mv ?_);refine sLen (f:=ig.c) (s:=g) (TK rfl) rfl rfl rfl rfl fun u=>?_;refine S Mv ?_;refine sLen (f:=ig.c) (s:=j) (TK rfl) rfl rfl rfl rfl fun w=>?_;refine S BI (nil ?_);refine cE b (fun q b=>?_) (fun q b=>?_)
 ·cases b
 refine sk k ?_;clear k p;refine aP kN (fun(z:Unit)=>[]) (fun z=>H) (fun z=>Cn =some r) ?_ ?_
 ·intro x t;refine aa (S As (nil ?_));refine block ?_;refine bD (TA 0 (TA 1 kN)) (fun(z:Nat×Nat)=>[(5,.a (.d (.int .i64 ((z.2:Nat):Int))))]) (fun z=>H) (fun z=>z.1) (fun z=>Co g z.1 z.2=some r) ((g.l.length+1),0) b wA ?_;rintro ⟨m,y⟩ b B C;try dsimp only at b
  cases m with
  | zero=>cases b
  | succ m =>
    rw [Co] at b;refine ay fun E F=>?_;refine aa (S Mv (S Mv ?_));refine sLen (f:=ig.c) (s:=g) (TK rfl) rfl rfl rfl rfl fun G=>?_;refine S BI (nil ?_);refine cE b (fun i b=>?_) (fun i b=>?_)
    ·try dsimp only at i
     have I:=oD i;cases b
    refine ah.exit ?_;exact t _ () wA b
 rintro _ b;try dsimp only at b
 unfold Cn at b;refine aa (S As (nil ?_));exact rt b
def Cq  :Option Bool:=some true
def Cr (f:(Sl ax)) :Nat->Nat->Option Bool
 | 0,_=>none
 | g+1,b=>bif (decide (((b:Nat):Int)<((f.l.length:Nat):Int))) then(none) else(Cq   )
def Cs (b:(Sl ax)) (f:(Sl ax)):Option Bool:=bif (!decide (((b.l.length:Nat):Int)=((f.l.length:Nat):Int))) then(none) else(Cr b (b.l.length+1) 0)
theorem RP {g j:Sl ax}{w0 o:Option Nat}{r:Bool}(b:Cs g j=some r) (H:ag) :AC Tryz.prog 85 [.d (Sl.d 6 ax.c w0 g),.d (Sl.d 6 ax.c o j)] H fun v h'=>v=.a (.d (.bool r))/\h'=H:=by
 unfold Cs at b;refine AC.oW 42 [.tmp 4] Tryz.call85 Tryz.func85 ?_;refine aa (S As (nil ?_));refine ay fun p k=>?_;refine aa (S Mv ?_);refine sLen (f:=ax.c) (s:=g) (TK rfl) rfl rfl rfl rfl fun u=>?_;refine S Mv ?_;refine sLen (f:=ax.c) (s:=j) (TK rfl) rfl rfl rfl rfl fun w=>?_;refine S BI (nil ?_);refine cE b (fun q b=>?_) (fun q b=>?_)
 ·cases b
 refine sk k ?_;clear k p;refine aP kN (fun(z:Unit)=>[]) (fun z=>H) (fun z=>Cq =some r) ?_ ?_
 ·intro x t;refine aa (S As (nil ?_));refine block ?_;refine bD (TA 0 (TA 1 kN)) (fun(z:Nat×Nat)=>[(5,.a (.d (.int .i64 ((z.2:Nat):Int))))]) (fun z=>H) (fun z=>z.1) (fun z=>Cr g z.1 z.2=some r) ((g.l.length+1),0) b wA ?_;rintro ⟨m,y⟩ b B C;try dsimp only at b
  cases m with
  | zero=>cases b
  | succ m =>
    rw [Cr] at b;refine ay fun E F=>?_;refine aa (S Mv (S Mv ?_));refine sLen (f:=ax.c) (s:=g) (TK rfl) rfl rfl rfl rfl fun G=>?_;refine S BI (nil ?_);refine cE b (fun i b=>?_) (fun i b=>?_)
    ·try dsimp only at i
     have I:=oD i;cases b
    refine ah.exit ?_;exact t _ () wA b
 rintro _ b;try dsimp only at b
 unfold Cq at b;refine aa (S As (nil ?_));exact rt b
def Ct  :Option Bool:=some true
def Cu (f:(Sl aN)) :Nat->Nat->Option Bool
 | 0,_=>none
 | g+1,b=>bif (decide (((b:Nat):Int)<((f.l.length:Nat):Int))) then(none) else(Ct   )
def Cv (b:(Sl aN)) (f:(Sl aN)):Option Bool:=bif (!decide (((b.l.length:Nat):Int)=((f.l.length:Nat):Int))) then(none) else(Cu b (b.l.length+1) 0)
theorem RQ {g j:Sl aN}{w0 o:Option Nat}{r:Bool}(b:Cv g j=some r) (H:ag) :AC Tryz.prog 86 [.d (Sl.d 2 aN.c w0 g),.d (Sl.d 2 aN.c o j)] H fun v h'=>v=.a (.d (.bool r))/\h'=H:=by
 unfold Cv at b;refine AC.oW 42 [.tmp 4] Tryz.call86 Tryz.func86 ?_;refine aa (S As (nil ?_));refine ay fun p k=>?_;refine aa (S Mv ?_);refine sLen (f:=aN.c) (s:=g) (TK rfl) rfl rfl rfl rfl fun u=>?_;refine S Mv ?_;refine sLen (f:=aN.c) (s:=j) (TK rfl) rfl rfl rfl rfl fun w=>?_;refine S BI (nil ?_);refine cE b (fun q b=>?_) (fun q b=>?_)
 ·cases b
 refine sk k ?_;clear k p;refine aP kN (fun(z:Unit)=>[]) (fun z=>H) (fun z=>Ct =some r) ?_ ?_
 ·intro x t;refine aa (S As (nil ?_));refine block ?_;refine bD (TA 0 (TA 1 kN)) (fun(z:Nat×Nat)=>[(5,.a (.d (.int .i64 ((z.2:Nat):Int))))]) (fun z=>H) (fun z=>z.1) (fun z=>Cu g z.1 z.2=some r) ((g.l.length+1),0) b wA ?_;rintro ⟨m,y⟩ b B C;try dsimp only at b
  cases m with
  | zero=>cases b
  | succ m =>
    rw [Cu] at b;refine ay fun E F=>?_;refine aa (S Mv (S Mv ?_));refine sLen (f:=aN.c) (s:=g) (TK rfl) rfl rfl rfl rfl fun G=>?_;refine S BI (nil ?_);refine cE b (fun i b=>?_) (fun i b=>?_)
    ·try dsimp only at i
     have I:=oD i;cases b
    refine ah.exit ?_;exact t _ () wA b
 rintro _ b;try dsimp only at b
 unfold Ct at b;refine aa (S As (nil ?_));exact rt b
end Go.Proofs
namespace Go.Proofs
open Go Go.Ab
open aS aq ah aU dV
variable {an:bf}
def Cw  :Option Bool:=some true
def xC (j:(Sl aY)) (o:(Sl aY)) (k:(Sl aY)->(Sl aY)->Option Bool):Nat->Nat->Option Bool
 | 0,_=>none
 | p+1,g=>bif (decide (((g:Nat):Int)<((j.l.length:Nat):Int))) then((j.l[g]?).bind fun b=>(o.l[g]?).bind fun f=>aQ (!((((!decide (b.ak=f.ak))||(!(b.gq==f.gq)))||(!(b.ai==f.ai)))||(!(b.bz==f.bz)))) (Cs b.aG f.aG) false fun i=>aQ (!(((((!decide (b.ak=f.ak))||(!(b.gq==f.gq)))||(!(b.ai==f.ai)))||(!(b.bz==f.bz)))||(!i))) (Cv b.ct f.ct) false fun m=>aQ (!((((((!decide (b.ak=f.ak))||(!(b.gq==f.gq)))||(!(b.ai==f.ai)))||(!(b.bz==f.bz)))||(!i))||(!m))) (k b.fL f.fL) false fun q=>bif (((((((!decide (b.ak=f.ak))||(!(b.gq==f.gq)))||(!(b.ai==f.ai)))||(!(b.bz==f.bz)))||(!i))||(!m))||(!q)) then(none) else((xC j o k p) (g+1))) else(Cw   )
def sO:Nat->(Sl aY)->(Sl aY)->Option Bool
 | 0,_,_=>none
 | n+1,b,f=>bif (!decide (((b.l.length:Nat):Int)=((f.l.length:Nat):Int))) then(none) else(xC b f (sO n) (b.l.length+1) 0)
def Cx (n:Nat):Prop:=∀{a0:(Sl aY)}{a1:(Sl aY)}{w0:Option Nat}{b:Option Nat}  {r:Bool},sO n a0 a1=some r->∀(H:ag),AC Tryz.prog 47 [.d (Sl.d 7 aY.c w0 a0),.d (Sl.d 7 aY.c b a1)] H fun v h'=>v=.a (.d (.bool r))/\h'=H
theorem RR (n:Nat) (u:Cx (an:=an) n):Cx (an:=an) (n+1):=by
 intro g t w0 M  r b H ;rw [sO] at b;refine AC.oW 77 [.tmp 4] Tryz.call47 Tryz.func47 ?_;refine aa (S As (nil ?_));refine ay fun v o=>?_;refine aa (S Mv ?_);refine sLen (f:=aY.c) (s:=g) (TK rfl) rfl rfl rfl rfl fun N=>?_;refine S Mv ?_;refine sLen (f:=aY.c) (s:=t) (TK rfl) rfl rfl rfl rfl fun O=>?_;refine S BI (nil ?_);refine cE b (fun w b=>?_) (fun w b=>?_)
 ·cases b
 refine sk o ?_;clear o v;refine aP kN (fun(z:Unit)=>[]) (fun z=>H) (fun z=>Cw =some r) ?_ ?_
 ·intro P y;refine aa (S As (nil ?_));refine block ?_;refine bD (TA 0 (TA 1 kN)) (fun(z:Nat×Nat)=>[(5,.a (.d (.int .i64 ((z.2:Nat):Int))))]) (fun z=>H) (fun z=>z.1) (fun z=>xC g t (sO n) z.1 z.2=some r) ((g.l.length+1),0) b wA ?_;rintro ⟨i,j⟩ b Q B;try dsimp only at b
  cases i with
  | zero=>cases b
  | succ i =>
    rw [xC] at b;refine ay fun C p=>?_;refine aa (S Mv (S Mv ?_));refine sLen (f:=aY.c) (s:=g) (TK rfl) rfl rfl rfl rfl fun R=>?_;refine S BI (nil ?_);refine cE b (fun m b=>?_) (fun m b=>?_)
    ·try dsimp only at m
     have U:=oD m;refine sk p ?_;clear p C;refine ay fun E q=>?_;refine block ?_;refine ah.cH (Sd Mv (Sd Mv ?_));obtain⟨W,F,b⟩:=bO b;refine Sd (ix aY.c j F) (Sd Ld (Sd Mv (Sd Mv ?_)));obtain⟨X,G,b⟩:=bO b;refine Sd (ix aY.c j G) (Sd Ld ?_);refine au.sB (TK rfl) rfl rfl ?_ (by repeat (first|exact bT.nil|apply bT.cons));refine au.sB (TK rfl) rfl rfl ?_ (by repeat (first|exact bT.nil|apply bT.cons))
     refine au.dU (eA (TK rfl) rfl rfl rfl rfl rfl) ?_;refine au.dU (eA (TK rfl) rfl rfl rfl rfl rfl) ?_;refine au.nil (by decide +kernel) ?_;refine bH 7 _ rfl (KA 0 (KA 1 (KA 5 (KA 6 aU.nil)))) ?_;refine bH 6 _ rfl (KA 0 (KA 1 (KA 5 (KA 7 aU.nil)))) ?_;refine aa (S Fv (S Ld (S Fv (S Ld (S BI (S Mv (G0 Fv ?_)))))));refine G1 33 rfl Ld ?_;refine G0 Fv ?_;refine G1 35 rfl Ld ?_
     refine G2 34 36 rfl rfl BS ?_;refine S PO (S Mv (G0 Fv ?_));refine G1 40 rfl Ld ?_;refine G0 Fv ?_;refine G1 42 rfl Ld ?_;refine G2 41 43 rfl rfl BS ?_;refine S PO (S Mv (G0 Fv ?_));refine G1 47 rfl Ld ?_;refine G0 Fv ?_;refine G1 49 rfl Ld ?_;refine G2 48 50 rfl rfl BS ?_;refine S PO (S Mv (G0 Fv ?_));refine G1 54 rfl Ld ?_;refine G0 Fv ?_;refine G1 56 rfl Ld ?_;obtain⟨Y,I,b⟩:=gO b;refine fq 55 57 rfl rfl rfl rfl rfl rfl (fun hC=>RP (I hC)) ?_
     refine G1 58 rfl NB ?_;refine S PO (S Mv (G0 Fv ?_));refine G1 62 rfl Ld ?_;refine G0 Fv ?_;refine G1 64 rfl Ld ?_;obtain⟨Z,J,b⟩:=gO b;refine fq 63 65 rfl rfl rfl rfl rfl rfl (fun hC=>RQ (J hC)) ?_;refine G1 66 rfl NB ?_;refine S PO (S Mv (G0 Fv ?_));refine gC rfl rfl (fun hC=>aI (k:=70) rfl (ck (TK rfl) rfl rfl (congrArg (fun x=>some (A.d x)) (aY.vR _)))) rfl ?_
     refine G0 Fv ?_;refine gC rfl rfl (fun hC=>aI (k:=72) rfl (ck (TK rfl) rfl rfl (congrArg (fun x=>some (A.d x)) (aY.vR _)))) rfl ?_;obtain⟨ab,K,b⟩:=gO b;refine fq 71 73 rfl rfl rfl rfl rfl rfl (fun hC=>u (K hC)) ?_;refine G1 74 rfl NB ?_;refine S PO (nil ?_);refine cE b (fun L b=>?_) (fun L b=>?_)
     ·cases b
     refine sk q ?_;clear q E;refine region ?_;refine S Mv ?_;refine SI ?_;refine S As (nil ?_);exact B _ (i,(j+1)) wA b (nS _)
    refine ah.exit ?_;exact y _ () wA b
 rintro _ b;try dsimp only at b
 unfold Cw at b;refine aa (S As (nil ?_));exact rt b
theorem IK:∀(n:Nat),(Cx (an:=an) n)
 | 0=>fun b=>by first|cases b|(rw [sO] at b; cases b)
 | n+1=>RR n (IK n)
def IL (b:(Sl aY)) (f:(Sl aY)):Option Bool:=sO F0 b f
theorem RS {b f:Sl aY}{w0 g:Option Nat}{r:Bool}(i:IL b f=some r) (H:ag) :AC Tryz.prog 47 [.d (Sl.d 7 aY.c w0 b),.d (Sl.d 7 aY.c g f)] H fun v h'=>v=.a (.d (.bool r))/\h'=H:=(IK F0) i H 
def Cy  :Option Bool:=some true
def Cz (f:dK) :Nat->Nat->Option Bool
 | 0,_=>none
 | g+1,b=>bif (decide (((b:Nat):Int)<((f.mA.l.length:Nat):Int))) then(none) else(Cy   )
def CA (b:dK)  :Option Bool:=Cz b (b.mA.l.length+1) 0
def xD (i:dK) (k:dK) :Nat->Nat->Option Bool
 | 0,_=>none
 | m+1,g=>bif (decide (((g:Nat):Int)<((i.iO.l.length:Nat):Int))) then((i.iO.l[g]?).bind fun b=>(k.iO.l[g]?).bind fun f=>aQ (!((!decide (b.ak=f.ak))||(!(b.ai==f.ai)))) (Cp b.zH f.zH) false fun j=>aQ (!(((!decide (b.ak=f.ak))||(!(b.ai==f.ai)))||(!j))) (IL b.fL f.fL) false fun o=>bif ((((!decide (b.ak=f.ak))||(!(b.ai==f.ai)))||(!j))||(!o)) then(none) else((xD i k m) (g+1))) else(CA i  )
def CB (b:dK) (f:dK):Option Bool:=bif ((!decide (((b.iO.l.length:Nat):Int)=((f.iO.l.length:Nat):Int)))||(!decide (((b.mA.l.length:Nat):Int)=((f.mA.l.length:Nat):Int)))) then(none) else(xD b f (b.iO.l.length+1) 0)
theorem RT {g i:dK}{r:Bool}(b:CB g i=some r) (H:ag) :AC Tryz.prog 17 [.agg (dK.c g),.agg (dK.c i)] H fun v h'=>v=.a (.d (.bool r))/\h'=H:=by
 unfold CB at b;refine AC.oW 109 [.tmp 4] Tryz.call17 Tryz.func17 ?_;refine aa (S BX (S BX (S As (nil ?_))));refine ay fun x q=>?_;refine aa (S Fv (S Ld ?_));refine sLen (f:=fV.c) (s:=g.iO) (TK rfl) rfl rfl rfl rfl fun N=>?_;refine S Fv (S Ld ?_);refine sLen (f:=fV.c) (s:=i.iO) (TK rfl) rfl rfl rfl rfl fun O=>?_;refine S BI (S Mv (G0 Fv ?_));refine G1 19 rfl Ld ?_;refine gC rfl rfl (fun hC=>aI (k:=20) rfl (dx (f:=Z7.c) (s:=g.mA) (TK rfl) rfl rfl rfl)) rfl ?_
 refine G0 Fv ?_;refine G1 22 rfl Ld ?_;refine gC rfl rfl (fun hC=>aI (k:=23) rfl (dx (f:=Z7.c) (s:=i.mA) (TK rfl) rfl rfl rfl)) rfl ?_;refine G2 21 24 rfl rfl BI ?_;refine S PO (nil ?_);refine cE b (fun y b=>?_) (fun y b=>?_)
 ·cases b
 refine sk q ?_;clear q x;refine aP (TA 2 (TA 3 kN)) (fun(z:Unit)=>[]) (fun z=>H) (fun z=>CA g =some r) ?_ ?_
 ·intro P B;refine aa (S As (nil ?_));refine block ?_;refine bD (TA 2 (TA 3 kN)) (fun(z:Nat×Nat)=>[(5,.a (.d (.int .i64 ((z.2:Nat):Int))))]) (fun z=>H) (fun z=>z.1) (fun z=>xD g i z.1 z.2=some r) ((g.iO.l.length+1),0) b wA ?_;rintro ⟨j,m⟩ b Q C;try dsimp only at b
  cases j with
  | zero=>cases b
  | succ j =>
    rw [xD] at b;refine ay fun E t=>?_;refine aa (S Mv (S Fv (S Ld ?_)));refine sLen (f:=fV.c) (s:=g.iO) (TK rfl) rfl rfl rfl rfl fun R=>?_;refine S BI (nil ?_);refine cE b (fun o b=>?_) (fun o b=>?_)
    ·try dsimp only at o
     have U:=oD o;refine sk t ?_;clear t E;refine ay fun F u=>?_;refine block ?_;refine ah.cH (Sd Fv (Sd Ld (Sd Mv ?_)));obtain⟨W,G,b⟩:=bO b;refine Sd (ix fV.c m G) (Sd Ld (Sd Fv (Sd Ld (Sd Mv ?_))));obtain⟨X,I,b⟩:=bO b;refine Sd (ix fV.c m I) (Sd Ld ?_);refine au.sB (TK rfl) rfl rfl ?_ (by repeat (first|exact bT.nil|apply bT.cons))
     refine au.sB (TK rfl) rfl rfl ?_ (by repeat (first|exact bT.nil|apply bT.cons));refine au.dU (eA (TK rfl) rfl rfl rfl rfl rfl) ?_;refine au.dU (eA (TK rfl) rfl rfl rfl rfl rfl) ?_;refine au.nil (by decide +kernel) ?_;refine bH 7 _ rfl (KA 2 (KA 3 (KA 5 (KA 6 aU.nil)))) ?_;refine bH 6 _ rfl (KA 2 (KA 3 (KA 5 (KA 7 aU.nil)))) ?_;refine aa (S Fv (S Ld (S Fv (S Ld (S BI (S Mv (G0 Fv ?_)))))))
     refine G1 50 rfl Ld ?_;refine G0 Fv ?_;refine G1 52 rfl Ld ?_;refine G2 51 53 rfl rfl BS ?_;refine S PO (S Mv (G0 Fv ?_));refine G1 57 rfl Ld ?_;refine G0 Fv ?_;refine G1 59 rfl Ld ?_;obtain⟨Y,J,b⟩:=gO b;refine fq 58 60 rfl rfl rfl rfl rfl rfl (fun hC=>RO (J hC)) ?_;refine G1 61 rfl NB ?_;refine S PO (S Mv (G0 Fv ?_));refine G1 65 rfl Ld ?_;refine G0 Fv ?_;refine G1 67 rfl Ld ?_
     obtain⟨Z,K,b⟩:=gO b;refine fq 66 68 rfl rfl rfl rfl rfl rfl (fun hC=>RS (K hC)) ?_;refine G1 69 rfl NB ?_;refine S PO (nil ?_);refine cE b (fun L b=>?_) (fun L b=>?_)
     ·cases b
     refine sk u ?_;clear u F;refine region ?_;refine S Mv ?_;refine SI ?_;refine S As (nil ?_);exact C _ (j,(m+1)) wA b (nS _)
    refine ah.exit ?_;exact B _ () wA b
 rintro _ b;try dsimp only at b
 unfold CA at b;refine aP kN (fun(z:Unit)=>[]) (fun z=>H) (fun z=>Cy =some r) ?_ ?_
 ·intro ab M;refine aa (S As (nil ?_));refine block ?_;refine bD (TA 2 (TA 3 kN)) (fun(z:Nat×Nat)=>[(8,.a (.d (.int .i64 ((z.2:Nat):Int))))]) (fun z=>H) (fun z=>z.1) (fun z=>Cz g z.1 z.2=some r) ((g.mA.l.length+1),0) b wA ?_;rintro ⟨w,ad⟩ b ae af;try dsimp only at b
  cases w with
  | zero=>cases b
  | succ w =>
    rw [Cz] at b;refine ay fun ai aj=>?_;refine aa (S Mv (S Fv (S Ld ?_)));refine sLen (f:=Z7.c) (s:=g.mA) (TK rfl) rfl rfl rfl rfl fun ak=>?_;refine S BI (nil ?_);refine cE b (fun p b=>?_) (fun p b=>?_)
    ·try dsimp only at p
     have al:=oD p;cases b
    refine ah.exit ?_;exact M _ () wA b
 rintro _ b;try dsimp only at b
 unfold Cy at b;refine aa (S As (nil ?_));exact rt b
def xE (b:(Sl Bs)):Option (Sl Bs):=bif b.nl then(some (Sl.nil:Sl Bs)) else((bp 16 (⟨false,[]⟩:Sl Bs) b).bind fun f=>some f)
def CC (b:(Sl Bs)):Option (Sl Bs):=xE b
theorem RU (a0:(Sl Bs)):CC a0=xE a0:=rfl
theorem RV {i:Sl Bs}{w0:Option Nat}{r:Sl Bs}(b:CC i=some r) (H:ag) :AC Tryz.prog 190 [.d (Sl.d 1 aM w0 i)] H fun v h'=>v=.a (.d (Sl.d 1 aM none r))/\h'=H:=by
 unfold CC xE at b;refine AC.oW 8 [.tmp 2] Tryz.call190 Tryz.func190 ?_;refine aa ?_;refine s0 (fJ (k':=1) rfl) rfl ?_;refine nil ?_;refine ay fun j g=>?_;refine aa (S Mv ?_);refine s0 (Fk (TK rfl) rfl rfl) rfl ?_;refine nil ?_;refine cE b (fun k b=>?_) (fun k b=>?_)
 ·refine aa ?_;refine s0 (fJ (k':=1) rfl) rfl ?_;refine nil ?_;exact rt b
 refine sk g ?_;clear g j;refine aa ?_;refine s0 (pG (TK rfl) rfl (TK rfl) rfl rfl rfl rfl rfl rfl) rfl ?_;refine S Mv ?_;obtain⟨m,l,b⟩:=qT rfl b;refine s0 (tI (f:=aM) (TK rfl) rfl (TK rfl) (TK rfl) ⟨_,rfl⟩ rfl rfl (by decide) rfl rfl rfl (by intro q h; cases h<;>decide) rfl rfl l) rfl ?_;refine S As (nil ?_);exact rt b
def sP (f:af->Option af):List af->(Sl af)->Option ((Sl af))
 | [],b=>some b
 | g::i,b=>on (g) fun j=>(f j).bind fun k=>(bp 80 b (⟨false,[k]⟩:Sl af)).bind fun l=>sP f (i) l
mutual
def oG:Nat->af->Option af
 | 0,_=>none
 | n+1,b=>((xF n) b.av).bind fun f=>(xE b.aF).bind fun g=>some (af.mk b.ak b.bl b.aV f.nl f.l g)
def xF:Nat->(Sl af)->Option (Sl af)
 | 0,_=>none
 | n+1,g=>Option.bind (sP (oG n) g.l (Sl.nil:Sl af)) fun b=>on (b) fun f=>some f
end
def xG (n:Nat):Prop:=∀{a0:af}   {r:af},oG n a0=some r->∀(H:ag),AC Tryz.prog 141 [.agg (af.c a0)] H fun v h'=>v=.a (.agg (af.c r))/\h'=H
def xH (n:Nat):Prop:=∀{a0:(Sl af)}{w0:Option Nat}  {r:(Sl af)},xF n a0=some r->∀(H:ag),AC Tryz.prog 189 [.d (Sl.d 5 af.c w0 a0)] H fun v h'=>v=.a (.d (Sl.d 5 af.c none r))/\h'=H
theorem RW (n:Nat) (p:xG (an:=an) n) (i:xH (an:=an) n):xG (an:=an) (n+1):=by
 intro b   r f H;rw [oG] at f;refine AC.oW 12 [.cell 2 58] Tryz.call141 Tryz.func141 ?_;refine aa ?_;refine sL (yW rfl (by repeat (first|exact bT.nil|apply bT.cons))) rfl ?_;refine Sl ?_;refine nil ?_;refine aa (S FL ?_);refine aS.dX 0 (af.cu b) rfl (fun j w cs hh hx=>by rw [<- af.gm]; exact hx) ?_;refine S LL ?_;obtain⟨g,k,f⟩:=qT rfl f;refine Sc rfl rfl (i k) ?_
 refine S FL ?_;refine Sf ?_;refine aS.dX 0 (af.c (af.mk b.ak b.bl b.aV g.nl g.l b.aF)) rfl (fun j w cs hh hx=>by rw [af.gm]; exact hx) ?_;refine nil ?_;refine aa (S FL (S LL ?_));obtain⟨m,o,f⟩:=qT (RU _) f;refine Sc rfl rfl (RV o) ?_;refine S FL ?_;refine aS.dX 0 (af.cu (af.mk b.ak b.bl b.aV g.nl g.l b.aF)) rfl (fun j w cs hh hx=>by rw [<- af.gm]; exact hx) ?_
 refine Sf ?_;refine aS.dX 0 (af.c (af.mk b.ak b.bl b.aV g.nl g.l m)) rfl (fun j w cs hh hx=>by rw [af.gm]; exact hx) ?_;refine nil ?_;refine aa (S LL ?_);refine Sf ?_;refine nil ?_;exact rt f
theorem RX (n:Nat) (w:xG (an:=an) n) (K:xH (an:=an) n):xH (an:=an) (n+1):=by
 intro j w0  r b H;rw [xF] at b;refine AC.oW 19 [.tmp 2] Tryz.call189 Tryz.func189 ?_;refine ah.tok 5 fun g k=>?_;refine aa ?_;refine s0 (fJ (k':=5) rfl) rfl ?_;refine nil ?_;refine aa (S As (nil ?_));refine ah.fH 3 5 g rfl aJ ?_;refine aP kN (fun(z:(Sl af))=>[(3,.a (.d (Sl.d 5 af.c (some g) z)))]) (fun z=>(H.set g (some (.tok 5 z.l.length)))) (fun z=>(some z)=some r) ?_ ?_
 ·intro L x;refine aa (S Mv ?_);refine sLen (f:=af.c) (s:=j) (TK rfl) rfl rfl rfl rfl fun M=>?_;refine S Mv (nil ?_);refine block ?_;obtain⟨m,y,b⟩:=cG b;refine bD (TA 6 (TA 7 kN)) (fun(z:(Sl af)×Nat)=>[(3,.a (.d (Sl.d 5 af.c (some g) z.1))),(8,.a (.d (.int .i64 ((z.2:Nat):Int))))]) (fun z=>(H.set g (some (.tok 5 z.1.l.length)))) (fun z=>j.l.length-z.2) (fun z=>Option.bind (sP (oG n) (j.l.drop z.2) z.1) m=some r) ((Sl.nil:Sl af),0) b wA ?_
  rintro ⟨o,p⟩ b N B;try dsimp only at b
  refine aa (S BI (nil ?_));refine ay fun C q=>?_;refine ah.cL (fun l=>Option.bind (sP (oG n) l o) m=some r) b rfl (fun O t i b=>?_) (fun i b=>?_)
  ·rw [sP] at b;try dsimp only at i
   have P:=oD i;refine sk q ?_;clear q C;refine ay fun E u=>?_;refine block ?_;refine aa ?_;obtain⟨Q,F,b⟩:=vO t b;refine S (ix af.c p F) (S Ld ?_);refine Sl ?_;refine Sf ?_;refine nil ?_;refine bH 5 _ rfl (KA 3 (KA 6 (KA 7 (KA 8 aU.nil)))) ?_;refine region ?_;refine S Mv (S Ld ?_);obtain⟨R,G,b⟩:=qO rfl b;refine Sc rfl rfl (w G) ?_
   refine S BV ?_;obtain⟨v,I,b⟩:=qO rfl b;refine SH (am af.c (TK rfl) rfl (TK rfl) (TK rfl) I) ?_;refine hq (H.set g (some (.tok 5 v.l.length))) ?_;refine S As (nil ?_);refine u _ ?_;clear u E;refine region ?_;refine SI ?_;refine S Mv (nil ?_);exact B _ (v,(p+1)) wA b (dl t)
  rw [sP] at b;have b:=ku y b;refine ah.exit ?_;obtain⟨U,J,b⟩:=cC b;have b:=ku J b;exact x _ o wA b
 rintro W b;try dsimp only at b
 refine aa (S Mv (S As (nil ?_)));refine ah.f_ 2 rfl ?_;refine ah.ret ?_;repeat (first|refine bM ?_|refine bN ?_)
 obtain rfl:=oJ b;refine bF.bK H rfl ⟨rfl,rfl⟩ ?_
 first|exact ag.bX k|(simp only [ag.set_set]; exact ag.bX k)
theorem uy:∀(n:Nat),(xG (an:=an) n)/\(xH (an:=an) n)
 | 0=>⟨fun b=>by first|cases b|(rw [oG] at b; cases b),fun b=>by first|cases b|(rw [xF] at b; cases b)⟩
 | n+1=>⟨RW n (uy n).1 (uy n).2,RX n (uy n).1 (uy n).2⟩
def IM (a0:af):Option af:=oG F0 a0
theorem RY {b r:af}(f:IM b=some r) (H:ag) :AC Tryz.prog 141 [.agg (af.c b)] H fun v h'=>v=.a (.agg (af.c r))/\h'=H:=(uy F0).1 f H 
def IN (b:af):Option af:=oG F0 b
theorem RZ (a0:af):IM a0=IN a0:=rfl
def CD  (b:(Sl aY)):Option (Sl aY):=some b
def xI (g:(Sl aj)) (k:Bs) (i:aj->Option aY):Nat->(Sl aY)->Nat->Option (Sl aY)
 | 0,_,_=>none
 | m+1,j,b=>bif (decide (((b:Nat):Int)<((g.l.length:Nat):Int))) then((g.l[b]?).bind fun f=>bif (((f.bz==k))&&((f.bZ==([]:Bs)))) then((i f).bind fun o=>(bp 128 j (⟨false,[o]⟩:Sl aY)).bind fun p=>(xI g k i m) p (b+1)) else(none)) else(CD   j)
def CE  (b:aY):Option aY:=some b
def CF (f:aj)  (b:aY):Option aY:=bif (!decide (f.bW=(-1:Int))) then(none) else(CE   b)
def CG (b:aj) :Nat->Nat->aY->Option aY
 | 0,_,_=>none
 | i+1,f,g=>bif (decide (((f:Nat):Int)<((b.aG.l.length:Nat):Int))) then(none) else(CF b  g)
def CH (b:aj)  (f:aY):Option aY:=CG b (b.aG.l.length+1) 0 f
mutual
def uz:Nat->(Sl aj)->Bs->Option (Sl aY)
 | 0,_,_=>none
 | n+1,b,f=>xI b f (uA n) (b.l.length+1) (Sl.nil:Sl aY) 0
def uA:Nat->aj->Option aY
 | 0,_=>none
 | n+1,b=>((uz n) b.aK b.aO.ai).bind fun f=>bif (!(b.bn==b.ai)) then(none) else(CH b  (aY.mk (1:Int) ([]:Bs) b.ai ([]:Bs) (Sl.nil:Sl ax) (Sl.nil:Sl aN) f.nl f.l))
end
def xJ (n:Nat):Prop:=∀{a0:(Sl aj)}{a1:Bs}{w0:Option Nat}  {r:(Sl aY)},uz n a0 a1=some r->∀(H:ag),AC Tryz.prog 48 [.d (Sl.d 9 aj.c w0 a0),.d (.str a1)] H fun v h'=>v=.a (.d (Sl.d 7 aY.c none r))/\h'=H
def xK (n:Nat):Prop:=∀{a0:aj}   {r:aY},uA n a0=some r->∀(H:ag),AC Tryz.prog 87 [.agg (aj.c a0)] H fun v h'=>v=.a (.agg (aY.c r))/\h'=H
theorem R1 (n:Nat) (G:xJ (an:=an) n) (t:xK (an:=an) n):xJ (an:=an) (n+1):=by
 intro k F w0  r b H ;rw [uz] at b;refine AC.oW 88 [.tmp 4] Tryz.call48 Tryz.func48 ?_;refine ah.tok 7 fun g m=>?_;refine aa ?_;refine s0 (fJ (k':=7) rfl) rfl ?_;refine nil ?_;refine aa (S As (nil ?_));refine ah.fH 5 7 g rfl aJ ?_;refine aP kN (fun(z:(Sl aY))=>[(5,.a (.d (Sl.d 7 aY.c (some g) z)))]) (fun z=>(H.set g (some (.tok 7 z.l.length)))) (fun z=>CD z=some r) ?_ ?_
 ·intro I u;refine aa (S As (nil ?_));refine block ?_;refine bD (TA 0 (TA 1 kN)) (fun(z:Nat×(Sl aY)×Nat)=>[(5,.a (.d (Sl.d 7 aY.c (some g) z.2.1))),(6,.a (.d (.int .i64 ((z.2.2:Nat):Int))))]) (fun z=>(H.set g (some (.tok 7 z.2.1.l.length)))) (fun z=>z.1) (fun z=>xI k F (uA n) z.1 z.2.1 z.2.2=some r) ((k.l.length+1),(Sl.nil:Sl aY),0) b wA ?_;rintro ⟨i,v,o⟩ b J w
  try dsimp only at b
  cases i with
  | zero=>cases b
  | succ i =>
    rw [xI] at b;refine ay fun x p=>?_;refine aa (S Mv (S Mv ?_));refine sLen (f:=aj.c) (s:=k) (TK rfl) rfl rfl rfl rfl fun K=>?_;refine S BI (nil ?_);refine cE b (fun j b=>?_) (fun j b=>?_)
    ·try dsimp only at j
     have L:=oD j;refine sk p ?_;clear p x;refine block ?_;refine aa (S Mv (S Mv ?_));obtain⟨M,y,b⟩:=bO b;refine S (ix aj.c o y) (S Ld ?_);refine Sl ?_;refine Sf ?_;refine nil ?_;refine bH 7 _ rfl (KA 0 (KA 1 (KA 5 (KA 6 aU.nil)))) ?_;refine ay fun N O=>?_;refine aa (S Fv (S Ld (S Mv (S BS (S Mv (G0 Fv ?_))))));refine G1 22 rfl Ld ?_;refine G1 23 rfl BS ?_
     refine S PA (nil ?_);refine cE b (fun B b=>?_) (fun B b=>?_)
     ·refine aa (S Mv (S Ld ?_));obtain⟨P,C,b⟩:=bO b;refine Sc rfl rfl (t C) ?_;refine S BV ?_;obtain⟨q,E,b⟩:=bO b;refine SH (am aY.c (TK rfl) rfl (TK rfl) (TK rfl) E) ?_;refine hq (H.set g (some (.tok 7 q.l.length))) ?_;refine S As (nil ?_);refine aa (S Mv ?_);refine SI ?_;refine S As (nil ?_);refine ah.exit ?_;exact w _ (i,q,(o+1)) wA b (nS _)
     cases b
    refine ah.exit ?_;exact u _ v wA b
 rintro Q b;try dsimp only at b
 unfold CD at b;refine aa (S Mv (S As (nil ?_)));refine ah.f_ 4 rfl ?_;refine ah.ret ?_;repeat (first|refine bM ?_|refine bN ?_)
 obtain rfl:=oJ b;refine bF.bK H rfl ⟨rfl,rfl⟩ ?_
 first|exact ag.bX m|(simp only [ag.set_set]; exact ag.bX m)
theorem R2 (n:Nat) (u:xJ (an:=an) n) (M:xK (an:=an) n):xK (an:=an) (n+1):=by
 intro i   r b H ;rw [uA] at b;refine AC.oW 56 [.cell 2 99] Tryz.call87 Tryz.func87 ?_;refine aa (S BX ?_);refine Sl ?_;refine nil ?_;refine ah.cH (Sd Fv (Sd Ld (Sd Fv ?_)));refine au.s0 (ck (TK rfl) rfl rfl (congrArg (fun x=>some (A.d x)) (aj.gp _))) rfl ?_;refine Sd Fv (Sd Fv (Sd Ld ?_));obtain⟨k,v,b⟩:=bO b;refine cN rfl rfl (u v) ?_;refine Sd BU ?_;refine au.sB (TK rfl) rfl rfl ?_ (by repeat (first|exact bT.nil|apply bT.cons))
 refine au.dU (eA (TK rfl) rfl rfl rfl rfl rfl) ?_;refine au.nil (by decide +kernel) ?_;refine ah.dX 1 (aY.c (aY.mk (1:Int) ([]:Bs) i.ai ([]:Bs) (Sl.nil:Sl ax) (Sl.nil:Sl aN) k.nl k.l)) rfl (fun j w cs hh hx=>by rw [aY.gm]; exact hx) ?_;refine ah.tok 6 fun g o=>?_;refine ah.dX 1 (aY.cu (aY.mk (1:Int) ([]:Bs) i.ai ([]:Bs) (Sl.nil:Sl ax) (Sl.nil:Sl aN) k.nl k.l)) rfl (fun j w cs hh hx=>by rw [<- aY.gm]; exact hx) ?_
 refine ah.dX 1 _ rfl (fun j w cs hh hx=>tok_cell 4 6 6 hh (t:=g) aJ hx rfl) ?_;refine fO (TA 1 (TA 2 (TA 3 kN))) (fun(z:aY)=>[]) (fun z=>[aY.c aY.zero,((bE .i64) z.ak++aM z.gq++aM z.ai++aM z.bz++[Sl.d 6 ax.c (some g) z.aG]++(fun s=>[Sl.d 2 aN.c none s]) z.ct++(fun s=>[Sl.d 7 aY.c none s]) z.fL)]) (fun z=>(H.set g (some (.tok 6 z.aG.l.length)))) (fun z=>CH i z=some r) ?_ ?_
 ·intro N y;refine aa (S Fv (S Ld (S Fv (S Ld (S BS (nil ?_))))));refine cE b (fun B b=>?_) (fun B b=>?_)
  ·cases b
  refine ah.skip ?_;exact y _ (aY.mk (1:Int) ([]:Bs) i.ai ([]:Bs) (Sl.nil:Sl ax) (Sl.nil:Sl aN) k.nl k.l) wA b
 rintro C b;try dsimp only at b
 unfold CH at b;refine fO (TA 1 (TA 2 (TA 3 kN))) (fun(z:aY)=>[]) (fun z=>[aY.c aY.zero,((bE .i64) z.ak++aM z.gq++aM z.ai++aM z.bz++[Sl.d 6 ax.c (some g) z.aG]++(fun s=>[Sl.d 2 aN.c none s]) z.ct++(fun s=>[Sl.d 7 aY.c none s]) z.fL)]) (fun z=>(H.set g (some (.tok 6 z.aG.l.length)))) (fun z=>CF i z=some r) ?_ ?_
 ·intro O E;refine aa (S Fv (S Ld ?_));refine sLen (f:=ax.c) (s:=i.aG) (TK rfl) rfl rfl rfl rfl fun P=>?_;refine S Mv (nil ?_);refine block ?_;refine jf (TA 1 (TA 2 (TA 3 (TA 24 (TA 25 kN))))) (fun(z:Nat×Nat×aY)=>[(26,.a (.d (.int .i64 ((z.2.1:Nat):Int))))]) (fun z=>[aY.c aY.zero,((bE .i64) z.2.2.ak++aM z.2.2.gq++aM z.2.2.ai++aM z.2.2.bz++[Sl.d 6 ax.c (some g) z.2.2.aG]++(fun s=>[Sl.d 2 aN.c none s]) z.2.2.ct++(fun s=>[Sl.d 7 aY.c none s]) z.2.2.fL)]) (fun z=>(H.set g (some (.tok 6 z.2.2.aG.l.length)))) (fun z=>z.1) (fun z=>CG i z.1 z.2.1 z.2.2=some r) ((i.aG.l.length+1),0,C) b wA ?_
  rintro ⟨p,Q,F⟩ b R U;try dsimp only at b
  cases p with
  | zero=>cases b
  | succ p =>
    rw [CG] at b;refine aa (S BI (nil ?_));refine ay fun W X=>?_;refine cE b (fun m b=>?_) (fun m b=>?_)
    ·try dsimp only at m
     have Y:=oD m;cases b
    refine ah.exit ?_;exact E _ F wA b
 rintro G b;try dsimp only at b
 unfold CF at b;refine fO (TA 2 (TA 3 kN)) (fun(z:aY)=>[]) (fun z=>[aY.c aY.zero,((bE .i64) z.ak++aM z.gq++aM z.ai++aM z.bz++[Sl.d 6 ax.c (some g) z.aG]++(fun s=>[Sl.d 2 aN.c none s]) z.ct++(fun s=>[Sl.d 7 aY.c none s]) z.fL)]) (fun z=>(H.set g (some (.tok 6 z.aG.l.length)))) (fun z=>CE z=some r) ?_ ?_
 ·intro Z I;refine aa (S Fv (S Ld (S BI (nil ?_))));refine cE b (fun J b=>?_) (fun J b=>?_)
  ·cases b
  refine ah.skip ?_;exact I _ G wA b
 rintro K b;try dsimp only at b
 unfold CE at b;refine ay fun L q=>?_;refine ah.dX 1 _ rfl (fun j w cs hh hx=>qY 4 hx rfl) ?_;refine ah.dX 1 (aY.c K) rfl (fun j w cs hh hx=>by rw [aY.gm]; exact hx) ?_;refine region ?_;refine S LL ?_;refine Sf ?_;refine nil ?_;refine q _ ?_;clear q L;refine ah.ret ?_;repeat (first|refine bM ?_|refine bN ?_)
 obtain rfl:=oJ b;refine bF.bK H rfl ⟨rfl,rfl⟩ ?_
 first|exact ag.bX o|(simp only [ag.set_set]; exact ag.bX o)
theorem uB:∀(n:Nat),(xJ (an:=an) n)/\(xK (an:=an) n)
 | 0=>⟨fun b=>by first|cases b|(rw [uz] at b; cases b),fun b=>by first|cases b|(rw [uA] at b; cases b)⟩
 | n+1=>⟨R1 n (uB n).1 (uB n).2,R2 n (uB n).1 (uB n).2⟩
def IP (a0:(Sl aj)) (a1:Bs):Option (Sl aY):=uz F0 a0 a1
theorem R3 {b:Sl aj}{f:Bs}{w0:Option Nat}{r:Sl aY}(g:IP b f=some r) (H:ag) :AC Tryz.prog 48 [.d (Sl.d 9 aj.c w0 b),.d (.str f)] H fun v h'=>v=.a (.d (Sl.d 7 aY.c none r))/\h'=H:=(uB F0).1 g H 
def CI  (b:fV):Option dK:=some (dK.mk (⟨false,[b]⟩:Sl fV) (Sl.nil:Sl Z7))
def CJ (b:bU):Option dK:=(rW b.ak).bind fun f=>(IP b.aK f).bind fun g=>bif (decide (((b.aK.l.length:Nat):Int)=(0:Int))) then(none) else(CI   (fV.mk b.ak ([]:Bs) (Sl.nil:Sl ig) g))
theorem R4 {g:bU}{r:dK}(b:CJ g=some r) (H:ag) :AC Tryz.prog 18 [.agg (bU.c g)] H fun v h'=>v=.a (.agg (dK.c r))/\h'=H:=by
 unfold CJ at b;refine AC.oW 28 [.cell 2 40] Tryz.call18 Tryz.func18 ?_;refine aa (S BX ?_);refine Sl ?_;refine nil ?_;refine ah.cH (Sd Fv (Sd Ld (Sd Fv (Sd Ld (Sd Fv (Sd Ld ?_))))));obtain⟨o,i,b⟩:=bO b;refine cN rfl rfl (wK i) ?_;obtain⟨j,k,b⟩:=bO b;refine cN rfl rfl (R3 k) ?_;refine Sd BU ?_;refine au.sB (TK rfl) rfl rfl ?_ (by repeat (first|exact bT.nil|apply bT.cons))
 refine au.dU (eA (TK rfl) rfl rfl rfl rfl rfl) ?_;refine au.nil (by decide +kernel) ?_;refine fO (TA 2 (TA 3 kN)) (fun(z:fV)=>[]) (fun z=>[dK.c dK.zero,fV.c z]) (fun z=>H) (fun z=>CI z=some r) ?_ ?_
 ·intro p l;refine aa (S Fv (S Ld ?_));refine sLen (f:=aj.c) (s:=g.aK) (TK rfl) rfl rfl rfl rfl fun q=>?_;refine S BI (nil ?_);refine cE b (fun m b=>?_) (fun m b=>?_)
  ·cases b
  refine ah.skip ?_;exact l _ (fV.mk g.ak ([]:Bs) (Sl.nil:Sl ig) j) wA b
 rintro t b;try dsimp only at b
 unfold CI at b;refine aa (S LL (S BV (S BU ?_)));refine Sf ?_;refine nil ?_;exact rt b
def IQ :(ar×dK×bU):=((ar.mk (⟨false,[(az.mk (1:Int) ([81,117,101,114,121]:Bs) (Sl.nil:Sl Bs) (Sl.nil:Sl aN) (⟨false,[(Z6.mk ([109,101]:Bs) (Sl.nil:Sl Z8) (aB.mk ([85,115,101,114]:Bs) (Sl.nil:Sl Int)) (Sl.nil:Sl aN))]⟩:Sl Z6) (Sl.nil:Sl Z9) (Sl.nil:Sl Z8)),(az.mk (1:Int) ([85,115,101,114]:Bs) (Sl.nil:Sl Bs) (Sl.nil:Sl aN) (⟨false,[(Z6.mk ([110,97,109,101]:Bs) (Sl.nil:Sl Z8) (aB.mk ([83,116,114,105,110,103]:Bs) (Sl.nil:Sl Int)) (Sl.nil:Sl aN))]⟩:Sl Z6) (Sl.nil:Sl Z9) (Sl.nil:Sl Z8))]⟩:Sl az)),(dK.mk (⟨false,[(fV.mk (1:Int) ([]:Bs) (Sl.nil:Sl ig) (⟨false,[(aY.mk (1:Int) ([]:Bs) ([109,101]:Bs) ([]:Bs) (Sl.nil:Sl ax) (Sl.nil:Sl aN) ((⟨false,[(aY.mk (1:Int) ([]:Bs) ([110,97,109,101]:Bs) ([]:Bs) (Sl.nil:Sl ax) (Sl.nil:Sl aN) true ([]))]⟩:Sl aY).nl) ((⟨false,[(aY.mk (1:Int) ([]:Bs) ([110,97,109,101]:Bs) ([]:Bs) (Sl.nil:Sl ax) (Sl.nil:Sl aN) true ([]))]⟩:Sl aY).l))]⟩:Sl aY))]⟩:Sl fV) (Sl.nil:Sl Z7)),(bU.mk (1:Int) (⟨false,[(aj.mk ([109,101]:Bs) ([81,117,101,114,121]:Bs) ([109,101]:Bs) (Sl.nil:Sl ax) ((Z6.mk ([109,101]:Bs) (Sl.nil:Sl Z8) (aB.mk ([85,115,101,114]:Bs) (Sl.nil:Sl Int)) (Sl.nil:Sl aN)).aO) ([]:Bs) (-1:Int) ((⟨false,[(aj.mk ([110,97,109,101]:Bs) ([85,115,101,114]:Bs) ([110,97,109,101]:Bs) (Sl.nil:Sl ax) ((Z6.mk ([110,97,109,101]:Bs) (Sl.nil:Sl Z8) (aB.mk ([83,116,114,105,110,103]:Bs) (Sl.nil:Sl Int)) (Sl.nil:Sl aN)).aO) ([]:Bs) (-1:Int) true ([]))]⟩:Sl aj).nl) ((⟨false,[(aj.mk ([110,97,109,101]:Bs) ([85,115,101,114]:Bs) ([110,97,109,101]:Bs) (Sl.nil:Sl ax) ((Z6.mk ([110,97,109,101]:Bs) (Sl.nil:Sl Z8) (aB.mk ([83,116,114,105,110,103]:Bs) (Sl.nil:Sl Int)) (Sl.nil:Sl aN)).aO) ([]:Bs) (-1:Int) true ([]))]⟩:Sl aj).l))]⟩:Sl aj)))
def CK :Option (ar×dK×bU):=some (IQ )
theorem R5    {r:ar×dK×bU}(b:CK =some r) (H:ag) :AC Tryz.prog 24 [] H fun v h'=>v=.dM [.agg (ar.c r.1),.agg (dK.c r.2.1),.agg (bU.c r.2.2)]/\h'=H:=by
 unfold CK IQ at b;refine AC.oW 41 [.cell 0 24,.cell 1 40,.cell 2 27] Tryz.call24 Tryz.func24 ?_;refine aa ?_;refine Sl ?_;refine Sl ?_;refine Sl ?_;refine nil ?_;refine aa (S BU (S BU ?_));refine Sl ?_;refine Sf ?_;refine nil ?_;refine bH 3 _ rfl (KA 0 (KA 1 (KA 2 aU.nil))) ?_;refine aa (S BU (S BU ?_));refine Sl ?_;refine Sf ?_;refine nil ?_;refine bH 4 _ rfl (KA 0 (KA 1 (KA 2 (KA 3 aU.nil)))) ?_
 refine aa (S Ld (S BV (S BU (S Ld (S BV (S BU (S BV (S BU ?_))))))));refine Sl ?_;refine Sf ?_;refine nil ?_;refine bH 5 _ rfl (KA 0 (KA 1 (KA 2 (KA 3 (KA 4 aU.nil))))) ?_;refine aa (S BU (S BV (S BU (S BV (S BU (S BV (S BU ?_)))))));refine Sl ?_;refine Sf ?_;refine nil ?_;refine bH 6 _ rfl (KA 0 (KA 1 (KA 2 (KA 3 (KA 4 (KA 5 aU.nil)))))) ?_;refine aa (S Fv (S Ld (S BU ?_)))
 refine Sl ?_;refine Sf ?_;refine nil ?_;refine bH 7 _ rfl (KA 0 (KA 1 (KA 2 (KA 4 (KA 5 (KA 6 aU.nil)))))) ?_;refine aa (S Fv (S Ld (S Ld (S BV (S BU ?_)))));refine Sl ?_;refine Sf ?_;refine aS.dX 3 (aj.c (aj.mk ([109,101]:Bs) ([81,117,101,114,121]:Bs) ([109,101]:Bs) (Sl.nil:Sl ax) ((Z6.mk ([109,101]:Bs) (Sl.nil:Sl Z8) (aB.mk ([85,115,101,114]:Bs) (Sl.nil:Sl Int)) (Sl.nil:Sl aN)).aO) ([]:Bs) (-1:Int) ((⟨false,[(aj.mk ([110,97,109,101]:Bs) ([85,115,101,114]:Bs) ([110,97,109,101]:Bs) (Sl.nil:Sl ax) ((Z6.mk ([110,97,109,101]:Bs) (Sl.nil:Sl Z8) (aB.mk ([83,116,114,105,110,103]:Bs) (Sl.nil:Sl Int)) (Sl.nil:Sl aN)).aO) ([]:Bs) (-1:Int) true ([]))]⟩:Sl aj).nl) ((⟨false,[(aj.mk ([110,97,109,101]:Bs) ([85,115,101,114]:Bs) ([110,97,109,101]:Bs) (Sl.nil:Sl ax) ((Z6.mk ([110,97,109,101]:Bs) (Sl.nil:Sl Z8) (aB.mk ([83,116,114,105,110,103]:Bs) (Sl.nil:Sl Int)) (Sl.nil:Sl aN)).aO) ([]:Bs) (-1:Int) true ([]))]⟩:Sl aj).l))) rfl (fun j w cs hh hx=>by rw [aj.gm]; exact hx) ?_
 refine nil ?_;refine bH 8 _ rfl (KA 0 (KA 1 (KA 2 (KA 5 (KA 6 aU.nil))))) ?_;refine ah.cH (Sd Ld (Sd Ld (Sd Ld (Sd BV (Sd BU ?_)))));refine au.dU (eA (TK rfl) rfl rfl rfl rfl rfl) ?_;refine au.dU (eA (TK rfl) rfl rfl rfl rfl rfl) ?_;refine au.dU (eA (TK rfl) rfl rfl rfl rfl rfl) ?_;refine au.nil (by decide +kernel) ?_;exact rt b
def sQ (f:Bs):List ax->Unit ⊕ ((af×Bool))
 | []=>Sum.inl ()
 | g::i=>on (g) fun b=>bif ((b.ai==f)) then(Sum.inr (b.cB,true)) else(sQ f (i) )
def xL (g:aN) (i:Bs):(af×Bool):=on (sQ i g.aG.l ) fun b=>match b with|Sum.inl _=>(on (()) fun _=>((af.mk (0:Int) (0:Int) ([]:Bs) true ([]) (Sl.nil:Sl Bs)),false))|Sum.inr f=>(f)
def CL (b:aN) (f:Bs):Option (af×Bool):=some (xL b f)
theorem R6 (a0:aN) (a1:Bs):CL a0 a1=some (xL a0 a1):=rfl
theorem R7 {g:aN}{i:Bs}{r:af×Bool}(b:CL g i=some r) (H:ag) :AC Tryz.prog 233 [.agg (aN.c g),.d (.str i)] H fun v h'=>v=.dM [.agg (af.c r.1),.d (.bool r.2)]/\h'=H:=by
 unfold CL xL at b;refine AC.oW 23 [.cell 4 58,.tmp 5] Tryz.call233 Tryz.func233 ?_;refine aa (S BX ?_);refine Sl ?_;refine S As (nil ?_);refine fO (TA 4 kN) (fun(z:af)=>[]) (fun z=>[af.c z]) (fun z=>H) (fun z=>some (((af.mk (0:Int) (0:Int) ([]:Bs) true ([]) (Sl.nil:Sl Bs)),false))=some r) ?_ ?_
 ·intro G w;refine aa (S Fv (S Ld ?_));refine sLen (f:=ax.c) (s:=g.aG) (TK rfl) rfl rfl rfl rfl fun I=>?_;refine S Mv (nil ?_);refine block ?_;obtain⟨k,m,b⟩:=fo b;refine jf (TA 1 (TA 4 (TA 9 (TA 10 kN)))) (fun(z:Nat×af)=>[(11,.a (.d (.int .i64 ((z.1:Nat):Int))))]) (fun z=>[af.c z.2]) (fun z=>H) (fun z=>g.aG.l.length-z.1) (fun z=>k (sQ i (g.aG.l.drop z.1) )=some r) (0,af.zero) b wA ?_
  rintro ⟨o,p⟩ b J x;try dsimp only at b
  refine aa (S BI (nil ?_));refine ay fun y q=>?_;refine ah.cL (fun l=>k (sQ i l )=some r) b rfl (fun K t j b=>?_) (fun j b=>?_)
  ·rw [sQ] at b;try dsimp only at j
   have L:=oD j;refine sk q ?_;clear q y;refine ay fun B u=>?_;refine block ?_;refine aa ?_;obtain⟨M,C,b⟩:=vP t b;refine S (ix ax.c o C) (S Ld ?_);refine Sl ?_;refine Sf ?_;refine nil ?_;refine bH 7 _ rfl (KA 1 (KA 4 (KA 9 (KA 10 (KA 11 aU.nil))))) ?_;refine aa (S Fv (S Ld (S Mv (S BS (nil ?_)))));refine cP b (fun E b=>?_) (fun E b=>?_)
   ·refine aa (S Fv (S Ld ?_));refine Sf ?_;refine S As (nil ?_);refine ah.ret ?_;repeat (first|refine bM ?_|refine bN ?_)
    have b:=ku m b;obtain rfl:=oJ b;refine bF.bK H rfl ⟨rfl,rfl⟩ ?_;exact(fun _ _ h=>h)
   refine sk u ?_;clear u B;refine region ?_;refine SI ?_;refine S Mv (nil ?_);exact x _ ((o+1),p) wA b (dl t)
  rw [sQ] at b;have b:=ku m b;try dsimp only at b
  refine ah.exit ?_;obtain⟨N,F,b⟩:=fo b;have b:=ku F b;exact w _ p wA b
 rintro O b;try dsimp only at b
 refine aa (S BU ?_);refine Sf ?_;refine S As (nil ?_);exact rt b
def xM (b:af) (j:Bs):Option (af×Bool):=on (uf b.aF j) fun f=>bif (((!decide (b.ak=(6:Int)))||(decide (f<(0:Int))))||(decide (((b.av.l.length:Nat):Int)<=f))) then(some ((af.mk (0:Int) (0:Int) ([]:Bs) true ([]) (Sl.nil:Sl Bs)),false)) else((cq b.av.l f).bind fun g=>(IN g).bind fun i=>some (i,true))
def CM (b:af) (f:Bs):Option (af×Bool):=xM b f
theorem R8 (a0:af) (a1:Bs):CM a0 a1=xM a0 a1:=rfl
theorem R9 {g:af}{j:Bs}{r:af×Bool}(b:CM g j=some r) (H:ag) :AC Tryz.prog 237 [.agg (af.c g),.d (.str j)] H fun v h'=>v=.dM [.agg (af.c r.1),.d (.bool r.2)]/\h'=H:=by
 unfold CM xM at b;refine AC.oW 32 [.cell 4 58,.tmp 5] Tryz.call237 Tryz.func237 ?_;refine aa (S BX ?_);refine Sl ?_;refine S As (nil ?_);refine aa (S Fv (S Ld (S Mv ?_)));obtain⟨t,l,b⟩:=vT (HN _ _) b;refine Sc rfl rfl (Bn l) ?_;refine S As (nil ?_);refine ay fun m i=>?_;refine aa (S Fv (S Ld (S BI (S Mv (G0 Mv ?_)))));refine G1 15 rfl BI ?_;refine S PO (S Mv (G0 Mv (G0 Fv ?_)))
 refine gC rfl rfl (fun hC=>aI (k:=20) rfl (ck (TK rfl) rfl rfl (congrArg (fun x=>some (A.d x)) (af.di _)))) rfl ?_;refine gC rfl rfl (fun hC=>aI (k:=21) rfl (dx (f:=af.c) (s:=g.av) (TK rfl) rfl rfl rfl)) rfl ?_;refine G2 19 22 rfl rfl BI ?_;refine S PO (nil ?_);refine cE b (fun o b=>?_) (fun o b=>?_)
 ·refine aa (S BU ?_);refine Sf ?_;refine S As (nil ?_);exact rt b
 refine sk i ?_;clear i m;refine aa (S Fv ?_);refine s0 (ck (TK rfl) rfl rfl (congrArg (fun x=>some (A.d x)) (af.di _))) rfl ?_;refine S Mv ?_;obtain⟨u,p,b⟩:=qT rfl b;refine s0 (fI (f:=af.c) (TK rfl) rfl (TK rfl) rfl rfl rfl p) rfl ?_;refine S Ld ?_;obtain⟨w,q,b⟩:=qT (RZ _) b;refine Sc rfl rfl (RY q) ?_;refine Sf ?_;refine S As (nil ?_)
 exact rt b
def uC (i:aN) (j:af):Option Bool:=on (xL i ([105,102]:Bs)) fun b=>Option.bind (bif (decide (b.1.ak=(7:Int))) then((xM j b.1.aV).bind fun g=>some g.1) else(some b.1)) fun f=>some ((decide (f.ak=(1:Int)))&&(decide (f.bl=(1:Int))))
def CN (b:aN) (f:af):Option Bool:=uC b f
theorem IR (a0:aN) (a1:af):CN a0 a1=uC a0 a1:=rfl
theorem IS {g:aN}{i:af}{r:Bool}(b:CN g i=some r) (H:ag) :AC Tryz.prog 232 [.agg (aN.c g),.agg (af.c i)] H fun v h'=>v=.a (.d (.bool r))/\h'=H:=by
 unfold CN uC at b;refine AC.oW 30 [.tmp 4] Tryz.call232 Tryz.func232 ?_;refine aa (S BX (S BX (S As (nil ?_))));refine aa (S Ld ?_);obtain⟨j,l,b⟩:=vT (R6 _ _) b;refine Sc rfl rfl (R7 l) ?_;refine S Mv (S EX (S EX ?_));refine Sl ?_;refine Sf ?_;refine S As (nil ?_);obtain⟨m,o,b⟩:=cG b;refine fO (TA 5 kN) (fun(z:af)=>[]) (fun z=>[af.c z]) (fun z=>H) (fun z=>m z=some r) ?_ ?_
 ·intro t f;refine aa (S FL (S LL (S BI (nil ?_))));refine cO b (fun p b=>?_) (fun p b=>?_)
  ·refine region ?_;refine S Ld (S FL (S LL ?_));obtain⟨q,s,b⟩:=qO (R8 _ _) b;refine Sc rfl rfl (R9 s) ?_;refine S Mv (S EX (S EX ?_));refine Sf ?_;refine nil ?_;exact f _ q.1 wA b
  refine ah.skip ?_;exact f _ j.1 wA b
 rintro u b;try dsimp only at b
 have b:=ku o b;refine aa (S FL (S LL (S BI (S Mv (G0 FL ?_)))));refine gC rfl rfl (fun hC=>zh (k:=26) rfl (vj (TK rfl) rfl rfl rfl rfl)) rfl ?_;refine G1 27 rfl BI ?_;refine S PA (S As (nil ?_));exact rt b
def sS (f:af):List aN->Option (Unit ⊕ Bool)
 | []=>some (Sum.inl ())
 | i::j=>on (i) fun b=>aQ (((b.ai==([115,107,105,112]:Bs)))) (uC b f) false fun g=>aQ ((!(((b.ai==([115,107,105,112]:Bs)))&&g)&&((b.ai==([105,110,99,108,117,100,101]:Bs))))) (uC b f) false fun k=>bif ((((b.ai==([115,107,105,112]:Bs)))&&g)||(((b.ai==([105,110,99,108,117,100,101]:Bs)))&&(!k))) then(some (Sum.inr false)) else(sS f (j) )
def IT (g:(Sl aN)) (i:af):Option Bool:=Option.bind (sS i g.l ) fun b=>match b with|Sum.inl _=>(on (()) fun _=>some true)|Sum.inr f=>(some f)
def CO (b:(Sl aN)) (f:af):Option Bool:=IT b f
theorem R_ {a0:Sl aN}{a1:af}{w0:Option Nat}{r:Bool}(b:CO a0 a1=some r) (H:ag) :AC Tryz.prog 200 [.d (Sl.d 2 aN.c w0 a0),.agg (af.c a1)] H fun v h'=>v=.a (.d (.bool r))/\h'=H:=by
 unfold CO IT at b;refine AC.oW 33 [.tmp 4] Tryz.call200 Tryz.func200 ?_;refine aa (S BX (S As (nil ?_)));refine aP kN (fun(z:Unit)=>[]) (fun z=>H) (fun z=>(some true)=some r) ?_ ?_
 ·intro G t;refine aa (S Mv ?_);refine sLen (f:=aN.c) (s:=a0) (TK rfl) rfl rfl rfl rfl fun I=>?_;refine S Mv (nil ?_);refine block ?_;obtain⟨i,j,b⟩:=cG b;refine bD (TA 3 (TA 7 (TA 8 kN))) (fun(z:Nat)=>[(9,.a (.d (.int .i64 ((z:Nat):Int))))]) (fun z=>H) (fun z=>a0.l.length-z) (fun z=>Option.bind (sS a1 (a0.l.drop z) ) i=some r) 0 b wA ?_;rintro m b J u
  try dsimp only at b
  refine aa (S BI (nil ?_));refine ay fun w o=>?_;refine ah.cL (fun l=>Option.bind (sS a1 l ) i=some r) b rfl (fun K p g b=>?_) (fun g b=>?_)
  ·rw [sS] at b;try dsimp only at g
   have L:=oD g;refine sk o ?_;clear o w;refine ay fun x q=>?_;refine block ?_;refine aa ?_;obtain⟨M,y,b⟩:=vO p b;refine S (ix aN.c m y) (S Ld ?_);refine Sl ?_;refine Sf ?_;refine nil ?_;refine bH 6 _ rfl (KA 3 (KA 7 (KA 8 (KA 9 aU.nil)))) ?_;refine aa (S Fv (S Ld (S BS (S Mv (G0 Ld (G0 Ld ?_))))));obtain⟨N,B,b⟩:=eR (IR _ _) b
   refine fq 17 18 rfl rfl rfl rfl rfl rfl (fun hC=>IS (B hC)) ?_;refine S PA (S Mv (G0 Fv ?_));refine G1 22 rfl Ld ?_;refine G1 23 rfl BS ?_;refine G1 24 rfl Mv ?_;refine G0 Ld (G0 Ld ?_);obtain⟨O,C,b⟩:=eR (IR _ _) b;refine fq 26 27 rfl rfl rfl rfl rfl rfl (fun hC=>IS (C hC)) ?_;refine G1 28 rfl NB ?_;refine gC rfl rfl (fun hC=>aI (k:=25) rfl (gF rfl rfl rfl)) rfl ?_
   refine S PO (nil ?_);refine cO b (fun E b=>?_) (fun E b=>?_)
   ·refine aa (S As (nil ?_));refine ah.ret ?_;repeat (first|refine bM ?_|refine bN ?_)
    have b:=ku j b;obtain rfl:=oJ b;refine bF.bK H rfl ⟨rfl,rfl⟩ ?_;exact(fun _ _ h=>h)
   refine sk q ?_;clear q x;refine region ?_;refine SI ?_;refine S Mv (nil ?_);exact u _ (m+1) wA b (dl p)
  rw [sS] at b;have b:=ku j b;try dsimp only at b
  refine ah.exit ?_;obtain⟨P,F,b⟩:=cC b;have b:=ku F b;exact t _ () wA b
 rintro _ b;try dsimp only at b
 refine aa (S As (nil ?_));exact rt b
def CP  :Option Int:=some (-1:Int)
def xN (f:(Sl Z2)) (g:(Z2->Option Bool)) :Nat->Nat->Option Int
 | 0,_=>none
 | i+1,b=>bif (decide (((b:Nat):Int)<((f.l.length:Nat):Int))) then((f.l[b]?).bind fun j=>(g j).bind fun k=>bif k then(some ((b:Nat):Int)) else((xN f g i) (b+1))) else(CP   )
def IU (b:(Sl Z2)) (f:(Z2->Option Bool)):Option Int:=xN b f (b.l.length+1) 0
theorem Sa {a0:Sl Z2}{a1:Z2->Option Bool}{w0:Option Nat}{j:List D}{k:Nat}{r:Int}(b:IU a0 a1=some r) (H:ag) (t:∀m r,a1 m=some r->∀H,AC Tryz.prog k ([.agg (Z2.c m)]++j.map A.d) H fun v h'=>v=.a (.d (.bool r))/\h'=H):AC Tryz.prog 234 [.d (Sl.d 2 Z2.c w0 a0),.d (.func k j)] H fun v h'=>v=.a (.d (.int .i64 r))/\h'=H:=by
 unfold IU at b;refine AC.oW 19 [.tmp 4] Tryz.call234 Tryz.func234 ?_;refine aa (S As (nil ?_));refine aP kN (fun(z:Unit)=>[]) (fun z=>H) (fun z=>CP =some r) ?_ ?_
 ·intro F u;refine aa (S Mv ?_);refine sLen (f:=Z2.c) (s:=a0) (TK rfl) rfl rfl rfl rfl fun G=>?_;refine S Mv (nil ?_);refine block ?_;refine bD (TA 0 (TA 1 (TA 7 kN))) (fun(z:Nat×Nat)=>[(8,.a (.d (.int .i64 ((z.2:Nat):Int))))]) (fun z=>H) (fun z=>z.1) (fun z=>xN a0 a1 z.1 z.2=some r) ((a0.l.length+1),0) b wA ?_;rintro ⟨g,o⟩ b I w;try dsimp only at b
  cases g with
  | zero=>cases b
  | succ g =>
    rw [xN] at b;refine aa (S BI (nil ?_));refine ay fun x p=>?_;refine cE b (fun i b=>?_) (fun i b=>?_)
    ·try dsimp only at i
     have J:=oD i;refine sk p ?_;clear p x;refine ay fun y q=>?_;refine block ?_;refine aa (S Mv (S As (nil ?_)));refine aa (S Mv (S Mv (S Mv ?_)));obtain⟨K,B,b⟩:=bO b;refine S (ix Z2.c o B) (S Ld ?_);obtain⟨L,C,b⟩:=bO b;refine s0 (fh rfl rfl (t _ _ C)) rfl ?_;refine nil ?_;refine cE b (fun E b=>?_) (fun E b=>?_)
     ·refine aa (S Mv (S As (nil ?_)));exact rt b
     refine sk q ?_;clear q y;refine region ?_;refine SI ?_;refine S Mv (nil ?_);exact w _ (g,(o+1)) wA b (nS _)
    refine ah.exit ?_;exact u _ () wA b
 rintro _ b;try dsimp only at b
 unfold CP at b;refine aa (S As (nil ?_));exact rt b
def IV (b:Z2) (f:Bs):Bool:=((b.bn==f))
def CQ (b:Z2) (f:Bs):Option Bool:=some (IV b f)
theorem Sb {f:Z2}{g:Bs}{r:Bool}(b:CQ f g=some r) (H:ag) :AC Tryz.prog 235 [.agg (Z2.c f),.d (.view (aM g))] H fun v h'=>v=.a (.d (.bool r))/\h'=H:=by
 unfold CQ IV at b;refine AC.oW 8 [.tmp 3] Tryz.call235 Tryz.func235 ?_;refine aa (S BX (S As (nil ?_)));refine aa (S Fv (S Ld (S Ld (S BS (S As (nil ?_))))));exact rt b
end Go.Proofs
