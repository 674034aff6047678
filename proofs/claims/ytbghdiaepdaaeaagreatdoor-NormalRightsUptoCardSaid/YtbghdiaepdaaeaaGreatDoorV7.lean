import Derived.Test.YtbghdiaepdaaeaaGreatDoorV6
set_option maxRecDepth 100000
set_option maxHeartbeats 2000000
set_option linter.unusedVariables false
set_option linter.unusedSimpArgs false
namespace Go.Proofs
open Go Go.Ab
open aQ ar ag aS dY
variable {ak:bf}
def Tryz.Jj:Go.Shelf.Ren:=⟨fun|169=>75|n=>n,fun|70=>127|9=>9|0=>0|72=>130|37=>128|127=>181|3=>3|5=>5|n=>n,fun|n=>n⟩
theorem Tryz.TB:Go.Proofs.Lays.n169 Tryz.prog Tryz.Jj:={
 mixed:=by kernel_rfl
 f169:=Tryz.func75.trans (congrArg some (by kernel_rfl))
 t0:=Tryz.underlying0
 a0:=Tryz.isAgg0
 z0:=Tryz.sizeOf0
 v0:=Tryz.zeroValue0
 t3:=Tryz.underlying3
 a3:=Tryz.isAgg3
 z3:=Tryz.sizeOf3
 v3:=Tryz.zeroValue3
 t9:=Tryz.underlying9
 a9:=Tryz.isAgg9
 z9:=Tryz.sizeOf9
 v9:=Tryz.zeroValue9
 t37:=Tryz.underlying128
 a37:=Tryz.isAgg128
 z37:=Tryz.sizeOf128
 v37:=Tryz.zeroValue128
 t70:=Tryz.underlying127
 a70:=Tryz.isAgg127
 z70:=Tryz.sizeOf127
 v70:=Tryz.zeroValue127
 t72:=Tryz.underlying130
 a72:=Tryz.isAgg130
 z72:=Tryz.sizeOf130
 v72:=Tryz.zeroValue130
 t127:=Tryz.underlying181
 a127:=Tryz.isAgg181
 z127:=Tryz.sizeOf181
 v127:=Tryz.zeroValue181 }
theorem Tryz.TC:Builder.Extra Tryz.prog Tryz.Jj where
 sizeBuilder:=by kernel_rfl
 liesBuilder:=by kernel_rfl
 t5:=Tryz.underlying5
 a5:=Tryz.isAgg5
 z5:=Tryz.sizeOf5
 v5:=Tryz.zeroValue5
 infoByte:=by kernel_rfl
 cellsByte:=by kernel_rfl
 sizeByte:=by kernel_rfl
 neB5:=by decide
def Jk (b:bT):Option Bs:=zW b
theorem TD {f:bT}{b t0:Nat}{r:Bs}(g:Jk f=some r) (H:ah) (i:H b=some (.dz 130 (bT.cg b (some t0) f))) (j:H t0=some (.tok 1 f.cW.l.length (some 5))):AC Tryz.prog 75 [.d (.ptr b 0)] H fun v h'=>v=.a (.d (.str r))/\h'=(H.set t0 none).set b none:=Of Tryz.TB Tryz.TC rfl rfl rfl g i j
def C2  (b:bT):Option Bs:=(tO b ([32,125]:Bs)).bind fun f=>(Jk f.2.2).bind fun g=>some g
def yt (b:Nat) (f:Nat->bT->Option Bs) (g:bT):Option Bs:=f (b+1) g
def C3 (b:Nat) (f:aj) (g:Nat->bT->Option Bs) (j:(Sl aj)->Option Bs) (i:bT):Option Bs:=bif (decide ((0:Int)<((f.bE.l.length:Nat):Int))) then((j f.bE).bind fun k=>(cR ([32]:Bs) k).bind fun m=>(tO i m).bind fun o=>yt b g o.2.2) else(yt b g i)
def C4 (f:Nat) (b:aj) (g:Nat->bT->Option Bs) (i:(Sl aj)->Option Bs) (j:bT):Option Bs:=bif (!decide (b.dR=(-1:Int))) then(none) else(C3 f b g i j)
def C5 (f:Nat) (b:aj) (g:Nat->bT->Option Bs) (i:(Sl aj)->Option Bs) (j:bT):Option Bs:=bif (!(b.eO==([]:Bs))) then(none) else(C4 f b g i j)
def pP (g:(Sl aj)) (i:(Sl aj)->Option Bs):Nat->Nat->bT->Option Bs
 | 0,_,_=>none
 | k+1,f,j=>bif (decide (((f:Nat):Int)<((g.l.length:Nat):Int))) then((g.l[f]?).bind fun b=>(cR ([32]:Bs) b.bR).bind fun m=>(cR m ([46]:Bs)).bind fun o=>(cR o b.bF).bind fun p=>(cR p ([58,32]:Bs)).bind fun q=>(cR q b.ai).bind fun r=>(tO j r).bind fun s=>bif (decide ((0:Int)<((b.aO.l.length:Nat):Int))) then(none) else(C5 f b ((pP g i k)) i s.2.2)) else(C2   j)
def jF:Nat->(Sl aj)->Option Bs
 | 0,_=>none
 | n+1,b=>(tO bT.zero ([123]:Bs)).bind fun f=>pP b (jF n) (b.l.length+1) 0 f.2.2
def C6 (n:Nat):Prop:=∀{a0:(Sl aj)}{w0:Option Nat}  {r:Bs},jF n a0=some r->∀(H:ah),AC Tryz.prog 37 [.d (Sl.d 9 aj.c w0 a0)] H fun v h'=>v=.a (.d (.str r))/\h'=H
theorem TE (n:Nat) (G:C6 (ak:=ak) n):C6 (ak:=ak) (n+1):=by
 intro m w0  r b H ;rw [jF] at b;refine AC.oW 65 [.tmp 2] Tryz.call37 Tryz.func37 ?_;refine af (S As (nil ?_));refine af ?_;refine aQ.tokE 1 5 fun g aB=>?_;refine sE (dW.N9 (TK rfl) rfl) rfl (fun _ _ _ ⟨i,B,I,J,K⟩=>?_); subst I J K;obtain⟨aC,B⟩:=ah.gB B;refine aQ.Oa i _ aI (fun j w cs hh L=>tok_cell 1 1 1 hh (t:=g) aI L rfl) ?_
 refine hq ((H.set g (some (.tok 1 0 (some 5)))).set i (some (.dz 130 (bT.cg i (some g) bT.zero)))) ?_;refine nil ?_;refine af ?_;obtain⟨q,M,b⟩:=bO b;refine sH (de rfl rfl (yq M _ aI aI)) rfl ?_;refine hq ((H.set g (some (.tok 1 q.2.2.cW.l.length (some 5)))).set i (some (.dz 130 (bT.cg i (some g) q.2.2)))) ?_
 refine nil ?_;refine aT (TA 3 kN) (fun(z:bT)=>[]) (fun z=>((H.set g (some (.tok 1 z.cW.l.length (some 5)))).set i (some (.dz 130 (bT.cg i (some g) z))))) (fun z=>C2 z=some r) ?_ ?_
 ·intro aE N;refine af (S Mv ?_);refine sLen (f:=aj.c) (s:=m) (TK rfl) rfl rfl rfl rfl fun aF=>?_;refine S Mv (nil ?_);refine block ?_;refine bx (TA 3 (TA 7 (TA 8 kN))) (fun(z:Nat×Nat×bT)=>[(9,.a (.d (.int .i64 ((z.2.1:Nat):Int))))]) (fun z=>((H.set g (some (.tok 1 z.2.2.cW.l.length (some 5)))).set i (some (.dz 130 (bT.cg i (some g) z.2.2))))) (fun z=>z.1) (fun z=>pP m (jF n) z.1 z.2.1 z.2.2=some r) ((m.l.length+1),0,q.2.2) b wA ?_
  rintro ⟨k,o,O⟩ b aG P;try dsimp only at b
  cases k with
  | zero=>cases b
  | succ k =>
    rw [pP] at b;refine af (S BI (nil ?_));refine ay fun Q C=>?_;refine cE b (fun u b=>?_) (fun u b=>?_)
    ·try dsimp only at u
     have aH:=oD u;refine sk C ?_;clear C Q;refine aT (TA 3 (TA 7 (TA 8 (TA 9 kN)))) (fun(z:bT)=>[]) (fun z=>((H.set g (some (.tok 1 z.cW.l.length (some 5)))).set i (some (.dz 130 (bT.cg i (some g) z))))) (fun z=>yt o ((pP m (jF n) k)) z=some r) ?_ ?_
     ·intro aJ E;refine block ?_;refine af ?_;obtain⟨p,R,b⟩:=bO b;refine S (ix aj.c o R) (S Ld ?_);refine Sl ?_;refine Sf ?_;refine nil ?_;refine bu 5 _ rfl (KA 3 (KA 7 (KA 8 (KA 9 aS.nil)))) ?_;refine af (S Fv (S Ld ?_));obtain⟨aK,U,b⟩:=bO b;refine s0 (ez rfl rfl U) rfl ?_;obtain⟨aL,W,b⟩:=bO b;refine s0 (ez rfl rfl W) rfl ?_;refine S Fv (S Ld ?_)
      obtain⟨aM,X,b⟩:=bO b;refine s0 (ez rfl rfl X) rfl ?_;obtain⟨aN,Y,b⟩:=bO b;refine s0 (ez rfl rfl Y) rfl ?_;refine S Fv (S Ld ?_);obtain⟨aP,Z,b⟩:=bO b;refine s0 (ez rfl rfl Z) rfl ?_;obtain⟨v,aa,b⟩:=bO b;refine sH (de rfl rfl (yq aa _ aI aI)) rfl ?_;refine hq ((H.set g (some (.tok 1 v.2.2.cW.l.length (some 5)))).set i (some (.dz 130 (bT.cg i (some g) v.2.2)))) ?_
      refine nil ?_;refine aT (TA 3 (TA 5 (TA 7 (TA 8 (TA 9 kN))))) (fun(z:bT)=>[]) (fun z=>((H.set g (some (.tok 1 z.cW.l.length (some 5)))).set i (some (.dz 130 (bT.cg i (some g) z))))) (fun z=>C5 o p ((pP m (jF n) k)) (jF n) z=some r) ?_ ?_
      ·intro aR ab;refine af (S Fv (S Ld ?_));refine sLen (f:=aD.c) (s:=p.aO) (TK rfl) rfl rfl rfl rfl fun aU=>?_;refine S BI (nil ?_);refine cE b (fun ad b=>?_) (fun ad b=>?_)
       ·cases b
       refine ag.skip ?_;exact ab _ v.2.2 wA b
      rintro ae b;try dsimp only at b
      unfold C5 at b;refine aT (TA 3 (TA 5 (TA 7 (TA 8 (TA 9 kN))))) (fun(z:bT)=>[]) (fun z=>((H.set g (some (.tok 1 z.cW.l.length (some 5)))).set i (some (.dz 130 (bT.cg i (some g) z))))) (fun z=>C4 o p ((pP m (jF n) k)) (jF n) z=some r) ?_ ?_
      ·intro aV ai;refine af (S Fv (S Ld (S BS (nil ?_))));refine cE b (fun al b=>?_) (fun al b=>?_)
       ·cases b
       refine ag.skip ?_;exact ai _ ae wA b
      rintro am b;try dsimp only at b
      unfold C4 at b;refine aT (TA 3 (TA 5 (TA 7 (TA 8 (TA 9 kN))))) (fun(z:bT)=>[]) (fun z=>((H.set g (some (.tok 1 z.cW.l.length (some 5)))).set i (some (.dz 130 (bT.cg i (some g) z))))) (fun z=>C3 o p ((pP m (jF n) k)) (jF n) z=some r) ?_ ?_
      ·intro aW an;refine af (S Fv (S Ld (S BI (nil ?_))));refine cE b (fun ao b=>?_) (fun ao b=>?_)
       ·cases b
       refine ag.skip ?_;exact an _ am wA b
      rintro ap b;try dsimp only at b
      unfold C3 at b;refine af (S Fv ?_);refine s0 (bS (TK rfl) rfl rfl (congrArg (fun x=>some (A.d x)) (aj.gG _))) rfl ?_;refine sLen (f:=aj.c) (s:=p.bE) (TK rfl) rfl rfl rfl rfl fun aX=>?_;refine S BI (nil ?_);refine cE b (fun aq b=>?_) (fun aq b=>?_)
      ·refine region ?_;refine S Fv ?_;refine s0 (bS (TK rfl) rfl rfl (congrArg (fun x=>some (A.d x)) (aj.gG _))) rfl ?_;obtain⟨aY,au,b⟩:=bO b;refine Sc rfl rfl (G au) ?_;obtain⟨aZ,av,b⟩:=bO b;refine s0 (ez rfl rfl av) rfl ?_;obtain⟨y,aw,b⟩:=bO b;refine sH (de rfl rfl (yq aw _ aI aI)) rfl ?_;refine hq ((H.set g (some (.tok 1 y.2.2.cW.l.length (some 5)))).set i (some (.dz 130 (bT.cg i (some g) y.2.2)))) ?_
       refine nil ?_;exact E _ y.2.2 wA b
      refine ag.skip ?_;exact E _ ap wA b
     rintro ax b;try dsimp only at b
     unfold yt at b;refine region ?_;refine SI ?_;refine S Mv (nil ?_);exact P _ (k,(o+1),ax) wA b (nS _)
    refine ag.exit ?_;exact N _ O wA b
 rintro a0 b;try dsimp only at b
 unfold C2 at b;refine af ?_;obtain⟨F,az,b⟩:=bO b;refine sH (de rfl rfl (yq az _ aI aI)) rfl ?_;refine hq ((H.set g (some (.tok 1 F.2.2.cW.l.length (some 5)))).set i (some (.dz 130 (bT.cg i (some g) F.2.2)))) ?_;refine nil ?_;refine af ?_;obtain⟨a1,aA,b⟩:=bO b;refine sH (de rfl rfl (TD aA _ aI aI)) rfl ?_;refine hq H ?_
 refine S As (nil ?_);exact rt b
theorem Jl:∀(n:Nat),(C6 (ak:=ak) n)
 | 0=>fun b=>by first|cases b|(rw [jF] at b; cases b)
 | n+1=>TE n (Jl n)
def Jm (b:(Sl aj)):Option Bs:=jF F0 b
theorem TF {b:Sl aj}{w0:Option Nat}{r:Bs}(f:Jm b=some r) (H:ah) :AC Tryz.prog 37 [.d (Sl.d 9 aj.c w0 b)] H fun v h'=>v=.a (.d (.str r))/\h'=H:=(Jl F0) f H 
section
variable [jO ak]
def C7 (j:cK)  (b:Bs):Option Bs:=(cR b ([32]:Bs)).bind fun f=>(Jm j.bE).bind fun g=>(cR f g).bind fun i=>some i
def C8 (b:cK):Option Bs:=(yc b.an).bind fun i=>(qN b.an).bind fun f=>bif (!(f==([]:Bs))) then((Jf f).bind fun g=>C7 b  g) else(none)
theorem TG {f:cK}{oT:Ab.Obj}{gT:Nat}{r:Bs}(b:C8 f=some r) (H:ah) (s:H gT=some oT) (t:fP Tryz.prog oT):AC Tryz.prog 12 [.agg (cK.c f)] H fun v h'=>v=.a (.d (.str r))/\h'=H:=by
 unfold C8 at b;refine AC.oW 21 [.tmp 2] Tryz.call12 Tryz.func12 ?_;refine af (S BX (S As (nil ?_)));refine af (S Fv (S Ld ?_));obtain⟨u,g,b⟩:=bO b;refine s0 (gN rfl rfl (IW (gT:=gT) (oT:=oT) g _ aI (by assumption))) rfl ?_;refine S As (nil ?_);refine aT (TA 1 kN) (fun(z:Bs)=>[(3,.a (.d (.str z)))]) (fun z=>H) (fun z=>C7 f z=some r) ?_ ?_
 ·intro w i;refine af (S Fv (S Ld ?_));obtain⟨x,j,b⟩:=bO b;refine Sc rfl rfl (xJ j) ?_;refine S As (nil ?_);refine af (S Mv (S BS (nil ?_)));refine cE b (fun k b=>?_) (fun k b=>?_)
  ·refine region ?_;refine S Mv ?_;obtain⟨l,m,b⟩:=bO b;refine Sc rfl rfl (Tv m) ?_;refine S As (nil ?_);exact i _ l wA b
  cases b
 rintro y b;try dsimp only at b
 unfold C7 at b;refine af (S Mv ?_);obtain⟨B,o,b⟩:=bO b;refine s0 (ez rfl rfl o) rfl ?_;refine S Fv (S Ld ?_);obtain⟨C,p,b⟩:=bO b;refine Sc rfl rfl (TF p) ?_;obtain⟨E,q,b⟩:=bO b;refine s0 (ez rfl rfl q) rfl ?_;refine S As (nil ?_);exact rt b
end
def C9  :Option Bool:=some true
def yu (f:(Sl aj)) (g:(Sl aj)) (i:(aj->aj->Option Bool)) :Nat->Nat->Option Bool
 | 0,_=>none
 | j+1,b=>bif (decide (((b:Nat):Int)<((f.l.length:Nat):Int))) then((f.l[b]?).bind fun k=>(g.l[b]?).bind fun m=>(i k m).bind fun o=>bif (!o) then(none) else((yu f g i j) (b+1))) else(C9   )
def C_ (b:(Sl aj)) (f:(Sl aj)) (g:(aj->aj->Option Bool)):Option Bool:=bif (!decide (((b.l.length:Nat):Int)=((f.l.length:Nat):Int))) then(none) else(yu b f g (b.l.length+1) 0)
theorem TH {g i:Sl aj}{o:aj->aj->Option Bool}{w0 y:Option Nat}{p:List D}{k2:Nat}{r:Bool}(b:C_ g i o=some r) (H:ah) (B:∀q t r,o q t=some r->∀H,AC Tryz.prog k2 ([.agg (aj.c q),.agg (aj.c t)]++p.map A.d) H fun v h'=>v=.a (.d (.bool r))/\h'=H):AC Tryz.prog 40 [.d (Sl.d 9 aj.c w0 g),.d (Sl.d 9 aj.c y i),.d (.func k2 p)] H fun v h'=>v=.a (.d (.bool r))/\h'=H:=by
 unfold C_ at b;refine AC.oW 32 [.tmp 6] Tryz.call40 Tryz.func40 ?_;refine af (S As (nil ?_));refine ay fun C u=>?_;refine af (S Mv ?_);refine sLen (f:=aj.c) (s:=g) (TK rfl) rfl rfl rfl rfl fun O=>?_;refine S Mv ?_;refine sLen (f:=aj.c) (s:=i) (TK rfl) rfl rfl rfl rfl fun P=>?_;refine S BI (nil ?_);refine cE b (fun E b=>?_) (fun E b=>?_)
 ·cases b
 refine sk u ?_;clear u C;refine aT kN (fun(z:Unit)=>[]) (fun z=>H) (fun z=>C9 =some r) ?_ ?_
 ·intro Q F;refine af (S Mv ?_);refine sLen (f:=aj.c) (s:=g) (TK rfl) rfl rfl rfl rfl fun R=>?_;refine S Mv (nil ?_);refine block ?_;refine bx (TA 1 (TA 2 (TA 15 (TA 16 kN)))) (fun(z:Nat×Nat)=>[(17,.a (.d (.int .i64 ((z.2:Nat):Int))))]) (fun z=>H) (fun z=>z.1) (fun z=>yu g i o z.1 z.2=some r) ((g.l.length+1),0) b wA ?_;rintro ⟨j,k⟩ b U G;try dsimp only at b
  cases j with
  | zero=>cases b
  | succ j =>
    rw [yu] at b;refine af (S BI (nil ?_));refine ay fun I w=>?_;refine cE b (fun m b=>?_) (fun m b=>?_)
    ·try dsimp only at m
     have W:=oD m;refine sk w ?_;clear w I;refine ay fun J x=>?_;refine block ?_;refine af (S Mv ?_);obtain⟨X,K,b⟩:=bO b;refine S (ix aj.c k K) (S Ld ?_);refine Sl ?_;refine S As ?_;refine Sf ?_;refine nil ?_;refine bu 8 _ rfl (KA 1 (KA 2 (KA 7 (KA 15 (KA 16 (KA 17 aS.nil)))))) ?_;refine af (S Mv (S Mv ?_));obtain⟨Y,L,b⟩:=bO b;refine S (ix aj.c k L) (S Ld ?_)
     refine Sl ?_;refine Sf ?_;refine nil ?_;refine bu 9 _ rfl (KA 1 (KA 2 (KA 8 (KA 15 (KA 16 (KA 17 aS.nil)))))) ?_;refine af (S Mv (S Ld (S Ld ?_)));obtain⟨Z,M,b⟩:=bO b;refine s0 (en rfl rfl (B _ _ _ M)) rfl ?_;refine S NB (nil ?_);refine cE b (fun N b=>?_) (fun N b=>?_)
     ·cases b
     refine sk x ?_;clear x J;refine region ?_;refine SI ?_;refine S Mv (nil ?_);exact G _ (j,(k+1)) wA b (nS _)
    refine ag.exit ?_;exact F _ () wA b
 rintro _ b;try dsimp only at b
 unfold C9 at b;refine af (S As (nil ?_));exact rt b
def C'  :Option Bool:=some true
def Da (f:(Sl aD)) :Nat->Nat->Option Bool
 | 0,_=>none
 | g+1,b=>bif (decide (((b:Nat):Int)<((f.l.length:Nat):Int))) then(none) else(C'   )
def Db (b:(Sl aD)) (f:(Sl aD)) (g:(aD->aD->Option Bool)):Option Bool:=bif (!decide (((b.l.length:Nat):Int)=((f.l.length:Nat):Int))) then(none) else(Da b (b.l.length+1) 0)
theorem TJ {g j:Sl aD}{t:aD->aD->Option Bool}{w0 u:Option Nat}{k:List D}{k2:Nat}{r:Bool}(b:Db g j t=some r) (H:ah) (B:∀m o r,t m o=some r->∀H,AC Tryz.prog k2 ([.agg (aD.c m),.agg (aD.c o)]++k.map A.d) H fun v h'=>v=.a (.d (.bool r))/\h'=H):AC Tryz.prog 43 [.d (Sl.d 6 aD.c w0 g),.d (Sl.d 6 aD.c u j),.d (.func k2 k)] H fun v h'=>v=.a (.d (.bool r))/\h'=H:=by
 unfold Db at b;refine AC.oW 32 [.tmp 6] Tryz.call43 Tryz.func43 ?_;refine af (S As (nil ?_));refine ay fun w p=>?_;refine af (S Mv ?_);refine sLen (f:=aD.c) (s:=g) (TK rfl) rfl rfl rfl rfl fun C=>?_;refine S Mv ?_;refine sLen (f:=aD.c) (s:=j) (TK rfl) rfl rfl rfl rfl fun E=>?_;refine S BI (nil ?_);refine cE b (fun x b=>?_) (fun x b=>?_)
 ·cases b
 refine sk p ?_;clear p w;refine aT kN (fun(z:Unit)=>[]) (fun z=>H) (fun z=>C' =some r) ?_ ?_
 ·intro F y;refine af (S Mv ?_);refine sLen (f:=aD.c) (s:=g) (TK rfl) rfl rfl rfl rfl fun G=>?_;refine S Mv (nil ?_);refine block ?_;refine bx (TA 1 (TA 2 (TA 15 (TA 16 kN)))) (fun(z:Nat×Nat)=>[(17,.a (.d (.int .i64 ((z.2:Nat):Int))))]) (fun z=>H) (fun z=>z.1) (fun z=>Da g z.1 z.2=some r) ((g.l.length+1),0) b wA ?_;rintro ⟨q,I⟩ b J K;try dsimp only at b
  cases q with
  | zero=>cases b
  | succ q =>
    rw [Da] at b;refine af (S BI (nil ?_));refine ay fun L M=>?_;refine cE b (fun i b=>?_) (fun i b=>?_)
    ·try dsimp only at i
     have N:=oD i;cases b
    refine ag.exit ?_;exact y _ () wA b
 rintro _ b;try dsimp only at b
 unfold C' at b;refine af (S As (nil ?_));exact rt b
def Jn (b:aD) (f:aD):Option Bool:=aN (((b.ai==f.ai))) (pz b.eU f.eU) false fun g=>some (((b.ai==f.ai))&&g)
def Dc (b:aD) (f:aD):Option Bool:=Jn b f
theorem TL {f g:aD}{r:Bool}(b:Dc f g=some r) (H:ah) :AC Tryz.prog 44 [.agg (aD.c f),.agg (aD.c g)] H fun v h'=>v=.a (.d (.bool r))/\h'=H:=by
 unfold Dc Jn at b;refine AC.oW 17 [.tmp 4] Tryz.call44 Tryz.func44 ?_;refine af (S BX (S BX (S As (nil ?_))));refine af (S Fv (S Ld (S Fv (S Ld (S BS (S Mv (G0 Fv ?_)))))));refine G1 11 rfl Ld ?_;refine G0 Fv ?_;refine G1 13 rfl Ld ?_;obtain⟨j,i,b⟩:=dx (IF _ _) b;refine fI 12 14 rfl rfl rfl rfl rfl rfl (fun hC=>IG (i hC)) ?_;refine S PA (S As (nil ?_));exact rt b
mutual
def vC:Nat->(Sl aj)->(Sl aj)->Option Bool
 | 0,_,_=>none
 | n+1,i,j=>(C_ i j (fun b f=>(yw n) b f)).bind fun g=>some g
def yw:Nat->aj->aj->Option Bool
 | 0,_,_=>none
 | n+1,b,f=>aN (!(((((!(b.bF==f.bF))||(!(b.bR==f.bR)))||(!(b.ai==f.ai)))||(!(b.eO==f.eO)))||(!decide (b.dR=f.dR)))) (xL b.aJ f.aJ) false fun i=>bif ((((((!(b.bF==f.bF))||(!(b.bR==f.bR)))||(!(b.ai==f.ai)))||(!(b.eO==f.eO)))||(!decide (b.dR=f.dR)))||(!i)) then(none) else(((vC n) b.bE f.bE).bind fun g=>aN (g) (Db b.aO f.aO Dc) false fun j=>some (g&&j))
end
def yx (n:Nat):Prop:=∀{a0:(Sl aj)}{a1:(Sl aj)}{w0:Option Nat}{b:Option Nat}  {r:Bool},vC n a0 a1=some r->∀(H:ah),AC Tryz.prog 14 [.d (Sl.d 9 aj.c w0 a0),.d (Sl.d 9 aj.c b a1)] H fun v h'=>v=.a (.d (.bool r))/\h'=H
def yy (n:Nat):Prop:=∀{a0:aj}{a1:aj}   {r:Bool},yw n a0 a1=some r->∀(H:ah),AC Tryz.prog 41 [.agg (aj.c a0),.agg (aj.c a1)] H fun v h'=>v=.a (.d (.bool r))/\h'=H
theorem TM (n:Nat) (j:yx (ak:=ak) n) (f:yy (ak:=ak) n):yx (ak:=ak) (n+1):=by
 intro m o w0 k  r b H ;rw [vC] at b;refine AC.oW 8 [.tmp 4] Tryz.call14 Tryz.func14 ?_;refine af (S As (nil ?_));refine af (S Mv (S Mv ?_));obtain⟨l,g,b⟩:=bO b;refine s0 (en rfl rfl (fun H=>TH g H (fun _ _ _ i=>f i))) rfl ?_;refine S As (nil ?_);exact rt b
theorem TN (n:Nat) (g:yx (ak:=ak) n) (q:yy (ak:=ak) n):yy (ak:=ak) (n+1):=by
 intro v w   r b H ;rw [yw] at b;refine AC.oW 58 [.tmp 4] Tryz.call41 Tryz.func41 ?_;refine af (S BX (S BX (S As (nil ?_))));refine ay fun i f=>?_;refine af (S Fv (S Ld (S Fv (S Ld (S BS (S Mv (G0 Fv ?_)))))));refine G1 11 rfl Ld ?_;refine G0 Fv ?_;refine G1 13 rfl Ld ?_;refine G2 12 14 rfl rfl BS ?_;refine S PO (S Mv (G0 Fv ?_));refine G1 18 rfl Ld ?_;refine G0 Fv ?_;refine G1 20 rfl Ld ?_
 refine G2 19 21 rfl rfl BS ?_;refine S PO (S Mv (G0 Fv ?_));refine G1 25 rfl Ld ?_;refine G0 Fv ?_;refine G1 27 rfl Ld ?_;refine G2 26 28 rfl rfl BS ?_;refine S PO (S Mv (G0 Fv ?_));refine G1 32 rfl Ld ?_;refine G0 Fv ?_;refine G1 34 rfl Ld ?_;refine G2 33 35 rfl rfl BI ?_;refine S PO (S Mv (G0 Fv ?_));refine G1 39 rfl Ld ?_;refine G0 Fv ?_;refine G1 41 rfl Ld ?_;obtain⟨s,j,b⟩:=gO b;refine fI 40 42 rfl rfl rfl rfl rfl rfl (fun hC=>B5 (j hC)) ?_
 refine G1 43 rfl NB ?_;refine S PO (nil ?_);refine cE b (fun l b=>?_) (fun l b=>?_)
 ·cases b
 refine sk f ?_;clear f i;refine af (S Fv ?_);refine s0 (bS (TK rfl) rfl rfl (congrArg (fun x=>some (A.d x)) (aj.gG _))) rfl ?_;refine S Fv ?_;refine s0 (bS (TK rfl) rfl rfl (congrArg (fun x=>some (A.d x)) (aj.gG _))) rfl ?_;obtain⟨t,m,b⟩:=bO b;refine Sc rfl rfl (g m) ?_;refine S Mv (G0 Fv ?_);refine G1 52 rfl Ld ?_;refine G0 Fv ?_;refine G1 54 rfl Ld ?_;obtain⟨u,o,b⟩:=gO b
 refine gC rfl rfl (fun hC=>aG (k:=53) rfl (aG (k:=55) rfl (en rfl rfl (fun H=>TJ (o hC) H (fun _ _ _ p=>TL p))))) rfl ?_;refine S PA (S As (nil ?_));exact rt b
theorem vD:∀(n:Nat),(yx (ak:=ak) n)/\(yy (ak:=ak) n)
 | 0=>⟨fun b=>by first|cases b|(rw [vC] at b; cases b),fun b=>by first|cases b|(rw [yw] at b; cases b)⟩
 | n+1=>⟨TM n (vD n).1 (vD n).2,TN n (vD n).1 (vD n).2⟩
def Jo (a0:(Sl aj)) (a1:(Sl aj)):Option Bool:=vC F0 a0 a1
theorem TO {b f:Sl aj}{w0 g:Option Nat}{r:Bool}(i:Jo b f=some r) (H:ah) :AC Tryz.prog 14 [.d (Sl.d 9 aj.c w0 b),.d (Sl.d 9 aj.c g f)] H fun v h'=>v=.a (.d (.bool r))/\h'=H:=(vD F0).1 i H 
section
variable [jO ak]
-- @uses supergraph/normal.Right
def Dd (b:Sl aj):Option Int:=(gj F0 (1:Int) b.l).bind fun xs=>if xs.length<=4611686018427387904 then some ((xs.length:Nat):Int) else none
theorem TP {j:J}{w:World}{s:Sl aj}{v:Value}{xs:List Int}(Z:gj F0 (1:Int) s.l=some xs) (aH:xs.length<=4611686018427387904) (hr:dJ j w gX) (hv:aB j w (Sl.d 9 aj.c none s) v) :
  Calls Tryz.prog 15 #[v] w fun e w'=>e=.returned (.int .i64 ((xs.length:Nat):Int))/\RowKit.Below w.heap.size w w':=by
 refine(callsIn_wide (n:=3)).1 (callsIn_of_wp_marks Tryz.func15 rfl trivial ?_ rfl);have aa:=rS (fn:=Tryz.f15) (n:=11) rfl (args:=[.d (Sl.d 9 aj.c none s)]) (cF:=[v]) rfl hr (.cons hv .nil);refine ag.lM (ak:=bf.on) aa fun K g=>?_;refine region ?_;refine S As ?_;refine nil ⟨rfl,g _ fun aJ aK aL a1 ab ad=>?_⟩;clear g K;refine ag.lM (ak:=bf.on) ab fun K g=>?_;refine region ?_
 refine Sl ?_;refine Sf ?_;refine nil ⟨rfl,g _ fun aM aN aO a2 ae af=>?_⟩;clear g K;refine wpIn_seq ?_;refine ag.lM (ak:=bf.on) ae fun K g=>?_;refine region ?_;refine S Mv ?_;refine s0 (en rfl rfl (fun H=>I7 s 1 H)) rfl ?_;refine nil ⟨rfl,g _ fun I q ai a3 G al=>?_⟩;clear g K;have N:=(ad.trans af).trans al;have O:RowKit.Below w.heap.size w q:=N.below fun b=>wI
 refine wpIn_block ?_;obtain⟨p,cs,u,am,Q,R,an,ao⟩:=G.loc (t:=3) (i:=0) rfl rfl;have ap:cs=[.int .i64 0]:=by
  cases an with
  | cons h ht=>cases ht; cases h; rfl
 subst ap;have aq:w.heap.size<=p:=N.fresh (fun b=>wI) (.inl (List.mem_of_getElem? am));have au:p<q.heap.size:=fO R;have av:∃c1 c2,a3.eval (.tmp 5)=.func (.func 59) #[] #[c1,c2]/\aB I q (.view [Sl.d 9 aj.c none s]) c1/\aB I q (.view [.int .i64 1]) c2:=by
  have h1:aX I q ai (.a (.d (.func 59 [.view [Sl.d 9 aj.c none s],.view [.int .i64 1]]))) (a3.eval (.tmp 5)):=G.tmps 5;generalize a3.eval (.tmp 5)=x at h1;have M:aB I q (.func 59 [.view [Sl.d 9 aj.c none s],.view [.int .i64 1]]) x:=h1;cases M with
  | func _ _ gK hl hr =>
   match gK,hl with
   | [c1,c2],_=>exact⟨c1,c2,rfl,hr 0 (by simp) (by simp),hr 1 (by simp) (by simp)⟩
 obtain⟨c1,c2,aw,ax,ay⟩:=av;have z:a3.tmps.size=11:=G.size;refine wpIn_rangeFunc_ownF rfl (Nat.le_add_left 1 2) aw trivial (fun _ _=>Tryz.call59 _ _)
  (I6 (C:=[p]) G.hl.1.fresh Z ax ay (by simp; exact⟨au,ao⟩) 2) (fun h k=>h.trans k) (fun W l o o' _ h1 M _=>.put W l o o' h1 M) (RowKit.Below.refl _ _) (fun _=>rfl)
  (fun pre W=>(∃u,W.heap[p]?=some (.cells #[.int .i64 ((pre.length:Nat):Int)] u (0,0)))/\fW [p] q W) (fun _ _ _=>False)
  (fun pre A B row U X hr=>⟨U.1.imp fun u h=>(X.block p (fO h) (fun e=>by have:=(hr p e.symm).1; omega)).trans h,U.2.grown X fun r e=>(hr r e).1⟩)
  (fun _ _ _ _ _ h _ _=>h) ⟨⟨u,R⟩,.refl _ _⟩ (fun x=>{ tmps:=(a3.tmps.setIfInBounds 6 (.int .i64 x.1)).setIfInBounds 7 x.2,defers:=[] }) ?_ ?_ ?_ ?_
 ·intro l x W K g;refine wpIn_skip ?_;show K _ W
  simpa using g
 ·rintro l pre x W ⟨⟨u,E⟩,hu⟩ hlen;refine wpIn_block (wpIn_region_lit ?_);have t3:({ tmps:=(a3.tmps.setIfInBounds 6 (.int .i64 x.1)).setIfInBounds 7 x.2,defers:=[] }:Act).tmps[3]?=some (.pointer (some ⟨p,0,none⟩)):=by simp [Array.getElem?_setIfInBounds]; exact Q
  have F:∀f,(Fence.wide.inRound l).fn f:=fun _=>trivial;refine jP F rfl (by simp) (wM (TK rfl) rfl rfl (fQ t3) E (d:=.int .i64 ((pre.length:Nat):Int)) (fun Y=>⟨fun h=>(by cases h; rfl),fun h=>(by subst h; exact .int _ _)⟩)) ?_;refine jP F rfl (by simp) (wN (m:=((pre.length:Nat):Int)) (n:=1) (r:=.int .i64 (((pre.length+1:Nat)):Int)) (v:=.int .i64 (((pre.length+1:Nat)):Int)) (k:=.i64) (fQ (by rw [iv _ (by simp [fR,z])]; rfl)) rfl (by simp only [ot,Option.some.injEq,D.int.injEq,true_and]; simp only [IntKind.wrap,IntKind.bits,IntKind.signed]; simp; omega) (fun Y h=>by cases h; rfl)) ?_
  obtain⟨W',az,L⟩:=z8 (P:=Tryz.prog) (t:=3) (a:=((({ tmps:=(a3.tmps.setIfInBounds 6 (.int .i64 x.1)).setIfInBounds 7 x.2,defers:=[] }:Act).put (some 8) (.int .i64 ((pre.length:Nat):Int))).put (some 9) (.int .i64 (((pre.length+1:Nat)):Int)))) (x:=.tmp 3) (y:=.tmp 9) (v:=.int .i64 (((pre.length+1:Nat)):Int)) (TK rfl) rfl (fQ (by rw [iv _ (by simp [fR,z]),if_neg (by decide),iv _ (by simp [fR,z]),if_neg (by decide)]; exact t3)) (fQ (by rw [iv _ (by simp [fR,z])]; rfl)) E (.int _ _)
  refine zZ F rfl (by simp) az ?_;refine wpListIn_nil ⟨L.z_ E rfl,L.keep (by simp),⟨u, ?_⟩,hu.Gk L (by simp)⟩;rw [L.here]; simp
 ·rintro D aA W aP aC ⟨⟨u,E⟩,hu⟩ g;show Code.wpIn _ _ _ _ _ _ _;refine wpIn_seq (wpIn_region_lit ?_);have F:∀f,Fence.wide.fn f:=fun _=>trivial;have aD:a3.defers=[]:=G.defers;have aE:aA.length=xs.length:=by rw [<- aC,List.length_map]
  rw [aE] at E;refine jP F rfl (by simp) (wM (TK rfl) rfl rfl (fQ Q) E (d:=.int .i64 ((xs.length:Nat):Int)) (fun Y=>⟨fun h=>(by cases h; rfl),fun h=>(by subst h; exact .int _ _)⟩)) ?_;refine jP F rfl (by simp) (run_assign (v:=.int .i64 ((xs.length:Nat):Int)) (fQ (by rw [iv _ (by simp [z])]; rfl))) ?_;refine wpListIn_nil ?_;show Code.wpIn _ _ _ _ _ _ _;refine wpIn_ret ?_
  show LeavesInM _ _ _ _ _ _ _ _ _;rw [put_defers,put_defers];show LeavesInM _ _ _ _ _ _ ({ target:=.collected D,args:=#[] }::a3.defers) _ _;rw [aD];refine⟨by simp,.inl ⟨_,_,rfl,run_takeDeferred g, ?_⟩⟩;refine⟨_,results_tmp rfl _ _ _, ?_, ?_⟩
  ·have aF:((Act.put (Act.put { a3 with defers:={ target:=.collected D,args:=#[] }::a3.defers } (some 10) (.int .i64 ((xs.length:Nat):Int))) (some 2) (.int .i64 ((xs.length:Nat):Int))).tmps)[2]?=some (.int .i64 ((xs.length:Nat):Int)):=by rw [iv _ (by simp [fR,z])]; rfl
   have aG:=fQ aF;exact congrArg Ending.returned aG
  have hB:=hu.below O (by simp; exact aq);refine hB.grown (grownBy_putObj' W D (.deferred none)) hB.size (fun k e=>by cases e; have:=O.size; omega)
 rintro D c pre W _ _ h _;exact h.elim
set_option maxRecDepth 100000 in
theorem TQ {f:Sl aj}{w0:Option Nat}{r:Int}(b:Dd f=some r) (H:ah):AC Tryz.prog 15 [.d (Sl.d 9 aj.c w0 f)] H fun v h'=>v=.a (.d (.int .i64 r))/\h'=H:=by
 unfold Dd at b;obtain⟨xs,i,b⟩:=Option.bind_eq_some_iff.1 b
 split at b
 case isFalse=>cases b
 rename_i k
 obtain rfl:=oJ b;refine⟨fun _ _=>Tryz.call15 _ _,fun j w c hr g=>?_⟩;cases g with
 | cons q g =>
 cases g;have h1:aB j w (.slice 9 w0 f.nl (f.l.map aj.c)) _:=q;refine(TP i k (wH hr.fresh).1 h1.Gl).mono ?_;rintro e w' ⟨rfl,m⟩;have hl:HL j w [] [] H:=⟨hr,⟨.nil,by simp,by simp⟩⟩;obtain⟨o,p⟩:=hl.below (ak:=ak) m;exact⟨_,_,j,H,rfl,⟨rfl,rfl⟩,aB.int _ _,o.1,p⟩
end
def De  :Option Bool:=some true
def Df (f:(Sl iy)) :Nat->Nat->Option Bool
 | 0,_=>none
 | g+1,b=>bif (decide (((b:Nat):Int)<((f.l.length:Nat):Int))) then(none) else(De   )
def Dg (b:(Sl iy)) (f:(Sl iy)):Option Bool:=bif (!decide (((b.l.length:Nat):Int)=((f.l.length:Nat):Int))) then(none) else(Df b (b.l.length+1) 0)
theorem TR {g j:Sl iy}{w0 o:Option Nat}{r:Bool}(b:Dg g j=some r) (H:ah) :AC Tryz.prog 46 [.d (Sl.d 9 iy.c w0 g),.d (Sl.d 9 iy.c o j)] H fun v h'=>v=.a (.d (.bool r))/\h'=H:=by
 unfold Dg at b;refine AC.oW 69 [.tmp 4] Tryz.call46 Tryz.func46 ?_;refine af (S As (nil ?_));refine ay fun p k=>?_;refine af (S Mv ?_);refine sLen (f:=iy.c) (s:=g) (TK rfl) rfl rfl rfl rfl fun u=>?_;refine S Mv ?_;refine sLen (f:=iy.c) (s:=j) (TK rfl) rfl rfl rfl rfl fun w=>?_;refine S BI (nil ?_);refine cE b (fun q b=>?_) (fun q b=>?_)
 ·cases b
 refine sk k ?_;clear k p;refine aT kN (fun(z:Unit)=>[]) (fun z=>H) (fun z=>De =some r) ?_ ?_
 ·intro x t;refine af (S As (nil ?_));refine block ?_;refine bx (TA 0 (TA 1 kN)) (fun(z:Nat×Nat)=>[(5,.a (.d (.int .i64 ((z.2:Nat):Int))))]) (fun z=>H) (fun z=>z.1) (fun z=>Df g z.1 z.2=some r) ((g.l.length+1),0) b wA ?_;rintro ⟨m,y⟩ b B C;try dsimp only at b
  cases m with
  | zero=>cases b
  | succ m =>
    rw [Df] at b;refine ay fun E F=>?_;refine af (S Mv (S Mv ?_));refine sLen (f:=iy.c) (s:=g) (TK rfl) rfl rfl rfl rfl fun G=>?_;refine S BI (nil ?_);refine cE b (fun i b=>?_) (fun i b=>?_)
    ·try dsimp only at i
     have I:=oD i;cases b
    refine ag.exit ?_;exact t _ () wA b
 rintro _ b;try dsimp only at b
 unfold De at b;refine af (S As (nil ?_));exact rt b
end Go.Proofs
namespace Go.Proofs
open Go Go.Ab
open aQ ar ag aS dY
variable {ak:bf}
def Di  :Option Bool:=some true
def Dj (f:(Sl aD)) :Nat->Nat->Option Bool
 | 0,_=>none
 | g+1,b=>bif (decide (((b:Nat):Int)<((f.l.length:Nat):Int))) then(none) else(Di   )
def Dk (b:(Sl aD)) (f:(Sl aD)):Option Bool:=bif (!decide (((b.l.length:Nat):Int)=((f.l.length:Nat):Int))) then(none) else(Dj b (b.l.length+1) 0)
theorem TS {g j:Sl aD}{w0 o:Option Nat}{r:Bool}(b:Dk g j=some r) (H:ah) :AC Tryz.prog 85 [.d (Sl.d 6 aD.c w0 g),.d (Sl.d 6 aD.c o j)] H fun v h'=>v=.a (.d (.bool r))/\h'=H:=by
 unfold Dk at b;refine AC.oW 42 [.tmp 4] Tryz.call85 Tryz.func85 ?_;refine af (S As (nil ?_));refine ay fun p k=>?_;refine af (S Mv ?_);refine sLen (f:=aD.c) (s:=g) (TK rfl) rfl rfl rfl rfl fun u=>?_;refine S Mv ?_;refine sLen (f:=aD.c) (s:=j) (TK rfl) rfl rfl rfl rfl fun w=>?_;refine S BI (nil ?_);refine cE b (fun q b=>?_) (fun q b=>?_)
 ·cases b
 refine sk k ?_;clear k p;refine aT kN (fun(z:Unit)=>[]) (fun z=>H) (fun z=>Di =some r) ?_ ?_
 ·intro x t;refine af (S As (nil ?_));refine block ?_;refine bx (TA 0 (TA 1 kN)) (fun(z:Nat×Nat)=>[(5,.a (.d (.int .i64 ((z.2:Nat):Int))))]) (fun z=>H) (fun z=>z.1) (fun z=>Dj g z.1 z.2=some r) ((g.l.length+1),0) b wA ?_;rintro ⟨m,y⟩ b B C;try dsimp only at b
  cases m with
  | zero=>cases b
  | succ m =>
    rw [Dj] at b;refine ay fun E F=>?_;refine af (S Mv (S Mv ?_));refine sLen (f:=aD.c) (s:=g) (TK rfl) rfl rfl rfl rfl fun G=>?_;refine S BI (nil ?_);refine cE b (fun i b=>?_) (fun i b=>?_)
    ·try dsimp only at i
     have I:=oD i;cases b
    refine ag.exit ?_;exact t _ () wA b
 rintro _ b;try dsimp only at b
 unfold Di at b;refine af (S As (nil ?_));exact rt b
def Dl  :Option Bool:=some true
def Dm (f:(Sl aL)) :Nat->Nat->Option Bool
 | 0,_=>none
 | g+1,b=>bif (decide (((b:Nat):Int)<((f.l.length:Nat):Int))) then(none) else(Dl   )
def Dn (b:(Sl aL)) (f:(Sl aL)):Option Bool:=bif (!decide (((b.l.length:Nat):Int)=((f.l.length:Nat):Int))) then(none) else(Dm b (b.l.length+1) 0)
theorem TT {g j:Sl aL}{w0 o:Option Nat}{r:Bool}(b:Dn g j=some r) (H:ah) :AC Tryz.prog 86 [.d (Sl.d 2 aL.c w0 g),.d (Sl.d 2 aL.c o j)] H fun v h'=>v=.a (.d (.bool r))/\h'=H:=by
 unfold Dn at b;refine AC.oW 42 [.tmp 4] Tryz.call86 Tryz.func86 ?_;refine af (S As (nil ?_));refine ay fun p k=>?_;refine af (S Mv ?_);refine sLen (f:=aL.c) (s:=g) (TK rfl) rfl rfl rfl rfl fun u=>?_;refine S Mv ?_;refine sLen (f:=aL.c) (s:=j) (TK rfl) rfl rfl rfl rfl fun w=>?_;refine S BI (nil ?_);refine cE b (fun q b=>?_) (fun q b=>?_)
 ·cases b
 refine sk k ?_;clear k p;refine aT kN (fun(z:Unit)=>[]) (fun z=>H) (fun z=>Dl =some r) ?_ ?_
 ·intro x t;refine af (S As (nil ?_));refine block ?_;refine bx (TA 0 (TA 1 kN)) (fun(z:Nat×Nat)=>[(5,.a (.d (.int .i64 ((z.2:Nat):Int))))]) (fun z=>H) (fun z=>z.1) (fun z=>Dm g z.1 z.2=some r) ((g.l.length+1),0) b wA ?_;rintro ⟨m,y⟩ b B C;try dsimp only at b
  cases m with
  | zero=>cases b
  | succ m =>
    rw [Dm] at b;refine ay fun E F=>?_;refine af (S Mv (S Mv ?_));refine sLen (f:=aL.c) (s:=g) (TK rfl) rfl rfl rfl rfl fun G=>?_;refine S BI (nil ?_);refine cE b (fun i b=>?_) (fun i b=>?_)
    ·try dsimp only at i
     have I:=oD i;cases b
    refine ag.exit ?_;exact t _ () wA b
 rintro _ b;try dsimp only at b
 unfold Dl at b;refine af (S As (nil ?_));exact rt b
def Dp  :Option Bool:=some true
def yz (j:(Sl a_)) (o:(Sl a_)) (k:(Sl a_)->(Sl a_)->Option Bool):Nat->Nat->Option Bool
 | 0,_=>none
 | p+1,g=>bif (decide (((g:Nat):Int)<((j.l.length:Nat):Int))) then((j.l[g]?).bind fun b=>(o.l[g]?).bind fun f=>aN (!((((!decide (b.an=f.an))||(!(b.gv==f.gv)))||(!(b.ai==f.ai)))||(!(b.bR==f.bR)))) (Dk b.aO f.aO) false fun i=>aN (!(((((!decide (b.an=f.an))||(!(b.gv==f.gv)))||(!(b.ai==f.ai)))||(!(b.bR==f.bR)))||(!i))) (Dn b.ck f.ck) false fun m=>aN (!((((((!decide (b.an=f.an))||(!(b.gv==f.gv)))||(!(b.ai==f.ai)))||(!(b.bR==f.bR)))||(!i))||(!m))) (k b.fN f.fN) false fun q=>bif (((((((!decide (b.an=f.an))||(!(b.gv==f.gv)))||(!(b.ai==f.ai)))||(!(b.bR==f.bR)))||(!i))||(!m))||(!q)) then(none) else((yz j o k p) (g+1))) else(Dp   )
def tP:Nat->(Sl a_)->(Sl a_)->Option Bool
 | 0,_,_=>none
 | n+1,b,f=>bif (!decide (((b.l.length:Nat):Int)=((f.l.length:Nat):Int))) then(none) else(yz b f (tP n) (b.l.length+1) 0)
def Dq (n:Nat):Prop:=∀{a0:(Sl a_)}{a1:(Sl a_)}{w0:Option Nat}{b:Option Nat}  {r:Bool},tP n a0 a1=some r->∀(H:ah),AC Tryz.prog 47 [.d (Sl.d 7 a_.c w0 a0),.d (Sl.d 7 a_.c b a1)] H fun v h'=>v=.a (.d (.bool r))/\h'=H
theorem TU (n:Nat) (u:Dq (ak:=ak) n):Dq (ak:=ak) (n+1):=by
 intro g t w0 M  r b H ;rw [tP] at b;refine AC.oW 77 [.tmp 4] Tryz.call47 Tryz.func47 ?_;refine af (S As (nil ?_));refine ay fun v o=>?_;refine af (S Mv ?_);refine sLen (f:=a_.c) (s:=g) (TK rfl) rfl rfl rfl rfl fun N=>?_;refine S Mv ?_;refine sLen (f:=a_.c) (s:=t) (TK rfl) rfl rfl rfl rfl fun O=>?_;refine S BI (nil ?_);refine cE b (fun w b=>?_) (fun w b=>?_)
 ·cases b
 refine sk o ?_;clear o v;refine aT kN (fun(z:Unit)=>[]) (fun z=>H) (fun z=>Dp =some r) ?_ ?_
 ·intro P y;refine af (S As (nil ?_));refine block ?_;refine bx (TA 0 (TA 1 kN)) (fun(z:Nat×Nat)=>[(5,.a (.d (.int .i64 ((z.2:Nat):Int))))]) (fun z=>H) (fun z=>z.1) (fun z=>yz g t (tP n) z.1 z.2=some r) ((g.l.length+1),0) b wA ?_;rintro ⟨i,j⟩ b Q B;try dsimp only at b
  cases i with
  | zero=>cases b
  | succ i =>
    rw [yz] at b;refine ay fun C p=>?_;refine af (S Mv (S Mv ?_));refine sLen (f:=a_.c) (s:=g) (TK rfl) rfl rfl rfl rfl fun R=>?_;refine S BI (nil ?_);refine cE b (fun m b=>?_) (fun m b=>?_)
    ·try dsimp only at m
     have U:=oD m;refine sk p ?_;clear p C;refine ay fun E q=>?_;refine block ?_;refine ag.bY (Sd Mv (Sd Mv ?_));obtain⟨W,F,b⟩:=bO b;refine Sd (ix a_.c j F) (Sd Ld (Sd Mv (Sd Mv ?_)));obtain⟨X,G,b⟩:=bO b;refine Sd (ix a_.c j G) (Sd Ld ?_);refine au.sB (TK rfl) rfl rfl ?_ (by repeat (first|exact bA.nil|apply bA.cons));refine au.sB (TK rfl) rfl rfl ?_ (by repeat (first|exact bA.nil|apply bA.cons))
     refine au.dh (dH (TK rfl) rfl rfl rfl rfl rfl) ?_;refine au.dh (dH (TK rfl) rfl rfl rfl rfl rfl) ?_;refine au.nil (by decide +kernel) ?_;refine bu 7 _ rfl (KA 0 (KA 1 (KA 5 (KA 6 aS.nil)))) ?_;refine bu 6 _ rfl (KA 0 (KA 1 (KA 5 (KA 7 aS.nil)))) ?_;refine af (S Fv (S Ld (S Fv (S Ld (S BI (S Mv (G0 Fv ?_)))))));refine G1 33 rfl Ld ?_;refine G0 Fv ?_;refine G1 35 rfl Ld ?_
     refine G2 34 36 rfl rfl BS ?_;refine S PO (S Mv (G0 Fv ?_));refine G1 40 rfl Ld ?_;refine G0 Fv ?_;refine G1 42 rfl Ld ?_;refine G2 41 43 rfl rfl BS ?_;refine S PO (S Mv (G0 Fv ?_));refine G1 47 rfl Ld ?_;refine G0 Fv ?_;refine G1 49 rfl Ld ?_;refine G2 48 50 rfl rfl BS ?_;refine S PO (S Mv (G0 Fv ?_));refine G1 54 rfl Ld ?_;refine G0 Fv ?_;refine G1 56 rfl Ld ?_;obtain⟨Y,I,b⟩:=gO b;refine fI 55 57 rfl rfl rfl rfl rfl rfl (fun hC=>TS (I hC)) ?_
     refine G1 58 rfl NB ?_;refine S PO (S Mv (G0 Fv ?_));refine G1 62 rfl Ld ?_;refine G0 Fv ?_;refine G1 64 rfl Ld ?_;obtain⟨Z,J,b⟩:=gO b;refine fI 63 65 rfl rfl rfl rfl rfl rfl (fun hC=>TT (J hC)) ?_;refine G1 66 rfl NB ?_;refine S PO (S Mv (G0 Fv ?_));refine gC rfl rfl (fun hC=>aG (k:=70) rfl (bS (TK rfl) rfl rfl (congrArg (fun x=>some (A.d x)) (a_.wU _)))) rfl ?_
     refine G0 Fv ?_;refine gC rfl rfl (fun hC=>aG (k:=72) rfl (bS (TK rfl) rfl rfl (congrArg (fun x=>some (A.d x)) (a_.wU _)))) rfl ?_;obtain⟨aa,K,b⟩:=gO b;refine fI 71 73 rfl rfl rfl rfl rfl rfl (fun hC=>u (K hC)) ?_;refine G1 74 rfl NB ?_;refine S PO (nil ?_);refine cE b (fun L b=>?_) (fun L b=>?_)
     ·cases b
     refine sk q ?_;clear q E;refine region ?_;refine S Mv ?_;refine SI ?_;refine S As (nil ?_);exact B _ (i,(j+1)) wA b (nS _)
    refine ag.exit ?_;exact y _ () wA b
 rintro _ b;try dsimp only at b
 unfold Dp at b;refine af (S As (nil ?_));exact rt b
theorem Jp:∀(n:Nat),(Dq (ak:=ak) n)
 | 0=>fun b=>by first|cases b|(rw [tP] at b; cases b)
 | n+1=>TU n (Jp n)
def Jq (b:(Sl a_)) (f:(Sl a_)):Option Bool:=tP F0 b f
theorem TV {b f:Sl a_}{w0 g:Option Nat}{r:Bool}(i:Jq b f=some r) (H:ah) :AC Tryz.prog 47 [.d (Sl.d 7 a_.c w0 b),.d (Sl.d 7 a_.c g f)] H fun v h'=>v=.a (.d (.bool r))/\h'=H:=(Jp F0) i H 
def Dr  :Option Bool:=some true
def Ds (f:dK) :Nat->Nat->Option Bool
 | 0,_=>none
 | g+1,b=>bif (decide (((b:Nat):Int)<((f.ng.l.length:Nat):Int))) then(none) else(Dr   )
def Dt (b:dK)  :Option Bool:=Ds b (b.ng.l.length+1) 0
def yA (i:dK) (k:dK) :Nat->Nat->Option Bool
 | 0,_=>none
 | m+1,g=>bif (decide (((g:Nat):Int)<((i.iQ.l.length:Nat):Int))) then((i.iQ.l[g]?).bind fun b=>(k.iQ.l[g]?).bind fun f=>aN (!((!decide (b.an=f.an))||(!(b.ai==f.ai)))) (Dg b.Ag f.Ag) false fun j=>aN (!(((!decide (b.an=f.an))||(!(b.ai==f.ai)))||(!j))) (Jq b.fN f.fN) false fun o=>bif ((((!decide (b.an=f.an))||(!(b.ai==f.ai)))||(!j))||(!o)) then(none) else((yA i k m) (g+1))) else(Dt i  )
def Du (b:dK) (f:dK):Option Bool:=bif ((!decide (((b.iQ.l.length:Nat):Int)=((f.iQ.l.length:Nat):Int)))||(!decide (((b.ng.l.length:Nat):Int)=((f.ng.l.length:Nat):Int)))) then(none) else(yA b f (b.iQ.l.length+1) 0)
theorem TW {g i:dK}{r:Bool}(b:Du g i=some r) (H:ah) :AC Tryz.prog 17 [.agg (dK.c g),.agg (dK.c i)] H fun v h'=>v=.a (.d (.bool r))/\h'=H:=by
 unfold Du at b;refine AC.oW 109 [.tmp 4] Tryz.call17 Tryz.func17 ?_;refine af (S BX (S BX (S As (nil ?_))));refine ay fun x q=>?_;refine af (S Fv (S Ld ?_));refine sLen (f:=fZ.c) (s:=g.iQ) (TK rfl) rfl rfl rfl rfl fun N=>?_;refine S Fv (S Ld ?_);refine sLen (f:=fZ.c) (s:=i.iQ) (TK rfl) rfl rfl rfl rfl fun O=>?_;refine S BI (S Mv (G0 Fv ?_));refine G1 19 rfl Ld ?_;refine gC rfl rfl (fun hC=>aG (k:=20) rfl (cZ (f:=Z7.c) (s:=g.ng) (TK rfl) rfl rfl rfl)) rfl ?_
 refine G0 Fv ?_;refine G1 22 rfl Ld ?_;refine gC rfl rfl (fun hC=>aG (k:=23) rfl (cZ (f:=Z7.c) (s:=i.ng) (TK rfl) rfl rfl rfl)) rfl ?_;refine G2 21 24 rfl rfl BI ?_;refine S PO (nil ?_);refine cE b (fun y b=>?_) (fun y b=>?_)
 ·cases b
 refine sk q ?_;clear q x;refine aT (TA 2 (TA 3 kN)) (fun(z:Unit)=>[]) (fun z=>H) (fun z=>Dt g =some r) ?_ ?_
 ·intro P B;refine af (S As (nil ?_));refine block ?_;refine bx (TA 2 (TA 3 kN)) (fun(z:Nat×Nat)=>[(5,.a (.d (.int .i64 ((z.2:Nat):Int))))]) (fun z=>H) (fun z=>z.1) (fun z=>yA g i z.1 z.2=some r) ((g.iQ.l.length+1),0) b wA ?_;rintro ⟨j,m⟩ b Q C;try dsimp only at b
  cases j with
  | zero=>cases b
  | succ j =>
    rw [yA] at b;refine ay fun E t=>?_;refine af (S Mv (S Fv (S Ld ?_)));refine sLen (f:=fZ.c) (s:=g.iQ) (TK rfl) rfl rfl rfl rfl fun R=>?_;refine S BI (nil ?_);refine cE b (fun o b=>?_) (fun o b=>?_)
    ·try dsimp only at o
     have U:=oD o;refine sk t ?_;clear t E;refine ay fun F u=>?_;refine block ?_;refine ag.bY (Sd Fv (Sd Ld (Sd Mv ?_)));obtain⟨W,G,b⟩:=bO b;refine Sd (ix fZ.c m G) (Sd Ld (Sd Fv (Sd Ld (Sd Mv ?_))));obtain⟨X,I,b⟩:=bO b;refine Sd (ix fZ.c m I) (Sd Ld ?_);refine au.sB (TK rfl) rfl rfl ?_ (by repeat (first|exact bA.nil|apply bA.cons))
     refine au.sB (TK rfl) rfl rfl ?_ (by repeat (first|exact bA.nil|apply bA.cons));refine au.dh (dH (TK rfl) rfl rfl rfl rfl rfl) ?_;refine au.dh (dH (TK rfl) rfl rfl rfl rfl rfl) ?_;refine au.nil (by decide +kernel) ?_;refine bu 7 _ rfl (KA 2 (KA 3 (KA 5 (KA 6 aS.nil)))) ?_;refine bu 6 _ rfl (KA 2 (KA 3 (KA 5 (KA 7 aS.nil)))) ?_;refine af (S Fv (S Ld (S Fv (S Ld (S BI (S Mv (G0 Fv ?_)))))))
     refine G1 50 rfl Ld ?_;refine G0 Fv ?_;refine G1 52 rfl Ld ?_;refine G2 51 53 rfl rfl BS ?_;refine S PO (S Mv (G0 Fv ?_));refine G1 57 rfl Ld ?_;refine G0 Fv ?_;refine G1 59 rfl Ld ?_;obtain⟨Y,J,b⟩:=gO b;refine fI 58 60 rfl rfl rfl rfl rfl rfl (fun hC=>TR (J hC)) ?_;refine G1 61 rfl NB ?_;refine S PO (S Mv (G0 Fv ?_));refine G1 65 rfl Ld ?_;refine G0 Fv ?_;refine G1 67 rfl Ld ?_
     obtain⟨Z,K,b⟩:=gO b;refine fI 66 68 rfl rfl rfl rfl rfl rfl (fun hC=>TV (K hC)) ?_;refine G1 69 rfl NB ?_;refine S PO (nil ?_);refine cE b (fun L b=>?_) (fun L b=>?_)
     ·cases b
     refine sk u ?_;clear u F;refine region ?_;refine S Mv ?_;refine SI ?_;refine S As (nil ?_);exact C _ (j,(m+1)) wA b (nS _)
    refine ag.exit ?_;exact B _ () wA b
 rintro _ b;try dsimp only at b
 unfold Dt at b;refine aT kN (fun(z:Unit)=>[]) (fun z=>H) (fun z=>Dr =some r) ?_ ?_
 ·intro aa M;refine af (S As (nil ?_));refine block ?_;refine bx (TA 2 (TA 3 kN)) (fun(z:Nat×Nat)=>[(8,.a (.d (.int .i64 ((z.2:Nat):Int))))]) (fun z=>H) (fun z=>z.1) (fun z=>Ds g z.1 z.2=some r) ((g.ng.l.length+1),0) b wA ?_;rintro ⟨w,ab⟩ b ad ae;try dsimp only at b
  cases w with
  | zero=>cases b
  | succ w =>
    rw [Ds] at b;refine ay fun ai aj=>?_;refine af (S Mv (S Fv (S Ld ?_)));refine sLen (f:=Z7.c) (s:=g.ng) (TK rfl) rfl rfl rfl rfl fun ak=>?_;refine S BI (nil ?_);refine cE b (fun p b=>?_) (fun p b=>?_)
    ·try dsimp only at p
     have al:=oD p;cases b
    refine ag.exit ?_;exact M _ () wA b
 rintro _ b;try dsimp only at b
 unfold Dr at b;refine af (S As (nil ?_));exact rt b
def Dv  (b:(Sl a_)):Option (Sl a_):=some b
def yB (g:(Sl aj)) (k:Bs) (i:aj->Option a_):Nat->(Sl a_)->Nat->Option (Sl a_)
 | 0,_,_=>none
 | m+1,j,b=>bif (decide (((b:Nat):Int)<((g.l.length:Nat):Int))) then((g.l[b]?).bind fun f=>bif (((f.bR==k))&&((f.eO==([]:Bs)))) then((i f).bind fun o=>(aZ 128 j (⟨false,[o]⟩:Sl a_)).bind fun p=>(yB g k i m) p (b+1)) else(none)) else(Dv   j)
def Dw  (b:a_):Option a_:=some b
def Dx (f:aj)  (b:a_):Option a_:=bif (!decide (f.dR=(-1:Int))) then(none) else(Dw   b)
def Dy (b:aj) :Nat->Nat->a_->Option a_
 | 0,_,_=>none
 | i+1,f,g=>bif (decide (((f:Nat):Int)<((b.aO.l.length:Nat):Int))) then(none) else(Dx b  g)
def Dz (b:aj)  (f:a_):Option a_:=Dy b (b.aO.l.length+1) 0 f
mutual
def vE:Nat->(Sl aj)->Bs->Option (Sl a_)
 | 0,_,_=>none
 | n+1,b,f=>yB b f (vF n) (b.l.length+1) (Sl.nil:Sl a_) 0
def vF:Nat->aj->Option a_
 | 0,_=>none
 | n+1,b=>((vE n) b.bE b.aJ.ai).bind fun f=>bif (!(b.bF==b.ai)) then(none) else(Dz b  (a_.mk (1:Int) ([]:Bs) b.ai ([]:Bs) (Sl.nil:Sl aD) (Sl.nil:Sl aL) f.nl f.l))
end
def yC (n:Nat):Prop:=∀{a0:(Sl aj)}{a1:Bs}{w0:Option Nat}  {r:(Sl a_)},vE n a0 a1=some r->∀(H:ah),AC Tryz.prog 48 [.d (Sl.d 9 aj.c w0 a0),.d (.str a1)] H fun v h'=>v=.a (.d (Sl.d 7 a_.c none r))/\h'=H
def yD (n:Nat):Prop:=∀{a0:aj}   {r:a_},vF n a0=some r->∀(H:ah),AC Tryz.prog 87 [.agg (aj.c a0)] H fun v h'=>v=.a (.agg (a_.c r))/\h'=H
theorem TX (n:Nat) (G:yC (ak:=ak) n) (t:yD (ak:=ak) n):yC (ak:=ak) (n+1):=by
 intro k F w0  r b H ;rw [vE] at b;refine AC.oW 88 [.tmp 4] Tryz.call48 Tryz.func48 ?_;refine ag.tok 7 fun g m=>?_;refine af ?_;refine s0 (fK (k':=7) rfl) rfl ?_;refine nil ?_;refine af (S As (nil ?_));refine ag.fU 5 7 g rfl aI ?_;refine aT kN (fun(z:(Sl a_))=>[(5,.a (.d (Sl.d 7 a_.c (some g) z)))]) (fun z=>(H.set g (some (.tok 7 z.l.length)))) (fun z=>Dv z=some r) ?_ ?_
 ·intro I u;refine af (S As (nil ?_));refine block ?_;refine bx (TA 0 (TA 1 kN)) (fun(z:Nat×(Sl a_)×Nat)=>[(5,.a (.d (Sl.d 7 a_.c (some g) z.2.1))),(6,.a (.d (.int .i64 ((z.2.2:Nat):Int))))]) (fun z=>(H.set g (some (.tok 7 z.2.1.l.length)))) (fun z=>z.1) (fun z=>yB k F (vF n) z.1 z.2.1 z.2.2=some r) ((k.l.length+1),(Sl.nil:Sl a_),0) b wA ?_;rintro ⟨i,v,o⟩ b J w
  try dsimp only at b
  cases i with
  | zero=>cases b
  | succ i =>
    rw [yB] at b;refine ay fun x p=>?_;refine af (S Mv (S Mv ?_));refine sLen (f:=aj.c) (s:=k) (TK rfl) rfl rfl rfl rfl fun K=>?_;refine S BI (nil ?_);refine cE b (fun j b=>?_) (fun j b=>?_)
    ·try dsimp only at j
     have L:=oD j;refine sk p ?_;clear p x;refine block ?_;refine af (S Mv (S Mv ?_));obtain⟨M,y,b⟩:=bO b;refine S (ix aj.c o y) (S Ld ?_);refine Sl ?_;refine Sf ?_;refine nil ?_;refine bu 7 _ rfl (KA 0 (KA 1 (KA 5 (KA 6 aS.nil)))) ?_;refine ay fun N O=>?_;refine af (S Fv (S Ld (S Mv (S BS (S Mv (G0 Fv ?_))))));refine G1 22 rfl Ld ?_;refine G1 23 rfl BS ?_
     refine S PA (nil ?_);refine cE b (fun B b=>?_) (fun B b=>?_)
     ·refine af (S Mv (S Ld ?_));obtain⟨P,C,b⟩:=bO b;refine Sc rfl rfl (t C) ?_;refine S BV ?_;obtain⟨q,E,b⟩:=bO b;refine SH (am a_.c (TK rfl) rfl (TK rfl) (TK rfl) E) ?_;refine hq (H.set g (some (.tok 7 q.l.length))) ?_;refine S As (nil ?_);refine af (S Mv ?_);refine SI ?_;refine S As (nil ?_);refine ag.exit ?_;exact w _ (i,q,(o+1)) wA b (nS _)
     cases b
    refine ag.exit ?_;exact u _ v wA b
 rintro Q b;try dsimp only at b
 unfold Dv at b;refine af (S Mv (S As (nil ?_)));refine ag.gb 4 rfl ?_;refine ag.ret ?_;repeat (first|refine bK ?_|refine bL ?_)
 obtain rfl:=oJ b;refine bz.bJ H rfl ⟨rfl,rfl⟩ ?_
 first|exact ah.cG m|(simp only [ah.set_set]; exact ah.cG m)
theorem TY (n:Nat) (v:yC (ak:=ak) n) (N:yD (ak:=ak) n):yD (ak:=ak) (n+1):=by
 intro k   r b H ;rw [vF] at b;refine AC.oW 56 [.cell 2 99] Tryz.call87 Tryz.func87 ?_;refine af (S BX ?_);refine Sl ?_;refine nil ?_;refine ag.bY (Sd Fv (Sd Ld (Sd Fv ?_)));refine au.s0 (bS (TK rfl) rfl rfl (congrArg (fun x=>some (A.d x)) (aj.gG _))) rfl ?_;refine Sd Fv (Sd Fv (Sd Ld ?_));obtain⟨m,y,b⟩:=bO b;refine cq rfl rfl (v y) ?_;refine Sd BU ?_;refine au.sB (TK rfl) rfl rfl ?_ (by repeat (first|exact bA.nil|apply bA.cons))
 refine au.dh (dH (TK rfl) rfl rfl rfl rfl rfl) ?_;refine au.nil (by decide +kernel) ?_;refine ag.dc 1 (a_.c (a_.mk (1:Int) ([]:Bs) k.ai ([]:Bs) (Sl.nil:Sl aD) (Sl.nil:Sl aL) m.nl m.l)) rfl (fun j w cs hh g=>by rw [a_.fM]; exact g) ?_;refine ag.tok 6 fun i p=>?_;refine ag.dc 1 (a_.cu (a_.mk (1:Int) ([]:Bs) k.ai ([]:Bs) (Sl.nil:Sl aD) (Sl.nil:Sl aL) m.nl m.l)) rfl (fun j w cs hh g=>by rw [<- a_.fM]; exact g) ?_
 refine ag.dc 1 _ rfl (fun j w cs hh g=>tok_cell 4 6 6 hh (t:=i) aI g rfl) ?_;refine eD (TA 1 (TA 2 (TA 3 kN))) (fun(z:a_)=>[]) (fun z=>[a_.c a_.zero,((bp .i64) z.an++aP z.gv++aP z.ai++aP z.bR++[Sl.d 6 aD.c (some i) z.aO]++(fun s=>[Sl.d 2 aL.c none s]) z.ck++(fun s=>[Sl.d 7 a_.c none s]) z.fN)]) (fun z=>(H.set i (some (.tok 6 z.aO.l.length)))) (fun z=>Dz k z=some r) ?_ ?_
 ·intro O B;refine af (S Fv (S Ld (S Fv (S Ld (S BS (nil ?_))))));refine cE b (fun C b=>?_) (fun C b=>?_)
  ·cases b
  refine ag.skip ?_;exact B _ (a_.mk (1:Int) ([]:Bs) k.ai ([]:Bs) (Sl.nil:Sl aD) (Sl.nil:Sl aL) m.nl m.l) wA b
 rintro E b;try dsimp only at b
 unfold Dz at b;refine eD (TA 1 (TA 2 (TA 3 kN))) (fun(z:a_)=>[]) (fun z=>[a_.c a_.zero,((bp .i64) z.an++aP z.gv++aP z.ai++aP z.bR++[Sl.d 6 aD.c (some i) z.aO]++(fun s=>[Sl.d 2 aL.c none s]) z.ck++(fun s=>[Sl.d 7 a_.c none s]) z.fN)]) (fun z=>(H.set i (some (.tok 6 z.aO.l.length)))) (fun z=>Dx k z=some r) ?_ ?_
 ·intro P F;refine af (S Fv (S Ld ?_));refine sLen (f:=aD.c) (s:=k.aO) (TK rfl) rfl rfl rfl rfl fun Q=>?_;refine S Mv (nil ?_);refine block ?_;refine gW (TA 1 (TA 2 (TA 3 (TA 24 (TA 25 kN))))) (fun(z:Nat×Nat×a_)=>[(26,.a (.d (.int .i64 ((z.2.1:Nat):Int))))]) (fun z=>[a_.c a_.zero,((bp .i64) z.2.2.an++aP z.2.2.gv++aP z.2.2.ai++aP z.2.2.bR++[Sl.d 6 aD.c (some i) z.2.2.aO]++(fun s=>[Sl.d 2 aL.c none s]) z.2.2.ck++(fun s=>[Sl.d 7 a_.c none s]) z.2.2.fN)]) (fun z=>(H.set i (some (.tok 6 z.2.2.aO.l.length)))) (fun z=>z.1) (fun z=>Dy k z.1 z.2.1 z.2.2=some r) ((k.aO.l.length+1),0,E) b wA ?_
  rintro ⟨q,R,G⟩ b U W;try dsimp only at b
  cases q with
  | zero=>cases b
  | succ q =>
    rw [Dy] at b;refine af (S BI (nil ?_));refine ay fun X Y=>?_;refine cE b (fun o b=>?_) (fun o b=>?_)
    ·try dsimp only at o
     have Z:=oD o;cases b
    refine ag.exit ?_;exact F _ G wA b
 rintro I b;try dsimp only at b
 unfold Dx at b;refine eD (TA 2 (TA 3 kN)) (fun(z:a_)=>[]) (fun z=>[a_.c a_.zero,((bp .i64) z.an++aP z.gv++aP z.ai++aP z.bR++[Sl.d 6 aD.c (some i) z.aO]++(fun s=>[Sl.d 2 aL.c none s]) z.ck++(fun s=>[Sl.d 7 a_.c none s]) z.fN)]) (fun z=>(H.set i (some (.tok 6 z.aO.l.length)))) (fun z=>Dw z=some r) ?_ ?_
 ·intro aa J;refine af (S Fv (S Ld (S BI (nil ?_))));refine cE b (fun K b=>?_) (fun K b=>?_)
  ·cases b
  refine ag.skip ?_;exact J _ I wA b
 rintro L b;try dsimp only at b
 unfold Dw at b;refine ay fun M u=>?_;refine ag.dc 1 _ rfl (fun j w cs hh g=>mU 4 g rfl) ?_;refine ag.dc 1 (a_.c L) rfl (fun j w cs hh g=>by rw [a_.fM]; exact g) ?_;refine region ?_;refine S LL ?_;refine Sf ?_;refine nil ?_;refine u _ ?_;clear u M;refine ag.ret ?_;repeat (first|refine bK ?_|refine bL ?_)
 obtain rfl:=oJ b;refine bz.bJ H rfl ⟨rfl,rfl⟩ ?_
 first|exact ah.cG p|(simp only [ah.set_set]; exact ah.cG p)
theorem vG:∀(n:Nat),(yC (ak:=ak) n)/\(yD (ak:=ak) n)
 | 0=>⟨fun b=>by first|cases b|(rw [vE] at b; cases b),fun b=>by first|cases b|(rw [vF] at b; cases b)⟩
 | n+1=>⟨TX n (vG n).1 (vG n).2,TY n (vG n).1 (vG n).2⟩
def Jr (a0:(Sl aj)) (a1:Bs):Option (Sl a_):=vE F0 a0 a1
theorem TZ {b:Sl aj}{f:Bs}{w0:Option Nat}{r:Sl a_}(g:Jr b f=some r) (H:ah) :AC Tryz.prog 48 [.d (Sl.d 9 aj.c w0 b),.d (.str f)] H fun v h'=>v=.a (.d (Sl.d 7 a_.c none r))/\h'=H:=(vG F0).1 g H 
def DA  (b:fZ):Option dK:=some (dK.mk (⟨false,[b]⟩:Sl fZ) (Sl.nil:Sl Z7))
def DB (b:cK):Option dK:=(qN b.an).bind fun f=>(Jr b.bE f).bind fun g=>bif (decide (((b.bE.l.length:Nat):Int)=(0:Int))) then(none) else(DA   (fZ.mk b.an ([]:Bs) (Sl.nil:Sl iy) g))
theorem T0 {g:cK}{r:dK}(b:DB g=some r) (H:ah) :AC Tryz.prog 18 [.agg (cK.c g)] H fun v h'=>v=.a (.agg (dK.c r))/\h'=H:=by
 unfold DB at b;refine AC.oW 28 [.cell 2 40] Tryz.call18 Tryz.func18 ?_;refine af (S BX ?_);refine Sl ?_;refine nil ?_;refine ag.bY (Sd Fv (Sd Ld (Sd Fv (Sd Ld (Sd Fv (Sd Ld ?_))))));obtain⟨o,i,b⟩:=bO b;refine cq rfl rfl (xJ i) ?_;obtain⟨j,k,b⟩:=bO b;refine cq rfl rfl (TZ k) ?_;refine Sd BU ?_;refine au.sB (TK rfl) rfl rfl ?_ (by repeat (first|exact bA.nil|apply bA.cons))
 refine au.dh (dH (TK rfl) rfl rfl rfl rfl rfl) ?_;refine au.nil (by decide +kernel) ?_;refine eD (TA 2 (TA 3 kN)) (fun(z:fZ)=>[]) (fun z=>[dK.c dK.zero,fZ.c z]) (fun z=>H) (fun z=>DA z=some r) ?_ ?_
 ·intro p l;refine af (S Fv (S Ld ?_));refine sLen (f:=aj.c) (s:=g.bE) (TK rfl) rfl rfl rfl rfl fun q=>?_;refine S BI (nil ?_);refine cE b (fun m b=>?_) (fun m b=>?_)
  ·cases b
  refine ag.skip ?_;exact l _ (fZ.mk g.an ([]:Bs) (Sl.nil:Sl iy) j) wA b
 rintro t b;try dsimp only at b
 unfold DA at b;refine af (S LL (S BV (S BU ?_)));refine Sf ?_;refine nil ?_;exact rt b
def Js :(aq×dK×cK):=((aq.mk (⟨false,[(ax.mk (1:Int) ([81,117,101,114,121]:Bs) (Sl.nil:Sl Bs) (Sl.nil:Sl aL) (⟨false,[(Z6.mk ([109,101]:Bs) (Sl.nil:Sl Z8) (az.mk ([85,115,101,114]:Bs) (Sl.nil:Sl Int)) (Sl.nil:Sl aL))]⟩:Sl Z6) (Sl.nil:Sl Z9) (Sl.nil:Sl Z8)),(ax.mk (1:Int) ([85,115,101,114]:Bs) (Sl.nil:Sl Bs) (Sl.nil:Sl aL) (⟨false,[(Z6.mk ([110,97,109,101]:Bs) (Sl.nil:Sl Z8) (az.mk ([83,116,114,105,110,103]:Bs) (Sl.nil:Sl Int)) (Sl.nil:Sl aL))]⟩:Sl Z6) (Sl.nil:Sl Z9) (Sl.nil:Sl Z8))]⟩:Sl ax)),(dK.mk (⟨false,[(fZ.mk (1:Int) ([]:Bs) (Sl.nil:Sl iy) (⟨false,[(a_.mk (1:Int) ([]:Bs) ([109,101]:Bs) ([]:Bs) (Sl.nil:Sl aD) (Sl.nil:Sl aL) ((⟨false,[(a_.mk (1:Int) ([]:Bs) ([110,97,109,101]:Bs) ([]:Bs) (Sl.nil:Sl aD) (Sl.nil:Sl aL) true ([]))]⟩:Sl a_).nl) ((⟨false,[(a_.mk (1:Int) ([]:Bs) ([110,97,109,101]:Bs) ([]:Bs) (Sl.nil:Sl aD) (Sl.nil:Sl aL) true ([]))]⟩:Sl a_).l))]⟩:Sl a_))]⟩:Sl fZ) (Sl.nil:Sl Z7)),(cK.mk (1:Int) (⟨false,[(aj.mk ([109,101]:Bs) ([81,117,101,114,121]:Bs) ([109,101]:Bs) (Sl.nil:Sl aD) ((Z6.mk ([109,101]:Bs) (Sl.nil:Sl Z8) (az.mk ([85,115,101,114]:Bs) (Sl.nil:Sl Int)) (Sl.nil:Sl aL)).aJ) ([]:Bs) (-1:Int) ((⟨false,[(aj.mk ([110,97,109,101]:Bs) ([85,115,101,114]:Bs) ([110,97,109,101]:Bs) (Sl.nil:Sl aD) ((Z6.mk ([110,97,109,101]:Bs) (Sl.nil:Sl Z8) (az.mk ([83,116,114,105,110,103]:Bs) (Sl.nil:Sl Int)) (Sl.nil:Sl aL)).aJ) ([]:Bs) (-1:Int) true ([]))]⟩:Sl aj).nl) ((⟨false,[(aj.mk ([110,97,109,101]:Bs) ([85,115,101,114]:Bs) ([110,97,109,101]:Bs) (Sl.nil:Sl aD) ((Z6.mk ([110,97,109,101]:Bs) (Sl.nil:Sl Z8) (az.mk ([83,116,114,105,110,103]:Bs) (Sl.nil:Sl Int)) (Sl.nil:Sl aL)).aJ) ([]:Bs) (-1:Int) true ([]))]⟩:Sl aj).l))]⟩:Sl aj)))
def DC :Option (aq×dK×cK):=some (Js )
theorem T4    {r:aq×dK×cK}(b:DC =some r) (H:ah) :AC Tryz.prog 24 [] H fun v h'=>v=.cS [.agg (aq.c r.1),.agg (dK.c r.2.1),.agg (cK.c r.2.2)]/\h'=H:=by
 unfold DC Js at b;refine AC.oW 41 [.cell 0 24,.cell 1 40,.cell 2 27] Tryz.call24 Tryz.func24 ?_;refine af ?_;refine Sl ?_;refine Sl ?_;refine Sl ?_;refine nil ?_;refine af (S BU (S BU ?_));refine Sl ?_;refine Sf ?_;refine nil ?_;refine bu 3 _ rfl (KA 0 (KA 1 (KA 2 aS.nil))) ?_;refine af (S BU (S BU ?_));refine Sl ?_;refine Sf ?_;refine nil ?_;refine bu 4 _ rfl (KA 0 (KA 1 (KA 2 (KA 3 aS.nil)))) ?_
 refine af (S Ld (S BV (S BU (S Ld (S BV (S BU (S BV (S BU ?_))))))));refine Sl ?_;refine Sf ?_;refine nil ?_;refine bu 5 _ rfl (KA 0 (KA 1 (KA 2 (KA 3 (KA 4 aS.nil))))) ?_;refine af (S BU (S BV (S BU (S BV (S BU (S BV (S BU ?_)))))));refine Sl ?_;refine Sf ?_;refine nil ?_;refine bu 6 _ rfl (KA 0 (KA 1 (KA 2 (KA 3 (KA 4 (KA 5 aS.nil)))))) ?_;refine af (S Fv (S Ld (S BU ?_)))
 refine Sl ?_;refine Sf ?_;refine nil ?_;refine bu 7 _ rfl (KA 0 (KA 1 (KA 2 (KA 4 (KA 5 (KA 6 aS.nil)))))) ?_;refine af (S Fv (S Ld (S Ld (S BV (S BU ?_)))));refine Sl ?_;refine Sf ?_;refine aQ.dc 3 (aj.c (aj.mk ([109,101]:Bs) ([81,117,101,114,121]:Bs) ([109,101]:Bs) (Sl.nil:Sl aD) ((Z6.mk ([109,101]:Bs) (Sl.nil:Sl Z8) (az.mk ([85,115,101,114]:Bs) (Sl.nil:Sl Int)) (Sl.nil:Sl aL)).aJ) ([]:Bs) (-1:Int) ((⟨false,[(aj.mk ([110,97,109,101]:Bs) ([85,115,101,114]:Bs) ([110,97,109,101]:Bs) (Sl.nil:Sl aD) ((Z6.mk ([110,97,109,101]:Bs) (Sl.nil:Sl Z8) (az.mk ([83,116,114,105,110,103]:Bs) (Sl.nil:Sl Int)) (Sl.nil:Sl aL)).aJ) ([]:Bs) (-1:Int) true ([]))]⟩:Sl aj).nl) ((⟨false,[(aj.mk ([110,97,109,101]:Bs) ([85,115,101,114]:Bs) ([110,97,109,101]:Bs) (Sl.nil:Sl aD) ((Z6.mk ([110,97,109,101]:Bs) (Sl.nil:Sl Z8) (az.mk ([83,116,114,105,110,103]:Bs) (Sl.nil:Sl Int)) (Sl.nil:Sl aL)).aJ) ([]:Bs) (-1:Int) true ([]))]⟩:Sl aj).l))) rfl (fun j w cs hh f=>by rw [aj.fM]; exact f) ?_
 refine nil ?_;refine bu 8 _ rfl (KA 0 (KA 1 (KA 2 (KA 5 (KA 6 aS.nil))))) ?_;refine ag.bY (Sd Ld (Sd Ld (Sd Ld (Sd BV (Sd BU ?_)))));refine au.dh (dH (TK rfl) rfl rfl rfl rfl rfl) ?_;refine au.dh (dH (TK rfl) rfl rfl rfl rfl rfl) ?_;refine au.dh (dH (TK rfl) rfl rfl rfl rfl rfl) ?_;refine au.nil (by decide +kernel) ?_;exact rt b
def tQ (f:Bs):List aD->Unit ⊕ ((aa×Bool))
 | []=>Sum.inl ()
 | g::i=>on (g) fun b=>bif ((b.ai==f)) then(Sum.inr (b.eU,true)) else(tQ f (i) )
def yE (g:aL) (i:Bs):(aa×Bool):=on (tQ i g.aO.l ) fun b=>match b with|Sum.inl _=>(on (()) fun _=>((aa.mk (0:Int) (0:Int) ([]:Bs) true ([]) (Sl.nil:Sl Bs)),false))|Sum.inr f=>(f)
def DD (b:aL) (f:Bs):Option (aa×Bool):=some (yE b f)
theorem T6 (a0:aL) (a1:Bs):DD a0 a1=some (yE a0 a1):=rfl
theorem T7 {g:aL}{i:Bs}{r:aa×Bool}(b:DD g i=some r) (H:ah) :AC Tryz.prog 233 [.agg (aL.c g),.d (.str i)] H fun v h'=>v=.cS [.agg (aa.c r.1),.d (.bool r.2)]/\h'=H:=by
 unfold DD yE at b;refine AC.oW 23 [.cell 4 58,.tmp 5] Tryz.call233 Tryz.func233 ?_;refine af (S BX ?_);refine Sl ?_;refine S As (nil ?_);refine eD (TA 4 kN) (fun(z:aa)=>[]) (fun z=>[aa.c z]) (fun z=>H) (fun z=>some (((aa.mk (0:Int) (0:Int) ([]:Bs) true ([]) (Sl.nil:Sl Bs)),false))=some r) ?_ ?_
 ·intro G w;refine af (S Fv (S Ld ?_));refine sLen (f:=aD.c) (s:=g.aO) (TK rfl) rfl rfl rfl rfl fun I=>?_;refine S Mv (nil ?_);refine block ?_;obtain⟨k,m,b⟩:=eB b;refine gW (TA 1 (TA 4 (TA 9 (TA 10 kN)))) (fun(z:Nat×aa)=>[(11,.a (.d (.int .i64 ((z.1:Nat):Int))))]) (fun z=>[aa.c z.2]) (fun z=>H) (fun z=>g.aO.l.length-z.1) (fun z=>k (tQ i (g.aO.l.drop z.1) )=some r) (0,aa.zero) b wA ?_
  rintro ⟨o,p⟩ b J x;try dsimp only at b
  refine af (S BI (nil ?_));refine ay fun y q=>?_;refine ag.cA (fun l=>k (tQ i l )=some r) b rfl (fun K t j b=>?_) (fun j b=>?_)
  ·rw [tQ] at b;try dsimp only at j
   have L:=oD j;refine sk q ?_;clear q y;refine ay fun B u=>?_;refine block ?_;refine af ?_;obtain⟨M,C,b⟩:=vP t b;refine S (ix aD.c o C) (S Ld ?_);refine Sl ?_;refine Sf ?_;refine nil ?_;refine bu 7 _ rfl (KA 1 (KA 4 (KA 9 (KA 10 (KA 11 aS.nil))))) ?_;refine af (S Fv (S Ld (S Mv (S BS (nil ?_)))));refine cP b (fun E b=>?_) (fun E b=>?_)
   ·refine af (S Fv (S Ld ?_));refine Sf ?_;refine S As (nil ?_);refine ag.ret ?_;repeat (first|refine bK ?_|refine bL ?_)
    have b:=ku m b;obtain rfl:=oJ b;refine bz.bJ H rfl ⟨rfl,rfl⟩ ?_;exact(fun _ _ h=>h)
   refine sk u ?_;clear u B;refine region ?_;refine SI ?_;refine S Mv (nil ?_);exact x _ ((o+1),p) wA b (dl t)
  rw [tQ] at b;have b:=ku m b;try dsimp only at b
  refine ag.exit ?_;obtain⟨N,F,b⟩:=eB b;have b:=ku F b;exact w _ p wA b
 rintro O b;try dsimp only at b
 refine af (S BU ?_);refine Sf ?_;refine S As (nil ?_);exact rt b
def vH (i:aL) (j:aa):Option Bool:=on (yE i ([105,102]:Bs)) fun b=>Option.bind (bif (decide (b.1.an=(7:Int))) then((iE j b.1.aR).bind fun g=>some g.1) else(some b.1)) fun f=>some ((decide (f.an=(1:Int)))&&(decide (f.aV=(1:Int))))
def DE (b:aL) (f:aa):Option Bool:=vH b f
theorem Jt (a0:aL) (a1:aa):DE a0 a1=vH a0 a1:=rfl
theorem Ju {g:aL}{i:aa}{r:Bool}(b:DE g i=some r) (H:ah) :AC Tryz.prog 232 [.agg (aL.c g),.agg (aa.c i)] H fun v h'=>v=.a (.d (.bool r))/\h'=H:=by
 unfold DE vH at b;refine AC.oW 30 [.tmp 4] Tryz.call232 Tryz.func232 ?_;refine af (S BX (S BX (S As (nil ?_))));refine af (S Ld ?_);obtain⟨j,l,b⟩:=vT (T6 _ _) b;refine Sc rfl rfl (T7 l) ?_;refine S Mv (S EX (S EX ?_));refine Sl ?_;refine Sf ?_;refine S As (nil ?_);obtain⟨m,o,b⟩:=cB b;refine eD (TA 5 kN) (fun(z:aa)=>[]) (fun z=>[aa.c z]) (fun z=>H) (fun z=>m z=some r) ?_ ?_
 ·intro t f;refine af (S FL (S LL (S BI (nil ?_))));refine cO b (fun p b=>?_) (fun p b=>?_)
  ·refine region ?_;refine S Ld (S FL (S LL ?_));obtain⟨q,s,b⟩:=qO (xZ _ _) b;refine Sc rfl rfl (x_ s) ?_;refine S Mv (S EX (S EX ?_));refine Sf ?_;refine nil ?_;exact f _ q.1 wA b
  refine ag.skip ?_;exact f _ j.1 wA b
 rintro u b;try dsimp only at b
 have b:=ku o b;refine af (S FL (S LL (S BI (S Mv (G0 FL ?_)))));refine gC rfl rfl (fun hC=>uz (k:=26) rfl (rI (TK rfl) rfl rfl rfl rfl)) rfl ?_;refine G1 27 rfl BI ?_;refine S PA (S As (nil ?_));exact rt b
def tR (f:aa):List aL->Option (Unit ⊕ Bool)
 | []=>some (Sum.inl ())
 | i::j=>on (i) fun b=>aN (((b.ai==([115,107,105,112]:Bs)))) (vH b f) false fun g=>aN ((!(((b.ai==([115,107,105,112]:Bs)))&&g)&&((b.ai==([105,110,99,108,117,100,101]:Bs))))) (vH b f) false fun k=>bif ((((b.ai==([115,107,105,112]:Bs)))&&g)||(((b.ai==([105,110,99,108,117,100,101]:Bs)))&&(!k))) then(some (Sum.inr false)) else(tR f (j) )
def Jv (g:(Sl aL)) (i:aa):Option Bool:=Option.bind (tR i g.l ) fun b=>match b with|Sum.inl _=>(on (()) fun _=>some true)|Sum.inr f=>(some f)
def DF (b:(Sl aL)) (f:aa):Option Bool:=Jv b f
theorem T8 {a0:Sl aL}{a1:aa}{w0:Option Nat}{r:Bool}(b:DF a0 a1=some r) (H:ah) :AC Tryz.prog 200 [.d (Sl.d 2 aL.c w0 a0),.agg (aa.c a1)] H fun v h'=>v=.a (.d (.bool r))/\h'=H:=by
 unfold DF Jv at b;refine AC.oW 33 [.tmp 4] Tryz.call200 Tryz.func200 ?_;refine af (S BX (S As (nil ?_)));refine aT kN (fun(z:Unit)=>[]) (fun z=>H) (fun z=>(some true)=some r) ?_ ?_
 ·intro G t;refine af (S Mv ?_);refine sLen (f:=aL.c) (s:=a0) (TK rfl) rfl rfl rfl rfl fun I=>?_;refine S Mv (nil ?_);refine block ?_;obtain⟨i,j,b⟩:=cB b;refine bx (TA 3 (TA 7 (TA 8 kN))) (fun(z:Nat)=>[(9,.a (.d (.int .i64 ((z:Nat):Int))))]) (fun z=>H) (fun z=>a0.l.length-z) (fun z=>Option.bind (tR a1 (a0.l.drop z) ) i=some r) 0 b wA ?_;rintro m b J u
  try dsimp only at b
  refine af (S BI (nil ?_));refine ay fun w o=>?_;refine ag.cA (fun l=>Option.bind (tR a1 l ) i=some r) b rfl (fun K p g b=>?_) (fun g b=>?_)
  ·rw [tR] at b;try dsimp only at g
   have L:=oD g;refine sk o ?_;clear o w;refine ay fun x q=>?_;refine block ?_;refine af ?_;obtain⟨M,y,b⟩:=vO p b;refine S (ix aL.c m y) (S Ld ?_);refine Sl ?_;refine Sf ?_;refine nil ?_;refine bu 6 _ rfl (KA 3 (KA 7 (KA 8 (KA 9 aS.nil)))) ?_;refine af (S Fv (S Ld (S BS (S Mv (G0 Ld (G0 Ld ?_))))));obtain⟨N,B,b⟩:=eA (Jt _ _) b
   refine fI 17 18 rfl rfl rfl rfl rfl rfl (fun hC=>Ju (B hC)) ?_;refine S PA (S Mv (G0 Fv ?_));refine G1 22 rfl Ld ?_;refine G1 23 rfl BS ?_;refine G1 24 rfl Mv ?_;refine G0 Ld (G0 Ld ?_);obtain⟨O,C,b⟩:=eA (Jt _ _) b;refine fI 26 27 rfl rfl rfl rfl rfl rfl (fun hC=>Ju (C hC)) ?_;refine G1 28 rfl NB ?_;refine gC rfl rfl (fun hC=>aG (k:=25) rfl (fV rfl rfl rfl)) rfl ?_
   refine S PO (nil ?_);refine cO b (fun E b=>?_) (fun E b=>?_)
   ·refine af (S As (nil ?_));refine ag.ret ?_;repeat (first|refine bK ?_|refine bL ?_)
    have b:=ku j b;obtain rfl:=oJ b;refine bz.bJ H rfl ⟨rfl,rfl⟩ ?_;exact(fun _ _ h=>h)
   refine sk q ?_;clear q x;refine region ?_;refine SI ?_;refine S Mv (nil ?_);exact u _ (m+1) wA b (dl p)
  rw [tR] at b;have b:=ku j b;try dsimp only at b
  refine ag.exit ?_;obtain⟨P,F,b⟩:=bW b;have b:=ku F b;exact t _ () wA b
 rintro _ b;try dsimp only at b
 refine af (S As (nil ?_));exact rt b
def DG  :Option Int:=some (-1:Int)
def yF (f:(Sl Z2)) (g:(Z2->Option Bool)) :Nat->Nat->Option Int
 | 0,_=>none
 | i+1,b=>bif (decide (((b:Nat):Int)<((f.l.length:Nat):Int))) then((f.l[b]?).bind fun j=>(g j).bind fun k=>bif k then(some ((b:Nat):Int)) else((yF f g i) (b+1))) else(DG   )
def Jy (b:(Sl Z2)) (f:(Z2->Option Bool)):Option Int:=yF b f (b.l.length+1) 0
theorem T9 {a0:Sl Z2}{a1:Z2->Option Bool}{w0:Option Nat}{j:List D}{k1:Nat}{r:Int}(b:Jy a0 a1=some r) (H:ah) (q:∀k r,a1 k=some r->∀H,AC Tryz.prog k1 ([.agg (Z2.c k)]++j.map A.d) H fun v h'=>v=.a (.d (.bool r))/\h'=H):AC Tryz.prog 234 [.d (Sl.d 2 Z2.c w0 a0),.d (.func k1 j)] H fun v h'=>v=.a (.d (.int .i64 r))/\h'=H:=by
 unfold Jy at b;refine AC.oW 19 [.tmp 4] Tryz.call234 Tryz.func234 ?_;refine af (S As (nil ?_));refine aT kN (fun(z:Unit)=>[]) (fun z=>H) (fun z=>DG =some r) ?_ ?_
 ·intro E t;refine af (S Mv ?_);refine sLen (f:=Z2.c) (s:=a0) (TK rfl) rfl rfl rfl rfl fun F=>?_;refine S Mv (nil ?_);refine block ?_;refine bx (TA 0 (TA 1 (TA 7 kN))) (fun(z:Nat×Nat)=>[(8,.a (.d (.int .i64 ((z.2:Nat):Int))))]) (fun z=>H) (fun z=>z.1) (fun z=>yF a0 a1 z.1 z.2=some r) ((a0.l.length+1),0) b wA ?_;rintro ⟨g,m⟩ b G u;try dsimp only at b
  cases g with
  | zero=>cases b
  | succ g =>
    rw [yF] at b;refine af (S BI (nil ?_));refine ay fun w o=>?_;refine cE b (fun i b=>?_) (fun i b=>?_)
    ·try dsimp only at i
     have I:=oD i;refine sk o ?_;clear o w;refine ay fun x p=>?_;refine block ?_;refine af (S Mv (S As (nil ?_)));refine af (S Mv (S Mv (S Mv ?_)));obtain⟨J,y,b⟩:=bO b;refine S (ix Z2.c m y) (S Ld ?_);obtain⟨K,B,b⟩:=bO b;refine s0 (en rfl rfl (q _ _ B)) rfl ?_;refine nil ?_;refine cE b (fun C b=>?_) (fun C b=>?_)
     ·refine af (S Mv (S As (nil ?_)));exact rt b
     refine sk p ?_;clear p x;refine region ?_;refine SI ?_;refine S Mv (nil ?_);exact u _ (g,(m+1)) wA b (nS _)
    refine ag.exit ?_;exact t _ () wA b
 rintro _ b;try dsimp only at b
 unfold DG at b;refine af (S As (nil ?_));exact rt b
def Jz (b:Z2) (f:Bs):Bool:=((b.bF==f))
def DH (b:Z2) (f:Bs):Option Bool:=some (Jz b f)
theorem T_ {f:Z2}{g:Bs}{r:Bool}(b:DH f g=some r) (H:ah) :AC Tryz.prog 235 [.agg (Z2.c f),.d (.view (aP g))] H fun v h'=>v=.a (.d (.bool r))/\h'=H:=by
 unfold DH Jz at b;refine AC.oW 8 [.tmp 3] Tryz.call235 Tryz.func235 ?_;refine af (S BX (S As (nil ?_)));refine af (S Fv (S Ld (S Ld (S BS (S As (nil ?_))))));exact rt b
-- @uses supergraph/collect.Included slices.IndexFunc[[]supergraph/collect.Group,supergraph/collect.Group] (*supergraph/collect.collector).field$1
def ga (e:Z1):Bs:=bif (e.bN.gv==([]:Bs)) then e.bN.ai else e.bN.gv
noncomputable def ig (d:aq) (q:dK) (on:Bs) (vars:aa) (out m:D):List D:=aq.c d++dK.c q++aP on++aa.c vars++[out]++[m]
set_option maxRecDepth 100000 in
set_option maxHeartbeats 4000000 in
theorem T' {d:aq}{q:dK}{on:Bs}{vars:aa}{m:D}{e:Z1}{c:Nat}(H:ah) (hc:H c=some (.cells (ig d q on vars (.slice 2 none true []) m))) :
  AC Tryz.prog 205 [.d (.ptr c 0),.agg (Z1.c e)] H fun v h'=>v=.cS []/\∃id,H id=none/\h'=(H.set id (some (.arr 2 (([⟨ga e,⟨false,[e]⟩⟩]:List Z2).map Z2.c)))).set c (some (.cells (ig d q on vars (.arr 2 id false 1) m))):=by
 refine AC.oW 56 [] Tryz.call205 Tryz.func205 ?_;refine af (S BX (nil ?_));refine af (S Fv (S Fv (S Ld ?_)));refine Sl ?_;refine Sf ?_;refine nil ?_;refine eD (TA 0 (TA 3 (TA 4 kN))) (fun(z:Unit)=>[]) (fun z=>[[.str (ga e)]]) (fun z=>H) (fun z=>True) ?_ ?_
 ·intro K g;refine af (S LL (S BS (nil ?_)));cases hk:(e.bN.gv==([]:Bs)) with
  | true =>
   refine ag.qb rfl rfl ?_;refine region ?_;refine S Fv (S Fv (S Ld ?_));refine Sf ?_;refine nil ?_;have B:ga e=e.bN.ai:=by unfold ga; rw [hk]; rfl
   rw [B] at g;exact g _ () wA trivial
  | false =>
   refine ag.mK rfl rfl ?_;refine ag.skip ?_;have B:ga e=e.bN.gv:=by unfold ga; rw [hk]; rfl
   rw [B] at g;exact g _ () wA trivial
 rintro ⟨⟩ -;refine bu 4 _ rfl (KA 0 (KA 3 aS.nil)) ?_;refine af (S Mv (S NP ?_));refine s0 (ct (TK rfl) rfl rfl (TK rfl) rfl rfl) rfl ?_;refine s0 (dr (v:=.d (Sl.d 2 Z2.c none Sl.nil)) (TK rfl) rfl rfl hc rfl) rfl ?_;refine s0 (makeFunc rfl) rfl ?_;refine s0 (en rfl rfl (fun H=>T9 (r := -1) (a1:=fun y=>DH y (ga e)) rfl H (fun _ _ I=>T_ I))) rfl ?_;refine S As (nil ?_)
 refine ay fun J F=>?_;refine af (S Mv (S BI (nil ?_)));refine ag.qb rfl (by decide) ?_;refine af (S Mv (S NP ?_));refine s0 (ct (TK rfl) rfl rfl (TK rfl) rfl rfl) rfl ?_;refine s0 (dr (v:=.d (Sl.d 2 Z2.c none Sl.nil)) (TK rfl) rfl rfl hc rfl) rfl ?_;refine sLen (f:=Z2.c) (s:=Sl.nil) (TK rfl) rfl rfl rfl rfl fun R=>?_;refine S As (nil ?_);refine ag.NF 2 fun id hid=>?_;have k:c≠id:=fun e=>by rw [<- e,hc] at hid; cases hid
 have L:(H.set id (some (.arr 2 []))) c=some (.cells (ig d q on vars (.slice 2 none true []) m)):=by simp only [ah.set,if_neg k]; exact hc
 refine ag.lI c (ig d q on vars (.arr 2 id true 0) m) L (fun j w cs hr M=>(M.OB 9 (x:=.slice 2 none true []) (y:=.arr 2 id true 0) rfl (fun b N=>NG hr (ah.bX ..) N))) ?_;have O:((H.set id (some (.arr 2 []))).set c (some (.cells (ig d q on vars (.arr 2 id true 0) m)))) id=some (.arr 2 (([]:List Z2).map Z2.c)):=by simp [ah.set,Ne.symm k]
 have P:((H.set id (some (.arr 2 []))).set c (some (.cells (ig d q on vars (.arr 2 id true 0) m)))) c=some (.cells (ig d q on vars (.arr 2 id true 0) m)):=ah.bX ..;refine ag.draw rfl ?_;refine Sd Mv (Sd Mv (Sd NP ?_));refine au.s0 (ct (TK rfl) rfl rfl (TK rfl) rfl rfl) rfl ?_;refine au.s0 (dr (v:=.d (.arr 2 id true 0)) (TK rfl) rfl rfl P rfl) rfl ?_;refine Sd Ld (Sd BU (Sd BV ?_))
 refine au.sH (NE (f:=Z2.c) (s:=Sl.nil) (r:=⟨false,[⟨ga e,Sl.nil⟩]⟩) (v:=⟨false,[⟨ga e,Sl.nil⟩]⟩) (TK rfl) rfl (TK rfl) (TK rfl) ⟨_,rfl⟩ rfl rfl rfl rfl rfl rfl O rfl rfl rfl) rfl ?_;refine Sd NP ?_;refine au.s0 (ct (TK rfl) rfl rfl (TK rfl) rfl rfl) rfl ?_;have Q:(((H.set id (some (.arr 2 []))).set c (some (.cells (ig d q on vars (.arr 2 id true 0) m)))).set id (some (.arr 2 ((⟨false,[⟨ga e,Sl.nil⟩]⟩:Sl Z2).l.map Z2.c)))) c=some (Ab.Obj.cells (ig d q on vars (.arr 2 id true 0) m)):=by simp [ah.set,k]
 refine au.fT (mN (TK rfl) rfl rfl Q rfl (by repeat (first|exact cD.zero|apply cD.succ))) rfl rfl ?_;refine au.nil (by decide +kernel) ?_;refine F _ ?_;clear F J;obtain⟨C,p⟩:∃x,x=(H.set id (some (.arr 2 (([⟨ga e,Sl.nil⟩]:List Z2).map Z2.c)))).set c (some (.cells (ig d q on vars (.arr 2 id false 1) m))):=⟨_,rfl⟩;refine ag.eS (h':=C) ?_ ?_
 ·rw [p]
  funext n
  by_cases h1:n=c
  ·subst h1; simp only [ah.set,if_true]; rfl
  by_cases E:n=id
  ·subst E; simp only [ah.set,if_neg h1,if_true]
  simp only [ah.set,if_neg h1,if_neg E]
 have t:C id=some (.arr 2 (([⟨ga e,Sl.nil⟩]:List Z2).map Z2.c)):=by rw [p]; simp [ah.set,Ne.symm k]
 have G:C c=some (.cells (ig d q on vars (.arr 2 id false 1) m)):=by rw [p]; exact ah.bX ..
 refine ag.draw rfl ?_;refine Sd Mv (Sd NP ?_);refine au.s0 (ct (TK rfl) rfl rfl (TK rfl) rfl rfl) rfl ?_;refine au.s0 (dr (v:=.d (.arr 2 id false 1)) (TK rfl) rfl rfl G rfl) rfl ?_;refine Sd Mv (Sd Mv (Sd NP ?_));refine au.s0 (ct (TK rfl) rfl rfl (TK rfl) rfl rfl) rfl ?_;refine au.s0 (dr (v:=.d (.arr 2 id false 1)) (TK rfl) rfl rfl G rfl) rfl ?_;refine Sd Mv ?_;refine au.s0 (F2 (f:=Z2.c) (l:=[⟨ga e,Sl.nil⟩]) (TK rfl) rfl (TK rfl) rfl rfl rfl t rfl rfl) rfl ?_
 refine au.s0 (FZ (TK rfl) rfl rfl (TK rfl) rfl rfl) rfl ?_;refine au.s0 (NA (f:=Z2.c) (l:=[⟨ga e,Sl.nil⟩]) (i:=0) (o:=1) (v:=.d (Sl.d 8 Z1.c none Sl.nil)) (TK rfl) rfl rfl t rfl rfl rfl rfl) rfl ?_;refine Sd Ld ?_;refine au.s0 (ov (TK rfl) rfl (TK rfl) rfl rfl rfl rfl rfl rfl) rfl ?_;refine au.s0 (OA (TK rfl) rfl (TK rfl) (TK rfl) (.inl ⟨_,rfl⟩) rfl rfl (by decide) rfl rfl rfl rfl (by simp only [List.length_set,List.length_replicate]; decide) (by simp only [List.length_set,List.length_replicate]; decide)) rfl ?_
 refine au.s0 (F2 (f:=Z2.c) (l:=[⟨ga e,Sl.nil⟩]) (TK rfl) rfl (TK rfl) rfl rfl rfl t rfl rfl) rfl ?_;refine au.s0 (FZ (TK rfl) rfl rfl (TK rfl) rfl rfl) rfl ?_;refine au.fT (NC (f:=Z2.c) (l:=[⟨ga e,Sl.nil⟩]) (u:=⟨ga e,Sl.nil⟩) (u':=⟨ga e,⟨false,[e]⟩⟩) (i:=0) (o:=1) (TK rfl) rfl rfl t rfl rfl rfl rfl (by decide) rfl rfl) rfl rfl ?_;refine au.nil (by decide +kernel) ?_
 refine bz.normal rfl ⟨rfl,id,hid, ?_⟩;rw [p]; funext n; simp only [ah.set]; by_cases h1:n=c<;>by_cases E:n=id<;>simp_all
set_option maxRecDepth 100000 in
set_option maxHeartbeats 4000000 in
theorem Ua {d:aq}{q:dK}{on:Bs}{vars:aa}{m:D}{e:Z1}{c:Nat}(g:decide (e.bN.an=(3:Int))=false) (i:decide (e.bN.an=(2:Int))=false) (b:e.bN.ck.l=[]) (H:ah) (hc:H c=some (.cells (ig d q on vars (.slice 2 none true []) m))) :
  AC Tryz.prog 159 [.d (.ptr c 0),.agg (Z1.c e)] H fun v h'=>v=.cS []/\∃id,H id=none/\h'=(H.set id (some (.arr 2 (([⟨ga e,⟨false,[e]⟩⟩]:List Z2).map Z2.c)))).set c (some (.cells (ig d q on vars (.arr 2 id false 1) m))):=by
 refine AC.oW 110 [] Tryz.call159 Tryz.func159 ?_;refine af (S BX (nil ?_));refine ay fun j f=>?_;refine ag.bY (Sd Fv (Sd Fv (Sd Ld (Sd Mv (Sd NP ?_)))));refine au.s0 (ct (TK rfl) rfl rfl (TK rfl) rfl rfl) rfl ?_;refine au.s0 (dr (v:=.agg (aa.c vars)) (TK rfl) rfl rfl hc rfl) rfl ?_;have k:DF e.bN.ck vars=some true:=by
  cases o:e.bN.ck with
  | mk nl l=>rw [o] at b; subst b; rfl
 refine au.s0 (en rfl rfl (fun H=>T8 (w0:=none) k H)) rfl ?_;refine Sd NB ?_;refine au.nil (by decide +kernel) ?_;refine ag.mK rfl rfl ?_;refine sk f ?_;clear f j;refine af (S Fv (S Fv (S Ld (nil ?_))));refine block ?_;refine af (S BI (S As (nil ?_)));refine ag.mK rfl g ?_;refine af (S BI (S As (nil ?_)));refine ag.mK rfl i ?_;refine region ?_;refine S Mv (S Ld ?_)
 refine sE (dW.call rfl rfl (T' _ hc)) rfl (fun v aH h' hv=>?_);obtain⟨⟨rfl,id,hid,p⟩,rfl⟩:=hv;refine nil ?_;unfold we;exact bz.normal rfl ⟨rfl,id,hid,p⟩
def DI (f:aq) (g:dK) (i:Bs) (b:Sl Z1) (j:aa):Option (Sl Z2):=match b.l with
 | [e]=>bif (decide (e.bN.an=(3:Int))||decide (e.bN.an=(2:Int)))||!e.bN.ck.l.isEmpty then none else some ⟨false,[⟨ga e,⟨false,[e]⟩⟩]⟩
 | _=>none
set_option maxRecDepth 100000 in
set_option maxHeartbeats 4000000 in
theorem Ub {j:aq}{m:dK}{p:Bs}{u:Sl Z1}{q:aa}{G:Option Nat}{r:Sl Z2}(b:DI j m p u q=some r) (H:ah) :
  AC Tryz.prog 103 [.agg (aq.c j),.agg (dK.c m),.d (.str p),.d (Sl.d 8 Z1.c G u),.agg (aa.c q)] H fun v h'=>v=.a (.d (Sl.d 2 Z2.c none r))/\h'=H:=by
 obtain⟨e,hl,I,J,K,hr⟩:∃e,u.l=[e]/\decide (e.bN.an=(3:Int))=false/\decide (e.bN.an=(2:Int))=false/\e.bN.ck.l=[]/\r=⟨false,[⟨ga e,⟨false,[e]⟩⟩]⟩:=by
  unfold DI at b
  split at b
  ·rename_i e he
   cases hc:((decide (e.bN.an=(3:Int))||decide (e.bN.an=(2:Int)))||!e.bN.ck.l.isEmpty) with
   | true=>rw [hc] at b; cases b
   | false =>
    rw [hc] at b;simp only [Bool.or_eq_false_iff,Bool.not_eq_false'] at hc;exact⟨e,he,hc.1.1,hc.1.2,List.isEmpty_iff.1 hc.2,(oJ b).symm⟩
  cases b
 subst hr;refine AC.oW 35 [.tmp 10] Tryz.call103 Tryz.func103 ?_;refine af (S BX (S BX (S BX (S As (nil ?_)))));refine af (S Ld (S Ld (S Mv (S Ld ?_))));refine sE (dW.makeMap) rfl (fun _ _ _ ⟨g,L,t,B,C⟩=>?_); subst t B C;refine S BU ?_;refine sE (dW.rM rfl) rfl (fun _ _ _ ⟨c,E,t,B,C⟩=>?_); subst t B C;refine S As (nil ?_);have hc:((H.set g (some (.map []))).set c (some (.cells (ig j m p q (.slice 2 none true []) (.map g))))) c=some (.cells (ig j m p q (.slice 2 none true []) (.map g))):=ah.bX ..
 obtain⟨H1,w⟩:∃x,x=(H.set g (some (.map []))).set c (some (.cells (ig j m p q (.slice 2 none true []) (.map g)))):=⟨_,rfl⟩;refine ag.eS (h':=H1) w.symm ?_;rw [<- w] at hc;refine ay fun Q M=>?_;refine af (S Mv ?_);refine sLen (f:=Z1.c) (s:=u) (TK rfl) rfl rfl rfl rfl fun R=>?_;refine S Mv (nil ?_);refine block ?_;refine bx (TA 11 (TA 21 (TA 22 kN))) (fun(z:Option Nat)=>[(23,.a (.d (.int .i64 (match z with|none=>0|some _=>1))))])
  (fun z=>match z with|none=>H1|some id=>(H1.set id (some (.arr 2 (([⟨ga e,⟨false,[e]⟩⟩]:List Z2).map Z2.c)))).set c (some (.cells (ig j m p q (.arr 2 id false 1) (.map g))))) (fun z=>match z with|none=>1|some _=>0) (fun z=>match z with|none=>True|some id=>H1 id=none) none trivial wA ?_
 rintro z N U O;cases z with
 | none =>
  refine af (S BI (nil ?_));refine ay fun y i=>?_;refine ag.qb rfl (by rw [hl]; rfl) ?_;refine sk i ?_;clear i y;refine ay fun y i=>?_;refine block ?_;refine af ?_;refine s0 (eR (f:=Z1.c) (n:=0) (TK rfl) rfl (TK rfl) rfl rfl rfl (show u.l[0]?=some e by rw [hl]; rfl)) rfl ?_;refine S Ld ?_;refine Sl ?_;refine Sf ?_;refine nil ?_;refine bu 13 _ rfl (KA 11 (KA 21 (KA 22 (KA 23 aS.nil)))) ?_
  refine region ?_;refine S Mv (S Ld ?_);refine sE (dW.call rfl rfl (Ua I J K _ hc)) rfl (fun v aH h' hv=>?_);obtain⟨⟨rfl,id,hid,t⟩,rfl⟩:=hv;subst t;refine nil ?_;refine i _ ?_;clear i y;refine region ?_;refine s0 (cI rfl rfl (r:=1) rfl) rfl ?_;refine S Mv (nil ?_);exact O _ (some id) wA hid (Nat.zero_lt_one)
 | some id =>
  refine af (S BI (nil ?_));refine ay fun y i=>?_;refine ag.mK rfl (by rw [hl]; rfl) ?_;refine ag.exit ?_;have hid:H1 id=none:=N;have P:c≠id:=fun e=>by rw [<- e,hc] at hid; cases hid
  refine M _ ?_;refine af (S Mv (S NP ?_));refine s0 (ct (TK rfl) rfl rfl (TK rfl) rfl rfl) rfl ?_;refine s0 (dr (v:=.d (.arr 2 id false 1)) (TK rfl) rfl rfl (ah.bX ..) rfl) rfl ?_;refine S As (nil ?_);refine ag.zP 10 id rfl (ah.bP _ _ (Ne.symm P) |>.trans (ah.bX ..)) rfl ?_;refine ag.ret ?_;refine bz.bJ H rfl ⟨rfl,rfl⟩ ?_;intro k o hk;have k1:k≠g:=fun e=>by subst e; rw [L] at hk; cases hk
  have k2:k≠c:=fun e=>by
   subst e;rw [ah.bP _ _ k1,hk] at E;cases E
  have F:k≠id:=fun e=>by
   subst e;rw [w,ah.bP _ _ k2,ah.bP _ _ k1,hk] at hid;cases hid
  show (ah.set (ah.set (ah.set H1 id _) c _) id none) k=some o;rw [ah.bP _ _ F,ah.bP _ _ k2,ah.bP _ _ F,w,ah.bP _ _ k2,ah.bP _ _ k1];exact hk
def JA  :Option Int:=some (-1:Int)
def DJ (f:(Sl Z1)) (j:(Z1->Option Bool)) :Nat->Nat->Option Int
 | 0,_=>none
 | k+1,b=>bif (decide (((b:Nat):Int)<((f.l.length:Nat):Int))) then((f.l[b]?).bind fun g=>(j g).bind fun i=>bif i then(some ((b:Nat):Int)) else(none)) else(none)
def DK (b:(Sl Z1)) (f:(Z1->Option Bool)):Option Int:=DJ b f (b.l.length+1) 0
theorem Uc {g:Sl Z1}{j:Z1->Option Bool}{w0:Option Nat}{k:List D}{k1:Nat}{r:Int}(b:DK g j=some r) (H:ah) (q:∀m r,j m=some r->∀H,AC Tryz.prog k1 ([.agg (Z1.c m)]++k.map A.d) H fun v h'=>v=.a (.d (.bool r))/\h'=H):AC Tryz.prog 236 [.d (Sl.d 8 Z1.c w0 g),.d (.func k1 k)] H fun v h'=>v=.a (.d (.int .i64 r))/\h'=H:=by
 unfold DK at b;refine AC.oW 19 [.tmp 4] Tryz.call236 Tryz.func236 ?_;refine af (S As (nil ?_));refine aT kN (fun(z:Unit)=>[]) (fun z=>H) (fun z=>JA =some r) ?_ ?_
 ·intro B C;refine af (S Mv ?_);refine sLen (f:=Z1.c) (s:=g) (TK rfl) rfl rfl rfl rfl fun E=>?_;refine S Mv (nil ?_);refine block ?_;refine bx (TA 0 (TA 1 (TA 7 kN))) (fun(z:Nat×Nat)=>[(8,.a (.d (.int .i64 ((z.2:Nat):Int))))]) (fun z=>H) (fun z=>z.1) (fun z=>DJ g j z.1 z.2=some r) ((g.l.length+1),0) b wA ?_;rintro ⟨o,t⟩ b F G;try dsimp only at b
  cases o with
  | zero=>cases b
  | succ o =>
    rw [DJ] at b;refine af (S BI (nil ?_));refine ay fun u p=>?_;refine cE b (fun i b=>?_) (fun i b=>?_)
    ·try dsimp only at i
     have I:=oD i;refine sk p ?_;clear p u;refine ay fun J K=>?_;refine block ?_;refine af (S Mv (S As (nil ?_)));refine af (S Mv (S Mv (S Mv ?_)));obtain⟨L,w,b⟩:=bO b;refine S (ix Z1.c t w) (S Ld ?_);obtain⟨M,x,b⟩:=bO b;refine s0 (en rfl rfl (q _ _ x)) rfl ?_;refine nil ?_;refine cE b (fun y b=>?_) (fun y b=>?_)
     ·refine af (S Mv (S As (nil ?_)));exact rt b
     cases b
    cases b
 rintro _ b;try dsimp only at b
 unfold JA at b;refine af (S As (nil ?_));exact rt b
def DL (f:(Sl Z1)) (g:(Z1->Option Bool)):Option Bool:=(DK f g).bind fun b=>some (decide ((0:Int)<=b))
theorem Ud {i:Sl Z1}{j:Z1->Option Bool}{w0:Option Nat}{f:List D}{k1:Nat}{r:Bool}(b:DL i j=some r) (H:ah) (k:∀g r,j g=some r->∀H,AC Tryz.prog k1 ([.agg (Z1.c g)]++f.map A.d) H fun v h'=>v=.a (.d (.bool r))/\h'=H):AC Tryz.prog 206 [.d (Sl.d 8 Z1.c w0 i),.d (.func k1 f)] H fun v h'=>v=.a (.d (.bool r))/\h'=H:=by
 unfold DL at b;refine AC.oW 9 [.tmp 4] Tryz.call206 Tryz.func206 ?_;refine af (S As (nil ?_));refine af (S Mv (S Mv ?_));obtain⟨m,l,b⟩:=bO b;refine s0 (en rfl rfl (fun H=>Uc l H k)) rfl ?_;refine S BI (S As (nil ?_));exact rt b
def JB (b:Z1):Bool:=((b.eO==([]:Bs)))
def DM (b:Z1):Option Bool:=some (JB b)
theorem Ue {f:Z1}{r:Bool}(b:DM f=some r) (H:ah) :AC Tryz.prog 207 [.agg (Z1.c f)] H fun v h'=>v=.a (.d (.bool r))/\h'=H:=by
 unfold DM JB at b;refine AC.oW 6 [.tmp 2] Tryz.call207 Tryz.func207 ?_;refine af (S BX (S As (nil ?_)));refine af (S Fv (S Ld (S BS (S As (nil ?_)))));exact rt b
def DN (b:Z2):Option Bs:=aN (!(decide (((b.jS.l.length:Nat):Int)=(0:Int)))) (DL b.jS DM) false fun f=>bif ((decide (((b.jS.l.length:Nat):Int)=(0:Int)))||f) then(some ([]:Bs)) else(none)
theorem Uf {g:Z2}{r:Bs}(b:DN g=some r) (H:ah) :AC Tryz.prog 160 [.agg (Z2.c g)] H fun v h'=>v=.a (.d (.str r))/\h'=H:=by
 unfold DN at b;refine AC.oW 17 [.tmp 2] Tryz.call160 Tryz.func160 ?_;refine af (S BX (S As (nil ?_)));refine ay fun m o=>?_;refine af (S Fv (S Ld ?_));refine sLen (f:=Z1.c) (s:=g.jS) (TK rfl) rfl rfl rfl rfl fun p=>?_;refine S BI (S Mv (G0 Fv ?_));refine G1 8 rfl Ld ?_;obtain⟨q,i,b⟩:=gO b;refine gC rfl rfl (fun hC=>aG (k:=9) rfl (en rfl rfl (fun H=>Ud (i hC) H (fun _ _ j=>Ue j)))) rfl ?_
 refine S PO (nil ?_);refine cE b (fun l b=>?_) (fun l b=>?_)
 ·refine af (S As (nil ?_));exact rt b
 cases b
def DO  :Option Int:=some (-1:Int)
def DP (b:Nat) (f:Nat->Option Int) :Option Int:=f (b+1)
def DQ (b:Nat) (f:Z1) (g:Nat->Option Int):Nat->Nat->Option Int
 | 0,_=>none
 | j+1,i=>bif (decide (((i:Nat):Int)<((f.bN.ck.l.length:Nat):Int))) then(none) else(DP b g )
def tS (f:(Sl Z1)) :Nat->Nat->Option Int
 | 0,_=>none
 | i+1,b=>bif (decide (((b:Nat):Int)<((f.l.length:Nat):Int))) then((f.l[b]?).bind fun g=>DQ b g ((tS f i)) (g.bN.ck.l.length+1) 0) else(DO   )
def DR (b:(Sl Z1)):Option Int:=tS b (b.l.length+1) 0
theorem Ug {g:Sl Z1}{w0:Option Nat}{r:Int}(b:DR g=some r) (H:ah) :AC Tryz.prog 161 [.d (Sl.d 8 Z1.c w0 g)] H fun v h'=>v=.a (.d (.int .i64 r))/\h'=H:=by
 unfold DR at b;refine AC.oW 43 [.tmp 2] Tryz.call161 Tryz.func161 ?_;refine af (S As (nil ?_));refine aT kN (fun(z:Unit)=>[]) (fun z=>H) (fun z=>DO =some r) ?_ ?_
 ·intro B t;refine af (S Mv ?_);refine sLen (f:=Z1.c) (s:=g) (TK rfl) rfl rfl rfl rfl fun C=>?_;refine S Mv (nil ?_);refine block ?_;refine bx (TA 9 (TA 10 kN)) (fun(z:Nat×Nat)=>[(11,.a (.d (.int .i64 ((z.2:Nat):Int))))]) (fun z=>H) (fun z=>z.1) (fun z=>tS g z.1 z.2=some r) ((g.l.length+1),0) b wA ?_;rintro ⟨i,j⟩ b E u;try dsimp only at b
  cases i with
  | zero=>cases b
  | succ i =>
    rw [tS] at b;refine af (S BI (nil ?_));refine ay fun w p=>?_;refine cE b (fun k b=>?_) (fun k b=>?_)
    ·try dsimp only at k
     have F:=oD k;refine sk p ?_;clear p w;refine aT (TA 9 (TA 10 (TA 11 kN))) (fun(z:Unit)=>[]) (fun z=>H) (fun z=>DP j ((tS g i)) =some r) ?_ ?_
     ·intro G x;refine block ?_;refine af ?_;obtain⟨m,y,b⟩:=bO b;refine S (ix Z1.c j y) (S Ld ?_);refine Sl ?_;refine Sf ?_;refine nil ?_;refine bu 4 _ rfl (KA 9 (KA 10 (KA 11 aS.nil))) ?_;refine af (S Fv (S Fv (S Ld ?_)));refine sLen (f:=aL.c) (s:=m.bN.ck) (TK rfl) rfl rfl rfl rfl fun I=>?_;refine S Mv (nil ?_);refine block ?_;refine bx (TA 9 (TA 10 (TA 11 (TA 17 (TA 18 kN))))) (fun(z:Nat×Nat)=>[(19,.a (.d (.int .i64 ((z.2:Nat):Int))))]) (fun z=>H) (fun z=>z.1) (fun z=>DQ j m ((tS g i)) z.1 z.2=some r) ((m.bN.ck.l.length+1),0) b wA ?_
      rintro ⟨q,J⟩ b K L;try dsimp only at b
      cases q with
      | zero=>cases b
      | succ q =>
        rw [DQ] at b;refine af (S BI (nil ?_));refine ay fun M N=>?_;refine cE b (fun o b=>?_) (fun o b=>?_)
        ·try dsimp only at o
         have O:=oD o;cases b
        refine ag.exit ?_;exact x _ () wA b
     rintro _ b;try dsimp only at b
     unfold DP at b;refine region ?_;refine SI ?_;refine S Mv (nil ?_);exact u _ (i,(j+1)) wA b (nS _)
    refine ag.exit ?_;exact t _ () wA b
 rintro _ b;try dsimp only at b
 unfold DO at b;refine af (S As (nil ?_));exact rt b
def DS  (b:(Sl aD)):Option ((Sl aD)×Int):=some (b,(0:Int))
def DT (g:(Sl Z8)) :Nat->(Sl aD)->Nat->Option ((Sl aD)×Int)
 | 0,_,_=>none
 | i+1,b,f=>bif (decide (((f:Nat):Int)<((g.l.length:Nat):Int))) then(none) else(DS   b)
def DU (b:(Sl Z8))  :Option ((Sl aD)×Int):=DT b (b.l.length+1) (Sl.nil:Sl aD) 0
def DV (f:(Sl Z8)) (g:(Sl aD)) :Nat->Nat->Option ((Sl aD)×Int)
 | 0,_=>none
 | i+1,b=>bif (decide (((b:Nat):Int)<((g.l.length:Nat):Int))) then(none) else(DU f  )
def DW (g:aq) (f:(Sl Z8)) (b:(Sl aD)) (i:aa):Option ((Sl aD)×Int):=DV f b (b.l.length+1) 0
theorem Uh {j:aq}{i:Sl Z8}{k:Sl aD}{m:aa}{C E:Option Nat}{r:((Sl aD)×Int)}(b:DW j i k m=some r) (H:ah) :AC Tryz.prog 163 [.agg (aq.c j),.d (Sl.d 10 Z8.c C i),.d (Sl.d 6 aD.c E k),.agg (aa.c m)] H fun v h'=>v=.cS [.d (Sl.d 6 aD.c none r.1),.d (.int .i64 r.2)]/\h'=H:=by
 unfold DW at b;refine AC.oW 128 [.tmp 8,.tmp 9] Tryz.call163 Tryz.func163 ?_;refine ag.tok 6 fun g M=>?_;refine af (S BX (S BX ?_));refine s0 (fK (k':=6) rfl) rfl ?_;refine S As (nil ?_);refine aT (TA 1 (TA 2 (TA 4 (TA 7 kN)))) (fun(z:Unit)=>[]) (fun z=>(H.set g (some (.tok 6 0)))) (fun z=>DU i =some r) ?_ ?_
 ·intro N F;refine af (S Mv ?_);refine sLen (f:=aD.c) (s:=k) (TK rfl) rfl rfl rfl rfl fun O=>?_;refine S Mv (nil ?_);refine block ?_;refine bx (TA 1 (TA 2 (TA 4 (TA 7 (TA 25 (TA 26 kN)))))) (fun(z:Nat×Nat)=>[(27,.a (.d (.int .i64 ((z.2:Nat):Int))))]) (fun z=>(H.set g (some (.tok 6 0)))) (fun z=>z.1) (fun z=>DV i k z.1 z.2=some r) ((k.l.length+1),0) b wA ?_;rintro ⟨u,P⟩ b Q R
  try dsimp only at b
  cases u with
  | zero=>cases b
  | succ u =>
    rw [DV] at b;refine af (S BI (nil ?_));refine ay fun U W=>?_;refine cE b (fun p b=>?_) (fun p b=>?_)
    ·try dsimp only at p
     have X:=oD p;cases b
    refine ag.exit ?_;exact F _ () wA b
 rintro _ b;try dsimp only at b
 unfold DU at b;refine af (S Ld (S Ld (S BU ?_)));refine sE (dW.rM rfl) rfl (fun _ _ _ ⟨o,w,G,I,J⟩=>?_); subst G I J;obtain⟨Y,w⟩:=ah.gB w;refine hq ((H.set g (some (.tok 6 0))).set o (some (.cells (Z0.c (Z0.mk j m true (0:Int)))))) ?_;refine S As (nil ?_);refine af (S As (nil ?_));refine ag.fU 17 6 g rfl aI ?_;refine aT kN (fun(z:(Sl aD))=>[(17,.a (.d (Sl.d 6 aD.c (some g) z)))]) (fun z=>((H.set g (some (.tok 6 z.l.length))).set o (some (.cells (Z0.c (Z0.mk j m true (0:Int))))))) (fun z=>DS z=some r) ?_ ?_
 ·intro Z K;refine af (S Mv ?_);refine sLen (f:=Z8.c) (s:=i) (TK rfl) rfl rfl rfl rfl fun ab=>?_;refine S Mv (nil ?_);refine block ?_;refine bx (TA 1 (TA 2 (TA 4 (TA 7 (TA 16 (TA 58 (TA 59 kN))))))) (fun(z:Nat×(Sl aD)×Nat)=>[(17,.a (.d (Sl.d 6 aD.c (some g) z.2.1))),(60,.a (.d (.int .i64 ((z.2.2:Nat):Int))))]) (fun z=>((H.set g (some (.tok 6 z.2.1.l.length))).set o (some (.cells (Z0.c (Z0.mk j m true (0:Int))))))) (fun z=>z.1) (fun z=>DT i z.1 z.2.1 z.2.2=some r) ((i.l.length+1),(Sl.nil:Sl aD),0) b wA ?_
  rintro ⟨x,L,ad⟩ b ae ai;try dsimp only at b
  cases x with
  | zero=>cases b
  | succ x =>
    rw [DT] at b;refine af (S BI (nil ?_));refine ay fun aj ak=>?_;refine cE b (fun q b=>?_) (fun q b=>?_)
    ·try dsimp only at q
     have al:=oD q;cases b
    refine ag.exit ?_;exact K _ L wA b
 rintro am b;try dsimp only at b
 unfold DS at b;refine af (S Mv (S As (S As (nil ?_))));refine ag.gb 8 rfl ?_;refine ag.ret ?_;repeat (first|refine bK ?_|refine bL ?_)
 obtain rfl:=oJ b;refine bz.bJ H rfl ⟨rfl,rfl⟩ ?_;intro y an B;have ao:y≠g:=fun t=>by subst t; simp_all [ah.set]
 have ap:y≠o:=fun t=>by subst t; simp_all [ah.set]
 rw [<- B];simp only [ah.set] at B ⊢
 (repeat' split)<;>simp_all
end Go.Proofs
