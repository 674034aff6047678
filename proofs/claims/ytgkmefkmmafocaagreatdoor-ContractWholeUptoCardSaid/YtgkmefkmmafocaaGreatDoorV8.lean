import Derived.Test.YtgkmefkmmafocaaGreatDoorV7
set_option maxRecDepth 100000
set_option maxHeartbeats 2000000
set_option linter.unusedVariables false
set_option linter.unusedSimpArgs false
namespace Go.Proofs
open Go Go.Ab
open aP ar ah aS fp
variable {ax:bK}
def yI (f:Int) (b:Int):Int:=bif (decide (f<b)) then((-1:Int)) else(bif (decide (b<f)) then((1:Int)) else((0:Int)))
def rL (f:Int) (b:Int):Option Int:=some (yI f b)
theorem RA (a0:Int) (b:Int):rL a0 b=some (yI a0 b):=rfl
theorem Dd {j f r:Int}(b:rL j f=some r) (H:ai) :AC Tryz.prog 150 [.d (.int .i64 j),.d (.int .i64 f)] H fun v h'=>v=.a (.d (.int .i64 r))/\h'=H:=by
 unfold rL yI at b;refine AC.oW 11 [.tmp 4] Tryz.call150 Tryz.func150 ?_;refine ag (S As (nil ?_));refine ay fun k g=>?_;refine ag (S Mv (S Mv (S BI (nil ?_))));refine cP b (fun l b=>?_) (fun l b=>?_)
 ·refine ag (S As (nil ?_));exact rt b
 refine sk g ?_;clear g k;refine ay fun m i=>?_;refine ag (S Mv (S Mv (S BI (nil ?_))));refine cP b (fun o b=>?_) (fun o b=>?_)
 ·refine ag (S As (nil ?_));exact rt b
 refine sk i ?_;clear i m;refine ag (S As (nil ?_));exact rt b
def yJ (f:Bs) (b:Bs):Int:=bif (Op.bytesLess f b) then((-1:Int)) else(bif (!(Op.bytesLess f b||f==b)) then((1:Int)) else((0:Int)))
def uw (f:Bs) (b:Bs):Option Int:=some (yJ f b)
theorem RB (a0:Bs) (b:Bs):uw a0 b=some (yJ a0 b):=rfl
theorem HO {j f:Bs}{r:Int}(b:uw j f=some r) (H:ai) :AC Tryz.prog 151 [.d (.str j),.d (.str f)] H fun v h'=>v=.a (.d (.int .i64 r))/\h'=H:=by
 unfold uw yJ at b;refine AC.oW 11 [.tmp 4] Tryz.call151 Tryz.func151 ?_;refine ag (S As (nil ?_));refine ay fun k g=>?_;refine ag (S Mv (S Mv (S BS (nil ?_))));refine cP b (fun l b=>?_) (fun l b=>?_)
 ·refine ag (S As (nil ?_));exact rt b
 refine sk g ?_;clear g k;refine ay fun m i=>?_;refine ag (S Mv (S Mv (S BS (nil ?_))));refine cP b (fun o b=>?_) (fun o b=>?_)
 ·refine ag (S As (nil ?_));exact rt b
 refine sk i ?_;clear i m;refine ag (S As (nil ?_));exact rt b
def wg (f:af) (b:Int):Option Bs:=bif (decide (b<((f.aN.l.length:Nat):Int))) then((dh f.aN.l b).bind fun g=>some g) else(some ([]:Bs))
def oC (f:af) (b:Int):Option Bs:=wg f b
theorem De (a0:af) (b:Int):oC a0 b=wg a0 b:=rfl
theorem HP {g:af}{i:Int}{r:Bs}(b:oC g i=some r) (H:ai) :AC Tryz.prog 152 [.agg (af.c g),.d (.int .i64 i)] H fun v h'=>v=.a (.d (.str r))/\h'=H:=by
 unfold oC wg at b;refine AC.oW 15 [.tmp 4] Tryz.call152 Tryz.func152 ?_;refine ag (S BX (S As (nil ?_)));refine ay fun k j=>?_;refine ag (S Mv (S Fv (S Ld ?_)));refine sLen (f:=aO) (s:=g.aN) (TK rfl) rfl rfl rfl rfl fun o=>?_;refine S BI (nil ?_);refine cE b (fun l b=>?_) (fun l b=>?_)
 ·refine ag (S Fv (S Ld (S Mv ?_)));obtain⟨p,m,b⟩:=qT rfl b;refine s0 (jS (f:=aO) (TK rfl) rfl (TK rfl) rfl rfl rfl m) rfl ?_;refine S Ld (S As (nil ?_));exact rt b
 refine sk j ?_;clear j k;refine ag (S As (nil ?_));exact rt b
def Df  (b:Int):Option Int:=some b
def wi (b:Int) (f:Int->Int->Option Int) (g:Int):Option Int:=(cG b (1:Int)).bind fun i=>f g i
def qc (g:af) (f:af) (i:af->af->Option Int):Nat->Int->Int->Option Int
 | 0,_,_=>none
 | j+1,k,b=>bif (decide (k=(0:Int))) then(bif ((decide (((g.aD.l.length:Nat):Int)<=b))||(decide (((f.aD.l.length:Nat):Int)<=b))) then((rL ((g.aD.l.length:Nat):Int) ((f.aD.l.length:Nat):Int)).bind fun o=>some o) else((oC g b).bind fun p=>(oC f b).bind fun q=>(uw p q).bind fun m=>bif (decide (m=(0:Int))) then((dh g.aD.l b).bind fun r=>(dh f.aD.l b).bind fun s=>(i r s).bind fun t=>wi b ((qc g f i j)) t) else(wi b ((qc g f i j)) m))) else(Df   k)
def wj (i:af) (b:af) (f:af->af->Option Int) (g:Int):Option Int:=qc i b f F0 g (0:Int)
def wk (f:af) (b:af) (g:af->af->Option Int) (i:Int):Option Int:=bif (decide (i=(0:Int))) then((uw f.bg b.bg).bind fun j=>wj f b g j) else(wj f b g i)
def kE:Nat->af->af->Option Int
 | 0,_,_=>none
 | n+1,f,b=>(rL f.an b.an).bind fun g=>bif (decide (g=(0:Int))) then((rL f.bl b.bl).bind fun i=>wk f b (kE n) i) else(wk f b (kE n) g)
def Dg (n:Nat):Prop:=∀{a0:af}{b:af}   {r:Int},kE n a0 b=some r->∀(H:ai),AC Tryz.prog 119 [.agg (af.c a0),.agg (af.c b)] H fun v h'=>v=.a (.d (.int .i64 r))/\h'=H
theorem RC (n:Nat) (t:Dg (ax:=ax) n):Dg (ax:=ax) (n+1):=by
 intro i g   r b H ;rw [kE] at b;refine AC.oW 70 [.tmp 4] Tryz.call119 Tryz.func119 ?_;refine ag (S BX (S BX (S As (nil ?_))));refine ag (S Fv (S Ld (S Fv (S Ld ?_))));obtain⟨u,v,b⟩:=bO b;refine Sc rfl rfl (Dd v) ?_;refine S As (nil ?_);refine aQ (TA 2 (TA 3 kN)) (fun(z:Int)=>[(5,.a (.d (.int .i64 z)))]) (fun z=>H) (fun z=>wk i g (kE n) z=some r) ?_ ?_
 ·intro am l;refine ag (S Mv (S BI (nil ?_)));refine cE b (fun w b=>?_) (fun w b=>?_)
  ·refine region ?_;refine S Fv (S Ld (S Fv (S Ld ?_)));obtain⟨y,B,b⟩:=bO b;refine Sc rfl rfl (Dd B) ?_;refine S As (nil ?_);exact l _ y wA b
  refine ah.skip ?_;exact l _ u wA b
 rintro C b;try dsimp only at b
 unfold wk at b;refine aQ (TA 2 (TA 3 kN)) (fun(z:Int)=>[(5,.a (.d (.int .i64 z)))]) (fun z=>H) (fun z=>wj i g (kE n) z=some r) ?_ ?_
 ·intro an m;refine ag (S Mv (S BI (nil ?_)));refine cE b (fun E b=>?_) (fun E b=>?_)
  ·refine region ?_;refine S Fv (S Ld (S Fv (S Ld ?_)));obtain⟨F,G,b⟩:=bO b;refine Sc rfl rfl (HO G) ?_;refine S As (nil ?_);exact m _ F wA b
  refine ah.skip ?_;exact m _ C wA b
 rintro I b;try dsimp only at b
 unfold wj at b;refine aQ kN (fun(z:Int)=>[(5,.a (.d (.int .i64 z)))]) (fun z=>H) (fun z=>Df z=some r) ?_ ?_
 ·intro ao J;refine ag (S As (nil ?_));refine block ?_;refine bA (TA 2 (TA 3 kN)) (fun(z:Nat×Int×Int)=>[(5,.a (.d (.int .i64 z.2.1))),(6,.a (.d (.int .i64 z.2.2)))]) (fun z=>H) (fun z=>z.1) (fun z=>qc i g (kE n) z.1 z.2.1 z.2.2=some r) (F0,I,(0:Int)) b wA ?_;rintro ⟨j,K,L⟩ b ap M;try dsimp only at b
  cases j with
  | zero=>cases b
  | succ j =>
    rw [qc] at b;refine ay fun N o=>?_;refine ag (S Mv (S BI (nil ?_)));refine cE b (fun O b=>?_) (fun O b=>?_)
    ·refine sk o ?_;clear o N;refine aQ (TA 2 (TA 3 (TA 6 kN))) (fun(z:Int)=>[(5,.a (.d (.int .i64 z)))]) (fun z=>H) (fun z=>wi L ((qc i g (kE n) j)) z=some r) ?_ ?_
     ·intro aq p;refine block ?_;refine ay fun P q=>?_;refine ag (S Mv (S Fv ?_));refine s0 (dZ (TK rfl) rfl rfl (congrArg (fun x=>some (A.d x)) (af.dW _))) rfl ?_;refine sLen (f:=af.c) (s:=i.aD) (TK rfl) rfl rfl rfl rfl fun aw=>?_;refine S BI (S Mv (G0 Mv (G0 Fv ?_)));refine gC rfl rfl (fun hC=>aK (k:=37) rfl (dZ (TK rfl) rfl rfl (congrArg (fun x=>some (A.d x)) (af.dW _)))) rfl ?_
      refine gC rfl rfl (fun hC=>aK (k:=38) rfl (cK (f:=af.c) (s:=g.aD) (TK rfl) rfl rfl rfl)) rfl ?_;refine G2 36 39 rfl rfl BI ?_;refine S PO (nil ?_);refine cE b (fun Q b=>?_) (fun Q b=>?_)
      ·refine ag (S Fv ?_);refine s0 (dZ (TK rfl) rfl rfl (congrArg (fun x=>some (A.d x)) (af.dW _))) rfl ?_;refine sLen (f:=af.c) (s:=i.aD) (TK rfl) rfl rfl rfl rfl fun az=>?_;refine S Fv ?_;refine s0 (dZ (TK rfl) rfl rfl (congrArg (fun x=>some (A.d x)) (af.dW _))) rfl ?_;refine sLen (f:=af.c) (s:=g.aD) (TK rfl) rfl rfl rfl rfl fun aA=>?_;obtain⟨aB,R,b⟩:=bO b
       refine Sc rfl rfl (Dd R) ?_;refine S As (nil ?_);exact rt b
      refine sk q ?_;clear q P;refine ah.cr (Sd Ld (Sd Mv ?_));obtain⟨aC,U,b⟩:=bO b;refine cM rfl rfl (HP U) ?_;refine Sd Ld (Sd Mv ?_);obtain⟨aE,W,b⟩:=bO b;refine cM rfl rfl (HP W) ?_;obtain⟨X,Y,b⟩:=bO b;refine cM rfl rfl (HO Y) ?_;refine Sd As ?_;refine au.nil (by decide +kernel) ?_;refine ag (S Mv (S BI (nil ?_)));refine cE b (fun Z b=>?_) (fun Z b=>?_)
      ·refine ah.draw rfl ?_;refine Sd Fv ?_;refine au.s0 (dZ (TK rfl) rfl rfl (congrArg (fun x=>some (A.d x)) (af.dW _))) rfl ?_;refine Sd Mv ?_;obtain⟨aF,aa,b⟩:=bO b;refine au.s0 (jS (f:=af.c) (TK rfl) rfl (TK rfl) rfl rfl rfl aa) rfl ?_;refine Sd Ld (Sd Fv ?_);refine au.s0 (dZ (TK rfl) rfl rfl (congrArg (fun x=>some (A.d x)) (af.dW _))) rfl ?_;refine Sd Mv ?_
       obtain⟨aG,ab,b⟩:=bO b;refine au.s0 (jS (f:=af.c) (TK rfl) rfl (TK rfl) rfl rfl rfl ab) rfl ?_;refine Sd Ld ?_;obtain⟨ad,ae,b⟩:=bO b;refine cM rfl rfl (t ae) ?_;refine Sd As ?_;refine au.nil (by decide +kernel) ?_;exact p _ ad wA b
      refine ah.skip ?_;exact p _ X wA b
     rintro aj b;try dsimp only at b
     unfold wi at b;refine region ?_;refine S Mv ?_;obtain⟨ak,al,b⟩:=bO b;refine s0 (eR rfl rfl al) rfl ?_;refine S As (nil ?_);exact M _ (j,aj,ak) wA b (nS _)
    refine ah.exit ?_;exact J _ K wA b
 rintro aH b;try dsimp only at b
 unfold Df at b;refine ag (S Mv (S As (nil ?_)));exact rt b
theorem HQ:∀(n:Nat),(Dg (ax:=ax) n)
 | 0=>fun b=>by first|cases b|(rw [kE] at b; cases b)
 | n+1=>RC n (HQ n)
def Di (f:af) (b:af):Option Int:=kE F0 f b
theorem RD {f b:af}{r:Int}(g:Di f b=some r) (H:ai) :AC Tryz.prog 119 [.agg (af.c f),.agg (af.c b)] H fun v h'=>v=.a (.d (.int .i64 r))/\h'=H:=(HQ F0) g H 
def rM (g:af) (b:af):Option Bool:=(Di g b).bind fun f=>some (decide (f=(0:Int)))
def yK (f:af) (b:af):Option Bool:=rM f b
theorem HR (a0:af) (b:af):yK a0 b=rM a0 b:=rfl
theorem HS {g f:af}{r:Bool}(b:yK g f=some r) (H:ai) :AC Tryz.prog 79 [.agg (af.c g),.agg (af.c f)] H fun v h'=>v=.a (.d (.bool r))/\h'=H:=by
 unfold yK rM at b;refine AC.oW 9 [.tmp 4] Tryz.call79 Tryz.func79 ?_;refine ag (S BX (S BX (S As (nil ?_))));refine ag (S Ld (S Ld ?_));obtain⟨j,i,b⟩:=qT rfl b;refine Sc rfl rfl (RD i) ?_;refine S BI (S As (nil ?_));exact rt b
def ux  :Option Bool:=some true
def uy (b:Nat) (f:Nat->Option Bool) :Option Bool:=f (b+1)
def uz (j:(Sl aC)) (k:(Sl aC)) (b:Nat) (m:Nat->Option Bool):Nat->Nat->Option Bool
 | 0,_=>none
 | o+1,f=>(j.l[b]?).bind fun p=>bif (decide (((f:Nat):Int)<((p.aH.l.length:Nat):Int))) then((j.l[b]?).bind fun q=>(q.aH.l[f]?).bind fun g=>(k.l[b]?).bind fun r=>(r.aH.l[f]?).bind fun i=>aR (!(!(g.aa==i.aa))) (j.l[b]?) aC.zero fun s=>aR (!(!(g.aa==i.aa))) (s.aH.l[f]?) bQ.zero fun t=>aR (!(!(g.aa==i.aa))) (k.l[b]?) aC.zero fun u=>aR (!(!(g.aa==i.aa))) (u.aH.l[f]?) bQ.zero fun v=>aR (!(!(g.aa==i.aa))) (yK t.gh v.gh) false fun w=>bif ((!(g.aa==i.aa))||(!w)) then(some false) else((uz j k b m o) (f+1))) else(uy b m )
def oE (f:(Sl aC)) (g:(Sl aC)) :Nat->Nat->Option Bool
 | 0,_=>none
 | k+1,b=>bif (decide (((b:Nat):Int)<((f.l.length:Nat):Int))) then((f.l[b]?).bind fun i=>(g.l[b]?).bind fun j=>aR (!(!(i.aa==j.aa))) (f.l[b]?) aC.zero fun m=>aR (!(!(i.aa==j.aa))) (g.l[b]?) aC.zero fun o=>bif ((!(i.aa==j.aa))||(!decide (((m.aH.l.length:Nat):Int)=((o.aH.l.length:Nat):Int)))) then(some false) else(uz f g b ((oE f g k)) (Option.elim (f.l[b]?) 1 (fun p=>p.aH.l.length+1)) 0)) else(ux   )
def yL (b:(Sl aC)) (f:(Sl aC)):Option Bool:=bif (!decide (((b.l.length:Nat):Int)=((f.l.length:Nat):Int))) then(some false) else(oE b f (b.l.length+1) 0)
theorem yM {i j:Sl aC}{w0 E:Option Nat}{r:Bool}(b:yL i j=some r) (H:ai) :AC Tryz.prog 45 [.d (Sl.d 2 aC.c w0 i),.d (Sl.d 2 aC.c E j)] H fun v h'=>v=.a (.d (.bool r))/\h'=H:=by
 unfold yL at b;refine AC.oW 95 [.tmp 4] Tryz.call45 Tryz.func45 ?_;refine ag (S As (nil ?_));refine ay fun F w=>?_;refine ag (S Mv ?_);refine sLen (f:=aC.c) (s:=i) (TK rfl) rfl rfl rfl rfl fun ap=>?_;refine S Mv ?_;refine sLen (f:=aC.c) (s:=j) (TK rfl) rfl rfl rfl rfl fun aq=>?_;refine S BI (nil ?_);refine cE b (fun G b=>?_) (fun G b=>?_)
 ·refine ag (S As (nil ?_));exact rt b
 refine sk w ?_;clear w F;refine aQ kN (fun(z:Unit)=>[]) (fun z=>H) (fun z=>ux =some r) ?_ ?_
 ·intro aw I;refine ag (S As (nil ?_));refine block ?_;refine bA (TA 0 (TA 1 kN)) (fun(z:Nat×Nat)=>[(5,.a (.d (.int .i64 ((z.2:Nat):Int))))]) (fun z=>H) (fun z=>z.1) (fun z=>oE i j z.1 z.2=some r) ((i.l.length+1),0) b wA ?_;rintro ⟨m,g⟩ b ax J;try dsimp only at b
  cases m with
  | zero=>cases b
  | succ m =>
    rw [oE] at b;refine ay fun K x=>?_;refine ag (S Mv (S Mv ?_));refine sLen (f:=aC.c) (s:=i) (TK rfl) rfl rfl rfl rfl fun az=>?_;refine S BI (nil ?_);refine cE b (fun p b=>?_) (fun p b=>?_)
    ·try dsimp only at p
     have aA:=oD p;refine sk x ?_;clear x K;refine aQ (TA 0 (TA 1 (TA 5 kN))) (fun(z:Unit)=>[]) (fun z=>H) (fun z=>uy g ((oE i j m)) =some r) ?_ ?_
     ·intro aB L;refine block ?_;refine ay fun M y=>?_;refine ah.cr (Sd Mv (Sd Mv ?_));obtain⟨aD,N,b⟩:=bO b;refine Sd (ix aC.c g N) (Sd Fv (Sd Ld (Sd Mv (Sd Mv ?_))));obtain⟨aE,O,b⟩:=bO b;refine Sd (ix aC.c g O) (Sd Fv (Sd Ld (Sd BS (Sd Mv (dr Mv (dr Mv ?_))))));obtain⟨P,Q,b⟩:=gO b;refine au.gC rfl rfl (fun hC=>aK (k:=30) rfl (aK (k:=31) rfl (ee (f:=aC.c) (n:=g) (TK rfl) rfl (TK rfl) rfl rfl rfl (Q hC)))) rfl ?_
      refine dK 32 rfl Fv ?_;refine dK 33 rfl Ld ?_;refine au.gC rfl rfl (fun hC=>aK (k:=34) rfl (cK (f:=bQ.c) (s:=P.aH) (TK rfl) rfl rfl rfl)) rfl ?_;refine dr Mv (dr Mv ?_);obtain⟨R,U,b⟩:=gO b;refine au.gC rfl rfl (fun hC=>aK (k:=36) rfl (aK (k:=37) rfl (ee (f:=aC.c) (n:=g) (TK rfl) rfl (TK rfl) rfl rfl rfl (U hC)))) rfl ?_;refine dK 38 rfl Fv ?_;refine dK 39 rfl Ld ?_
      refine au.gC rfl rfl (fun hC=>aK (k:=40) rfl (cK (f:=bQ.c) (s:=R.aH) (TK rfl) rfl rfl rfl)) rfl ?_;refine xk 35 41 rfl rfl BI ?_;refine Sd PO ?_;refine au.nil (by decide +kernel) ?_;refine cE b (fun W b=>?_) (fun W b=>?_)
      ·refine ag (S As (nil ?_));exact rt b
      refine sk y ?_;clear y M;refine ag (S As (nil ?_));refine block ?_;refine bA (TA 0 (TA 1 (TA 5 kN))) (fun(z:Nat×Nat)=>[(6,.a (.d (.int .i64 ((z.2:Nat):Int))))]) (fun z=>H) (fun z=>z.1) (fun z=>uz i j g ((oE i j m)) z.1 z.2=some r) ((Option.elim (i.l[g]?) 1 (fun q=>q.aH.l.length+1)),0) b wA ?_;rintro ⟨t,o⟩ b aF X;try dsimp only at b
      cases t with
      | zero=>cases b
      | succ t =>
        rw [uz] at b;refine ay fun Y B=>?_;refine ag (S Mv (S Mv (S Mv ?_)));obtain⟨q,Z,b⟩:=bO b;refine S (ix aC.c g Z) (S Fv (S Ld ?_));refine sLen (f:=bQ.c) (s:=q.aH) (TK rfl) rfl rfl rfl rfl fun aG=>?_;refine S BI (nil ?_);refine cE b (fun u b=>?_) (fun u b=>?_)
        ·try dsimp only at u
         have aI:=oD u;refine sk B ?_;clear B Y;refine ay fun aa C=>?_;refine block ?_;refine ah.cr (Sd Mv (Sd Mv ?_));obtain⟨aJ,ab,b⟩:=bO b;refine Sd (ix aC.c g ab) (Sd Fv (Sd Ld (Sd Mv ?_)));obtain⟨aL,ad,b⟩:=bO b;refine Sd (ix bQ.c o ad) (Sd Fv (Sd Ld (Sd Mv (Sd Mv ?_))));obtain⟨aM,ae,b⟩:=bO b;refine Sd (ix aC.c g ae) (Sd Fv (Sd Ld (Sd Mv ?_)))
         obtain⟨aN,af,b⟩:=bO b;refine Sd (ix bQ.c o af) (Sd Fv (Sd Ld (Sd BS (Sd Mv (dr Mv (dr Mv ?_))))));obtain⟨aO,aj,b⟩:=gO b;refine au.gC rfl rfl (fun hC=>aK (k:=74) rfl (aK (k:=75) rfl (ee (f:=aC.c) (n:=g) (TK rfl) rfl (TK rfl) rfl rfl rfl (aj hC)))) rfl ?_;refine dK 76 rfl Fv ?_;refine dK 77 rfl Ld ?_;refine dr Mv ?_;obtain⟨aP,ak,b⟩:=gO b;refine au.gC rfl rfl (fun hC=>aK (k:=78) rfl (aK (k:=79) rfl (ee (f:=bQ.c) (n:=o) (TK rfl) rfl (TK rfl) rfl rfl rfl (ak hC)))) rfl ?_
         refine dK 80 rfl Fv ?_;refine dK 81 rfl Ld ?_;refine dr Mv (dr Mv ?_);obtain⟨aR,al,b⟩:=gO b;refine au.gC rfl rfl (fun hC=>aK (k:=83) rfl (aK (k:=84) rfl (ee (f:=aC.c) (n:=g) (TK rfl) rfl (TK rfl) rfl rfl rfl (al hC)))) rfl ?_;refine dK 85 rfl Fv ?_;refine dK 86 rfl Ld ?_;refine dr Mv ?_;obtain⟨aT,am,b⟩:=gO b;refine au.gC rfl rfl (fun hC=>aK (k:=87) rfl (aK (k:=88) rfl (ee (f:=bQ.c) (n:=o) (TK rfl) rfl (TK rfl) rfl rfl rfl (am hC)))) rfl ?_
         refine dK 89 rfl Fv ?_;refine dK 90 rfl Ld ?_;obtain⟨aU,an,b⟩:=gO b;refine u3 82 91 rfl rfl rfl rfl rfl rfl (fun hC=>HS (an hC)) ?_;refine dK 92 rfl NB ?_;refine Sd PO ?_;refine au.nil (by decide +kernel) ?_;refine cE b (fun ao b=>?_) (fun ao b=>?_)
         ·refine ag (S As (nil ?_));exact rt b
         refine sk C ?_;clear C aa;refine region ?_;refine S Mv ?_;refine SI ?_;refine S As (nil ?_);exact X _ (t,(o+1)) wA b (nS _)
        refine ah.exit ?_;exact L _ () wA b
     rintro _ b;try dsimp only at b
     unfold uy at b;refine region ?_;refine S Mv ?_;refine SI ?_;refine S As (nil ?_);exact J _ (m,(g+1)) wA b (nS _)
    refine ah.exit ?_;exact I _ () wA b
 rintro _ b;try dsimp only at b
 unfold ux at b;refine ag (S As (nil ?_));exact rt b
def rN (i:(Sl aC)) (j:Nat) (k:aC):List bQ->Nat->Option (Unit ⊕ Bool)
 | [],g=>some (Sum.inl ())
 | m::o,g=>on (k) fun v=>on (m) fun b=>(i.l[j]?).bind fun p=>(p.aH.l[g]?).bind fun f=>on (bif !(!(b.aa==f.aa)) then k else aC.zero) fun q=>aR (!(!(b.aa==f.aa))) (q.aH.l[g]?) bQ.zero fun r=>aR (!(!(b.aa==f.aa))) (i.l[j]?) aC.zero fun s=>aR (!(!(b.aa==f.aa))) (s.aH.l[g]?) bQ.zero fun t=>aR (!(!(b.aa==f.aa))) (rM r.gh t.gh) false fun u=>bif ((!(b.aa==f.aa))||(!u)) then(some (Sum.inr false)) else(rN i j k (o) (g+1) )
theorem RE {r o:Sl aC}{i:Nat}{p:Nat->Option Bool}{j:aC}(k:r.l[i]?=some j) (m:(Unit ⊕ Bool)->Option Bool) (s:∀(f:Nat) (b:Nat),uy i p =m (Sum.inl ())) (t:∀e:Bool,some e=m (Sum.inr e)):∀(f:Nat) (b:Nat),(0<f/\j.aH.l.length<b+f)->uz r o i p f b=Option.bind (rN o i j (j.aH.l.drop b) b ) m:=by
 intro f;induction f with
 | zero=>intro b hn; exact absurd hn.1 (by omega)
 | succ f u =>
  intro b hn;rw [uz];refine Q.preB k fun v w=>?_;subst w;by_cases bw:b<v.aH.l.length
  ·obtain⟨x,g⟩:=Qa bw;rw [Q.k8 g,rN];refine QT bw ?_;refine Q.pg k fun y q=>?_;refine Q.pg (by first|exact g|(simp only [q]; exact g)|(simp only [q] at g ⊢; exact g)) fun z B=>?_;refine Q.Ah rfl fun C=>?_;refine Q.Ah rfl fun E=>?_;refine Q.Ai k fun F G=>?_;refine Q.qN rfl fun H=>?_;refine Q.qN rfl fun I=>?_
   refine Q.qN rfl fun J=>?_;refine Q.qN (HR _ _) fun K=>?_;refine Q.pe ?_ ?_
   ·all_goals exact t _
   all_goals exact u _ ⟨by omega,by omega⟩
  rw [dL (by omega),rN];refine QF bw ?_;exact s f b
def rO (f:(Sl aC)):List aC->Nat->Option (Unit ⊕ Bool)
 | [],b=>some (Sum.inl ())
 | g::k,b=>on (g) fun i=>(f.l[b]?).bind fun j=>on (bif !(!(i.aa==j.aa)) then g else aC.zero) fun m=>aR (!(!(i.aa==j.aa))) (f.l[b]?) aC.zero fun o=>bif ((!(i.aa==j.aa))||(!decide (((m.aH.l.length:Nat):Int)=((o.aH.l.length:Nat):Int)))) then(some (Sum.inr false)) else(Option.bind (rN f b g g.aH.l 0 ) fun p=>match p with|Sum.inl _=>(on (()) fun _=>rO f (k) (b+1) )|Sum.inr q=>(some (Sum.inr q)))
theorem RG {i j:Sl aC}(k:(Unit ⊕ Bool)->Option Bool) (p:∀(f:Nat) (b:Nat),ux   =k (Sum.inl ())) (m:∀e:Bool,some e=k (Sum.inr e)):∀(f:Nat) (b:Nat),(0<f/\i.l.length<b+f)->oE i j f b=Option.bind (rO j (i.l.drop b) b ) k:=by
 intro f;induction f with
 | zero=>intro b hn; exact absurd hn.1 (by omega)
 | succ f q =>
  intro b hn;rw [oE];by_cases bw:b<i.l.length
  ·obtain⟨v,g⟩:=Qa bw;rw [Q.k8 g,rO];refine QT bw ?_;refine Q.pg g fun w x=>?_;refine Q.Ah rfl fun y=>?_;refine Q.Ai g fun z B=>?_;refine Q.qN rfl fun C=>?_;refine Q.pe ?_ ?_
   ·all_goals exact m _
   refine Q.xe fun r o=>?_;refine RE g r ?_ ?_ _ _ ⟨by rw [g]; exact Nat.succ_pos _,by rw [g]; simp only [Option.elim]; omega⟩
   ·intro E F;refine Qe (o _) ?_;try dsimp only
    refine Q.xd fun s t=>?_;have u:uy b (oE i j f) =s ():=by
     refine Qe (t _) ?_;unfold uy;all_goals exact q _ ⟨by omega,by omega⟩
    all_goals exact u
   intro G;refine Qe (o _) ?_;try dsimp only
   all_goals exact m _
  rw [dL (by omega),rO];refine QF bw ?_;exact p f b
def qd (f:(Sl aC)) (b:(Sl aC)):Option Bool:=bif (!decide (((f.l.length:Nat):Int)=((b.l.length:Nat):Int))) then(some false) else(Option.bind (rO b f.l 0 ) fun g=>match g with|Sum.inl _=>(on (()) fun _=>some true)|Sum.inr i=>(some i))
theorem yN (a0:(Sl aC)) (b:(Sl aC)):yL a0 b=qd a0 b:=by
 unfold yL qd;refine Qs ?_;refine Q.pe ?_ ?_
 ·all_goals rfl
 refine Q.xe fun g f=>?_;refine RG  g ?_ ?_ _ _ ⟨Nat.succ_pos _,by omega⟩
 ·intro l m;refine Qe (f _) ?_;try dsimp only
  refine Q.xd fun i j=>?_;have k:ux  =i ():=by
   refine Qe (j _) ?_;unfold ux;all_goals rfl
  all_goals exact k
 intro o;refine Qe (f _) ?_;try dsimp only
 all_goals rfl
def qe (j:(Sl Z8)):List Z8->Nat->Option (Unit ⊕ Bool)
 | [],g=>some (Sum.inl ())
 | m::o,g=>on (m) fun b=>(j.l[g]?).bind fun f=>aR (!(!(b.aa==f.aa))) (mA b.aA f.aA) false fun i=>aR (!(((!(b.aa==f.aa))||(!i))||(!(b.bY==f.bY)))) (rM b.cB f.cB) false fun k=>aR (!((((!(b.aa==f.aa))||(!i))||(!(b.bY==f.bY)))||(!k))) (qd b.bp f.bp) false fun p=>bif (((((!(b.aa==f.aa))||(!i))||(!(b.bY==f.bY)))||(!k))||(!p)) then(some (Sum.inr false)) else(qe j (o) (g+1) )
def oF (f:(Sl Z8)) (b:(Sl Z8)):Option Bool:=bif (!decide (((f.l.length:Nat):Int)=((b.l.length:Nat):Int))) then(some false) else(Option.bind (qe b f.l 0 ) fun g=>match g with|Sum.inl _=>(on (()) fun _=>some true)|Sum.inr i=>(some i))
def Dj (f:(Sl Z8)) (b:(Sl Z8)):Option Bool:=oF f b
theorem HT (a0:(Sl Z8)) (b:(Sl Z8)):Dj a0 b=oF a0 b:=rfl
theorem HU {g i:Sl Z8}{w0 x:Option Nat}{r:Bool}(b:Dj g i=some r) (H:ai) :AC Tryz.prog 47 [.d (Sl.d 10 Z8.c w0 g),.d (Sl.d 10 Z8.c x i)] H fun v h'=>v=.a (.d (.bool r))/\h'=H:=by
 unfold Dj oF at b;refine AC.oW 63 [.tmp 4] Tryz.call47 Tryz.func47 ?_;refine ag (S As (nil ?_));refine ay fun y o=>?_;refine ag (S Mv ?_);refine sLen (f:=Z8.c) (s:=g) (TK rfl) rfl rfl rfl rfl fun P=>?_;refine S Mv ?_;refine sLen (f:=Z8.c) (s:=i) (TK rfl) rfl rfl rfl rfl fun Q=>?_;refine S BI (nil ?_);refine cE b (fun B b=>?_) (fun B b=>?_)
 ·refine ag (S As (nil ?_));exact rt b
 refine sk o ?_;clear o y;refine aQ kN (fun(z:Unit)=>[]) (fun z=>H) (fun z=>(some true)=some r) ?_ ?_
 ·intro R C;refine ag (S As (nil ?_));refine block ?_;obtain⟨p,q,b⟩:=b_ b;refine bA (TA 0 (TA 1 kN)) (fun(z:Nat)=>[(5,.a (.d (.int .i64 ((z:Nat):Int))))]) (fun z=>H) (fun z=>g.l.length-z) (fun z=>Option.bind (qe i (g.l.drop z) z ) p=some r) 0 b wA ?_;rintro j b U E;try dsimp only at b
  refine ay fun F t=>?_;refine ag (S Mv (S Mv ?_));refine sLen (f:=Z8.c) (s:=g) (TK rfl) rfl rfl rfl rfl fun W=>?_;refine S BI (nil ?_);refine ah.bN (fun l=>Option.bind (qe i l j ) p=some r) b rfl (fun X u m b=>?_) (fun m b=>?_)
  ·rw [qe] at b;try dsimp only at m
   have Y:=oD m;refine sk t ?_;clear t F;refine ay fun G w=>?_;refine block ?_;refine ah.cr (Sd Mv (Sd Mv ?_));obtain⟨Z,I,b⟩:=vO u b;refine Sd (ix Z8.c j I) (Sd Ld (Sd Mv (Sd Mv ?_)));obtain⟨aa,J,b⟩:=qO rfl b;refine Sd (ix Z8.c j J) (Sd Ld ?_);refine au.sB (TK rfl) rfl rfl ?_ (by repeat (first|exact bL.nil|apply bL.cons));refine au.sB (TK rfl) rfl rfl ?_ (by repeat (first|exact bL.nil|apply bL.cons))
   refine au.dB (eG (TK rfl) rfl rfl rfl rfl rfl) ?_;refine au.dB (eG (TK rfl) rfl rfl rfl rfl rfl) ?_;refine au.nil (by decide +kernel) ?_;refine bu 7 _ rfl (KA 0 (KA 1 (KA 5 (KA 6 aS.nil)))) ?_;refine bu 6 _ rfl (KA 0 (KA 1 (KA 5 (KA 7 aS.nil)))) ?_;refine ag (S Fv (S Ld (S Fv (S Ld (S BS (S Mv (G0 Fv ?_)))))));refine G1 33 rfl Ld ?_;refine G0 Fv ?_;refine G1 35 rfl Ld ?_
   obtain⟨ab,K,b⟩:=eS (AP _ _) b;refine fw 34 36 rfl rfl rfl rfl rfl rfl (fun hC=>AR (K hC)) ?_;refine G1 37 rfl NB ?_;refine S PO (S Mv (G0 Fv ?_));refine G1 41 rfl Ld ?_;refine G0 Fv ?_;refine G1 43 rfl Ld ?_;refine gC rfl rfl (fun hC=>aK (k:=42) rfl (aK (k:=44) rfl (LP (TK rfl) rfl rfl rfl))) rfl ?_;refine S PO (S Mv (G0 Fv ?_));refine G1 48 rfl Ld ?_;refine G0 Fv ?_
   refine G1 50 rfl Ld ?_;obtain⟨ad,L,b⟩:=eS (HR _ _) b;refine fw 49 51 rfl rfl rfl rfl rfl rfl (fun hC=>HS (L hC)) ?_;refine G1 52 rfl NB ?_;refine S PO (S Mv (G0 Fv ?_));refine G1 56 rfl Ld ?_;refine G0 Fv ?_;refine G1 58 rfl Ld ?_;obtain⟨ae,M,b⟩:=eS (yN _ _) b;refine fw 57 59 rfl rfl rfl rfl rfl rfl (fun hC=>yM (M hC)) ?_;refine G1 60 rfl NB ?_;refine S PO (nil ?_)
   refine cO b (fun N b=>?_) (fun N b=>?_)
   ·refine ag (S As (nil ?_));refine ah.ret ?_;repeat (first|refine bF ?_|refine bG ?_)
    have b:=ku q b;obtain rfl:=oJ b;refine bn.bH H rfl ⟨rfl,rfl⟩ ?_;exact(fun _ _ h=>h)
   refine sk w ?_;clear w G;refine region ?_;refine S Mv ?_;refine SI ?_;refine S As (nil ?_);exact E _ (j+1) wA b (dl u)
  rw [qe] at b;have b:=ku q b;try dsimp only at b
  refine ah.exit ?_;obtain⟨af,O,b⟩:=bW b;have b:=ku O b;exact C _ () wA b
 rintro _ b;try dsimp only at b
 refine ag (S As (nil ?_));exact rt b
def qf (j:aj):List Z7->Nat->Option (Unit ⊕ Bool)
 | [],g=>some (Sum.inl ())
 | m::o,g=>on (m) fun b=>(j.aB.l[g]?).bind fun f=>aR (!(!(b.aa==f.aa))) (mA b.aA f.aA) false fun i=>aR (!((!(b.aa==f.aa))||(!i))) (qd b.bp f.bp) false fun k=>aR (!(((!(b.aa==f.aa))||(!i))||(!k))) (oF b.aH f.aH) false fun p=>bif ((((!(b.aa==f.aa))||(!i))||(!k))||(!p)) then(some (Sum.inr false)) else(qf j (o) (g+1) )
def oG (i:aj):List Z9->Nat->Option (Unit ⊕ Bool)
 | [],b=>some (Sum.inl ())
 | j::k,b=>on (j) fun f=>(i.aG.l[b]?).bind fun g=>on (bif !(!(f.aa==g.aa)) then j else Z9.zero) fun m=>aR (!(!(f.aa==g.aa))) (i.aG.l[b]?) Z9.zero fun o=>aR (!(!(f.aa==g.aa))) (qd m.bp o.bp) false fun p=>bif ((!(f.aa==g.aa))||(!p)) then(some (Sum.inr false)) else(oG i (k) (b+1) )
def uA (f:aj) (b:aj):Option Bool:=aR (!((!decide (f.an=b.an))||(!(f.aa==b.aa)))) (uv f.aX b.aX) false fun g=>aR (!(((!decide (f.an=b.an))||(!(f.aa==b.aa)))||(!g))) (qd f.bp b.bp) false fun i=>bif ((((((!decide (f.an=b.an))||(!(f.aa==b.aa)))||(!g))||(!i))||(!decide (((f.aB.l.length:Nat):Int)=((b.aB.l.length:Nat):Int))))||(!decide (((f.aG.l.length:Nat):Int)=((b.aG.l.length:Nat):Int)))) then(some false) else(Option.bind (qf b f.aB.l 0 ) fun j=>match j with|Sum.inl _=>(on (()) fun _=>Option.bind (oG b f.aG.l 0 ) fun k=>match k with|Sum.inl _=>(on (()) fun _=>(oF f.aL b.aL).bind fun m=>some m)|Sum.inr o=>(some o))|Sum.inr p=>(some p))
def Dk (f:aj) (b:aj):Option Bool:=uA f b
theorem RH (a0:aj) (b:aj):Dk a0 b=uA a0 b:=rfl
theorem RI {g i:aj}{r:Bool}(b:Dk g i=some r) (H:ai) :AC Tryz.prog 20 [.agg (aj.c g),.agg (aj.c i)] H fun v h'=>v=.a (.d (.bool r))/\h'=H:=by
 unfold Dk uA at b;refine AC.oW 142 [.tmp 4] Tryz.call20 Tryz.func20 ?_;refine ag (S BX (S BX (S As (nil ?_))));refine ay fun J u=>?_;refine ag (S Fv (S Ld (S Fv (S Ld (S BI (S Mv (G0 Fv ?_)))))));refine G1 15 rfl Ld ?_;refine G0 Fv ?_;refine G1 17 rfl Ld ?_;refine G2 16 18 rfl rfl BS ?_;refine S PO (S Mv (G0 Fv ?_));refine G1 22 rfl Ld ?_;refine G0 Fv ?_;refine G1 24 rfl Ld ?_;obtain⟨aA,K,b⟩:=dQ (Ry _ _) b
 refine fw 23 25 rfl rfl rfl rfl rfl rfl (fun hC=>Rz (K hC)) ?_;refine G1 26 rfl NB ?_;refine S PO (S Mv (G0 Fv ?_));refine G1 30 rfl Ld ?_;refine G0 Fv ?_;refine G1 32 rfl Ld ?_;obtain⟨aC,L,b⟩:=dQ (yN _ _) b;refine fw 31 33 rfl rfl rfl rfl rfl rfl (fun hC=>yM (L hC)) ?_;refine G1 34 rfl NB ?_;refine S PO (S Mv (G0 Fv ?_));refine G1 38 rfl Ld ?_;refine gC rfl rfl (fun hC=>aK (k:=39) rfl (cK (f:=Z7.c) (s:=g.aB) (TK rfl) rfl rfl rfl)) rfl ?_
 refine G0 Fv ?_;refine G1 41 rfl Ld ?_;refine gC rfl rfl (fun hC=>aK (k:=42) rfl (cK (f:=Z7.c) (s:=i.aB) (TK rfl) rfl rfl rfl)) rfl ?_;refine G2 40 43 rfl rfl BI ?_;refine S PO (S Mv (G0 Fv ?_));refine G1 47 rfl Ld ?_;refine gC rfl rfl (fun hC=>aK (k:=48) rfl (cK (f:=Z9.c) (s:=g.aG) (TK rfl) rfl rfl rfl)) rfl ?_;refine G0 Fv ?_;refine G1 50 rfl Ld ?_;refine gC rfl rfl (fun hC=>aK (k:=51) rfl (cK (f:=Z9.c) (s:=i.aG) (TK rfl) rfl rfl rfl)) rfl ?_
 refine G2 49 52 rfl rfl BI ?_;refine S PO (nil ?_);refine cE b (fun M b=>?_) (fun M b=>?_)
 ·refine ag (S As (nil ?_));exact rt b
 refine sk u ?_;clear u J;refine aQ (TA 2 (TA 3 kN)) (fun(z:Unit)=>[]) (fun z=>H) (fun z=>(Option.bind (oG i g.aG.l 0 ) fun N=>match N with|Sum.inl _=>(on (()) fun _=>(oF g.aL i.aL).bind fun m=>some m)|Sum.inr O=>(some O))=some r) ?_ ?_
 ·intro aD P;refine ag (S As (nil ?_));refine block ?_;obtain⟨w,x,b⟩:=b_ b;refine bA (TA 2 (TA 3 kN)) (fun(z:Nat)=>[(5,.a (.d (.int .i64 ((z:Nat):Int))))]) (fun z=>H) (fun z=>g.aB.l.length-z) (fun z=>Option.bind (qf i (g.aB.l.drop z) z ) w=some r) 0 b wA ?_;rintro o b aE Q;try dsimp only at b
  refine ay fun R y=>?_;refine ag (S Mv (S Fv (S Ld ?_)));refine sLen (f:=Z7.c) (s:=g.aB) (TK rfl) rfl rfl rfl rfl fun aF=>?_;refine S BI (nil ?_);refine ah.bN (fun l=>Option.bind (qf i l o ) w=some r) b rfl (fun aH B p b=>?_) (fun p b=>?_)
  ·rw [qf] at b;try dsimp only at p
   have aI:=oD p;refine sk y ?_;clear y R;refine ay fun U C=>?_;refine block ?_;refine ah.cr (Sd Fv (Sd Ld (Sd Mv ?_)));obtain⟨aJ,W,b⟩:=vO B b;refine Sd (ix Z7.c o W) (Sd Ld (Sd Fv (Sd Ld (Sd Mv ?_))));obtain⟨aM,X,b⟩:=qO rfl b;refine Sd (ix Z7.c o X) (Sd Ld ?_);refine au.sB (TK rfl) rfl rfl ?_ (by repeat (first|exact bL.nil|apply bL.cons))
   refine au.sB (TK rfl) rfl rfl ?_ (by repeat (first|exact bL.nil|apply bL.cons));refine au.dB (eG (TK rfl) rfl rfl rfl rfl rfl) ?_;refine au.dB (eG (TK rfl) rfl rfl rfl rfl rfl) ?_;refine au.nil (by decide +kernel) ?_;refine bu 7 _ rfl (KA 2 (KA 3 (KA 5 (KA 6 aS.nil)))) ?_;refine bu 6 _ rfl (KA 2 (KA 3 (KA 5 (KA 7 aS.nil)))) ?_;refine ag (S Fv (S Ld (S Fv (S Ld (S BS (S Mv (G0 Fv ?_)))))))
   refine G1 78 rfl Ld ?_;refine G0 Fv ?_;refine G1 80 rfl Ld ?_;obtain⟨aN,Y,b⟩:=eS (AP _ _) b;refine fw 79 81 rfl rfl rfl rfl rfl rfl (fun hC=>AR (Y hC)) ?_;refine G1 82 rfl NB ?_;refine S PO (S Mv (G0 Fv ?_));refine G1 86 rfl Ld ?_;refine G0 Fv ?_;refine G1 88 rfl Ld ?_;obtain⟨aO,Z,b⟩:=eS (yN _ _) b;refine fw 87 89 rfl rfl rfl rfl rfl rfl (fun hC=>yM (Z hC)) ?_
   refine G1 90 rfl NB ?_;refine S PO (S Mv (G0 Fv ?_));refine G1 94 rfl Ld ?_;refine G0 Fv ?_;refine G1 96 rfl Ld ?_;obtain⟨aP,aa,b⟩:=eS (HT _ _) b;refine fw 95 97 rfl rfl rfl rfl rfl rfl (fun hC=>HU (aa hC)) ?_;refine G1 98 rfl NB ?_;refine S PO (nil ?_);refine cO b (fun ab b=>?_) (fun ab b=>?_)
   ·refine ag (S As (nil ?_));refine ah.ret ?_;repeat (first|refine bF ?_|refine bG ?_)
    have b:=ku x b;obtain rfl:=oJ b;refine bn.bH H rfl ⟨rfl,rfl⟩ ?_;exact(fun _ _ h=>h)
   refine sk C ?_;clear C U;refine region ?_;refine S Mv ?_;refine SI ?_;refine S As (nil ?_);exact Q _ (o+1) wA b (dl B)
  rw [qf] at b;have b:=ku x b;try dsimp only at b
  refine ah.exit ?_;obtain⟨aR,ad,b⟩:=bW b;have b:=ku ad b;exact P _ () wA b
 rintro _ b;try dsimp only at b
 refine aQ (TA 2 (TA 3 kN)) (fun(z:Unit)=>[]) (fun z=>H) (fun z=>((oF g.aL i.aL).bind fun m=>some m)=some r) ?_ ?_
 ·intro aT ae;refine ag (S As (nil ?_));refine block ?_;obtain⟨E,F,b⟩:=b_ b;refine bA (TA 2 (TA 3 kN)) (fun(z:Nat)=>[(8,.a (.d (.int .i64 ((z:Nat):Int))))]) (fun z=>H) (fun z=>g.aG.l.length-z) (fun z=>Option.bind (oG i (g.aG.l.drop z) z ) E=some r) 0 b wA ?_;rintro j b aU af;try dsimp only at b
  refine ay fun ak G=>?_;refine ag (S Mv (S Fv (S Ld ?_)));refine sLen (f:=Z9.c) (s:=g.aG) (TK rfl) rfl rfl rfl rfl fun aV=>?_;refine S BI (nil ?_);refine ah.bN (fun l=>Option.bind (oG i l j ) E=some r) b rfl (fun aW q t b=>?_) (fun t b=>?_)
  ·rw [oG] at b;try dsimp only at t
   have aX:=oD t;refine sk G ?_;clear G ak;refine ay fun al I=>?_;refine block ?_;refine ah.cr (Sd Fv (Sd Ld (Sd Mv ?_)));obtain⟨aY,am,b⟩:=vO q b;refine Sd (ix Z9.c j am) (Sd Fv (Sd Ld (Sd Fv (Sd Ld (Sd Mv ?_)))));obtain⟨aZ,an,b⟩:=qO rfl b;refine Sd (ix Z9.c j an) (Sd Fv (Sd Ld (Sd BS (Sd Mv (dr Fv ?_)))));refine dK 122 rfl Ld ?_;refine dr Mv ?_
   obtain⟨a0,ao,b⟩:=eH (fun _=>q) b;refine au.gC rfl rfl (fun hC=>aK (k:=123) rfl (aK (k:=124) rfl (ee (f:=Z9.c) (n:=j) (TK rfl) rfl (TK rfl) rfl rfl rfl (ao hC)))) rfl ?_;refine dK 125 rfl Fv ?_;refine dK 126 rfl Ld ?_;refine dr Fv ?_;refine dK 128 rfl Ld ?_;refine dr Mv ?_;obtain⟨a1,ap,b⟩:=eS rfl b;refine au.gC rfl rfl (fun hC=>aK (k:=129) rfl (aK (k:=130) rfl (ee (f:=Z9.c) (n:=j) (TK rfl) rfl (TK rfl) rfl rfl rfl (ap hC)))) rfl ?_
   refine dK 131 rfl Fv ?_;refine dK 132 rfl Ld ?_;obtain⟨a2,aq,b⟩:=eS (yN _ _) b;refine u3 127 133 rfl rfl rfl rfl rfl rfl (fun hC=>yM (aq hC)) ?_;refine dK 134 rfl NB ?_;refine Sd PO ?_;refine au.nil (by decide +kernel) ?_;refine cO b (fun aw b=>?_) (fun aw b=>?_)
   ·refine ag (S As (nil ?_));refine ah.ret ?_;repeat (first|refine bF ?_|refine bG ?_)
    have b:=ku F b;obtain rfl:=oJ b;refine bn.bH H rfl ⟨rfl,rfl⟩ ?_;exact(fun _ _ h=>h)
   refine sk I ?_;clear I al;refine region ?_;refine S Mv ?_;refine SI ?_;refine S As (nil ?_);exact af _ (j+1) wA b (dl q)
  rw [oG] at b;have b:=ku F b;try dsimp only at b
  refine ah.exit ?_;obtain⟨a3,ax,b⟩:=bW b;have b:=ku ax b;exact ae _ () wA b
 rintro _ b;try dsimp only at b
 refine ag (S Fv (S Ld (S Fv (S Ld ?_))));obtain⟨m,az,b⟩:=qT (HT _ _) b;refine Sc rfl rfl (HU az) ?_;refine S As (nil ?_);exact rt b
def qg (f:ak):List aj->Nat->Option (Unit ⊕ Bool)
 | [],b=>some (Sum.inl ())
 | g::i,b=>on (g) fun j=>(f.aq.l[b]?).bind fun k=>(uA j k).bind fun m=>bif (!m) then(some (Sum.inr false)) else(qg f (i) (b+1) )
def rP (f:ak) (b:ak):Option Bool:=bif (!decide (((f.aq.l.length:Nat):Int)=((b.aq.l.length:Nat):Int))) then(some false) else(Option.bind (qg b f.aq.l 0 ) fun g=>match g with|Sum.inl _=>(on (()) fun _=>some true)|Sum.inr i=>(some i))
def Dl (f:ak) (b:ak):Option Bool:=rP f b
theorem RJ (a0:ak) (b:ak):Dl a0 b=rP a0 b:=rfl
theorem RK {g i:ak}{r:Bool}(b:Dl g i=some r) (H:ai) :AC Tryz.prog 8 [.agg (ak.c g),.agg (ak.c i)] H fun v h'=>v=.a (.d (.bool r))/\h'=H:=by
 unfold Dl rP at b;refine AC.oW 32 [.tmp 4] Tryz.call8 Tryz.func8 ?_;refine ag (S BX (S BX (S As (nil ?_))));refine ay fun w m=>?_;refine ag (S Fv (S Ld ?_));refine sLen (f:=aj.c) (s:=g.aq) (TK rfl) rfl rfl rfl rfl fun L=>?_;refine S Fv (S Ld ?_);refine sLen (f:=aj.c) (s:=i.aq) (TK rfl) rfl rfl rfl rfl fun M=>?_;refine S BI (nil ?_);refine cE b (fun x b=>?_) (fun x b=>?_)
 ·refine ag (S As (nil ?_));exact rt b
 refine sk m ?_;clear m w;refine aQ kN (fun(z:Unit)=>[]) (fun z=>H) (fun z=>(some true)=some r) ?_ ?_
 ·intro N y;refine ag (S As (nil ?_));refine block ?_;obtain⟨o,p,b⟩:=b_ b;refine bA (TA 2 (TA 3 kN)) (fun(z:Nat)=>[(5,.a (.d (.int .i64 ((z:Nat):Int))))]) (fun z=>H) (fun z=>g.aq.l.length-z) (fun z=>Option.bind (qg i (g.aq.l.drop z) z ) o=some r) 0 b wA ?_;rintro j b O B;try dsimp only at b
  refine ay fun C q=>?_;refine ag (S Mv (S Fv (S Ld ?_)));refine sLen (f:=aj.c) (s:=g.aq) (TK rfl) rfl rfl rfl rfl fun P=>?_;refine S BI (nil ?_);refine ah.bN (fun l=>Option.bind (qg i l j ) o=some r) b rfl (fun Q t k b=>?_) (fun k b=>?_)
  ·rw [qg] at b;try dsimp only at k
   have R:=oD k;refine sk q ?_;clear q C;refine ay fun E u=>?_;refine block ?_;refine ah.cr (Sd Fv (Sd Ld (Sd Mv ?_)));obtain⟨U,F,b⟩:=vO t b;refine Sd (ix aj.c j F) (Sd Ld (Sd Fv (Sd Ld (Sd Mv ?_))));obtain⟨W,G,b⟩:=qO rfl b;refine Sd (ix aj.c j G) (Sd Ld ?_);obtain⟨X,I,b⟩:=qO (RH _ _) b;refine cM rfl rfl (RI I) ?_
   refine Sd NB ?_;refine au.nil (by decide +kernel) ?_;refine cO b (fun J b=>?_) (fun J b=>?_)
   ·refine ag (S As (nil ?_));refine ah.ret ?_;repeat (first|refine bF ?_|refine bG ?_)
    have b:=ku p b;obtain rfl:=oJ b;refine bn.bH H rfl ⟨rfl,rfl⟩ ?_;exact(fun _ _ h=>h)
   refine sk u ?_;clear u E;refine region ?_;refine S Mv ?_;refine SI ?_;refine S As (nil ?_);exact B _ (j+1) wA b (dl t)
  rw [qg] at b;have b:=ku p b;try dsimp only at b
  refine ah.exit ?_;obtain⟨Y,K,b⟩:=bW b;have b:=ku K b;exact y _ () wA b
 rintro _ b;try dsimp only at b
 refine ag (S As (nil ?_));exact rt b
def wm (f:ak):Option Bool:=(tL f).bind fun i=>bif (!i) then((we).bind fun j=>some j) else((yF f (Sl.nil:Sl Bs) (Sl.nil:Sl Bs)).bind fun b=>aR ((decide (((b.2.l.length:Nat):Int)=(0:Int)))) (rP b.1 f) false fun g=>aR (((decide (((b.2.l.length:Nat):Int)=(0:Int)))&&g)) (we) false fun k=>some (((decide (((b.2.l.length:Nat):Int)=(0:Int)))&&g)&&k))
def Dm (b:ak):Option Bool:=wm b
theorem N8 (a0:ak):Dm a0=wm a0:=rfl
theorem N7 {i:ak}{oT:Ab.Obj}{gT:Nat}{r:Bool}(b:Dm i=some r) (H:ai) (u:H gT=some oT) (w:fU Tryz.prog oT):AC Tryz.prog 3 [.agg (ak.c i)] H fun v h'=>v=.a (.d (.bool r))/\h'=H:=by
 unfold Dm wm at b;refine AC.oW 25 [.tmp 2] Tryz.call3 Tryz.func3 ?_;refine ag (S BX (S As (nil ?_)));refine ay fun j g=>?_;refine ag (S Ld ?_);obtain⟨x,k,b⟩:=qT (Pt _) b;refine Sc rfl rfl (Pu k) ?_;refine S NB (nil ?_);refine cE b (fun l b=>?_) (fun l b=>?_)
 ·refine ag ?_;obtain⟨y,m,b⟩:=qT rfl b;refine s0 (eu rfl rfl (HN (gT:=gT) (oT:=oT) m _ av (by assumption))) rfl ?_;refine S As (nil ?_);exact rt b
 refine sk g ?_;clear g j;refine ag (S Ld ?_);obtain⟨o,p,b⟩:=qT (Rs _ _ _) b;refine s0 (eu rfl rfl (AC.zS (.cons (.refl _) (.cons (js.w9 (k':=1)) (.cons (js.w9 (k':=1)) .nil))) (HI (gT:=gT) (oT:=oT) p _ av (by assumption)))) rfl ?_;refine S Mv (S EX (S EX ?_));refine Sl ?_;refine Sf ?_;refine S As (nil ?_);refine bu 3 _ rfl (KA 1 (KA 4 aS.nil)) ?_
 refine ag (S Mv ?_);refine sLen (f:=Z6.c) (s:=o.2) (TK rfl) rfl rfl rfl rfl fun z=>?_;refine S BI (S Mv (G0 Ld (G0 Ld ?_)));obtain⟨B,q,b⟩:=dQ (RJ _ _) b;refine fw 18 19 rfl rfl rfl rfl rfl rfl (fun hC=>RK (q hC)) ?_;refine S PA (S Mv ?_);obtain⟨C,t,b⟩:=dQ rfl b;refine gC rfl rfl (fun hC=>eu rfl rfl (HN (gT:=gT) (oT:=oT) (t hC) _ av (by assumption))) rfl ?_
 refine S PA (S As (nil ?_));exact rt b
end Go.Proofs
namespace Go.Proofs
open Go Go.Ab
theorem RL (a:az) (g:a.aF.l.length<=1048576) (l:List Int) (i:Nat) (h:i+l.length=a.aF.l.length):Ok (pJ a l i):=by
 induction l generalizing i with
 | nil=>exact aZ.some _
 | cons x r f =>
  simp only [List.length_cons] at h;have hr:=f (i+1) (by omega);rw [pJ];simp only [on];refine aZ.cond (fun _=>aZ.some _) fun _=>?_;by_cases hi:0<i
  ·have h1:decide ((0:Int)<((i:Nat):Int))=true:=by simpa using hi
   obtain⟨v,hv⟩:=Na (l:=a.aF.l) (n:=(i:Int)-1) (by omega);simp only [h1,cond_true,Bool.true_and,Fy (a:=(i:Int)) (b:=1) (by omega)];cases decide (x=1)<;>simp only [aR,hv,if_true,oB,Bool.false_eq_true,if_false,Bool.false_and,cond_false]
   ·exact hr
   ·(repeat' (first|exact aZ.some _|assumption|(with_reducible refine aZ.bind ?_ fun _ _=>?_)|(with_reducible refine aZ.guard (fun _=>?_) fun _ _ _=>?_)|(with_reducible refine aZ.cond (fun _=>?_) fun _=>?_)|(with_reducible refine aZ.on fun _ _=>?_)|split))
  ·have h1:decide ((0:Int)<((i:Nat):Int))=false:=by simpa using hi
   simp only [h1,Bool.false_and,aR,Bool.false_eq_true,if_false,cond_false];exact hr
theorem HV (a:az) (b:a.aF.l.length<=1048576):Ok (q9 a):=by
 unfold q9
 (repeat' (first|exact aZ.some _|assumption|(with_reducible refine aZ.bind ?_ fun _ _=>?_)|(with_reducible refine aZ.guard (fun _=>?_) fun _ _ _=>?_)|(with_reducible refine aZ.cond (fun _=>?_) fun _=>?_)|(with_reducible refine aZ.on fun _ _=>?_)|split))
 exact RL a b _ _ (by simp)
theorem RM (k:af->Option Int) (l:List af) (s:Int) (hk:∀x∈l,∃r,k x=some r/\1<=r/\r<=x.sz) (j:0<=s) (b:s+((l.map af.sz).sum:Nat)<=1152921504606846976):∃r,pE k l s=some r/\s<=r/\r<=s+((l.map af.sz).sum:Nat):=by
 induction l generalizing s with
 | nil=>exact⟨s,rfl,by simp,by simp⟩
 | cons x r f =>
  obtain⟨v,h1,m,o⟩:=hk x List.mem_cons_self;simp only [List.map_cons,List.sum_cons] at b ⊢;rw [pE];simp only [on,h1,oB];rw [fP (by omega)];simp only [oB];obtain⟨w,g,p,q⟩:=f (s+v) (fun y i=>hk y (List.mem_cons_of_mem _ i)) (by omega) (by omega);exact⟨w,g,by omega,by omega⟩
theorem af.mc {v x:af}(h:x∈v.aD.l):x.sz<v.sz:=by
 have h1:=v.bq; have b:=Sl.cW (f:=af.sz) h; omega
theorem af.HW (v:af):2+(v.aD.l.map af.sz).sum<=v.sz:=by
 have h1:=v.bq; have b:Sl.sz af.sz v.aD=1+(v.aD.l.map af.sz).sum:=rfl; omega
theorem RN (n:Nat):∀v:af,v.sz<n->v.sz<=1073741824->∃r,lG n v=some r/\1<=r/\r<=v.sz:=by
 induction n with
 | zero=>intro v h; omega
 | succ n b =>
  intro v h g;have h0:=v.HW;obtain⟨w,f,i,j⟩:=RM (lG n) v.aD.l 1 (fun x hx=>by have:=af.mc hx; exact b x (by omega) (by omega)) (by omega) (by omega);rw [lG,f];exact⟨w,rfl,by omega,by omega⟩
theorem RO (v:af) (h:v.sz<=1048576):∃r,Bt v=some r/\1<=r/\r<=v.sz:=RN F0 v (by rw [fK]; omega) (by omega)
theorem RP (k:af->Option Int) (l:List af) (s b:Int) (hk:∀x∈l,∃r,k x=some r/\1<=r/\r<=b) (i:0<=s/\s<=b):∃r,pF k l s=some r/\0<=r/\r<=b:=by
 induction l generalizing s with
 | nil=>exact⟨s,rfl,by omega,by omega⟩
 | cons x r f =>
  obtain⟨v,h1,j,m⟩:=hk x List.mem_cons_self;rw [pF];simp only [on,h1,oB];exact f _ (fun y g=>hk y (List.mem_cons_of_mem _ g)) (by split<;>omega)
theorem RQ (n:Nat):∀v:af,v.sz<n->v.sz<=1073741824->∃r,lH n v=some r/\1<=r/\r<=v.sz:=by
 induction n with
 | zero=>intro v h; omega
 | succ n b =>
  intro v h j;have h0:=v.HW;obtain⟨w,f,k,m⟩:=RP (lH n) v.aD.l 0 (v.sz-1:Nat) (fun x hx=>by have:=af.mc hx; obtain⟨r,g,i,o⟩:=b x (by omega) (by omega); exact⟨r,g,i,by omega⟩) (by omega);rw [lH,f];simp only [on,oB];rw [fP (by omega)];exact⟨w+1,rfl,by omega,by omega⟩
theorem RR (v:af) (h:v.sz<=1048576):Ok (Bv v):=by
 obtain⟨r,hr,_⟩:=RQ F0 v (by rw [fK]; omega) (by omega); exact⟨r,hr⟩
theorem RS (a:Sl Bs) (x:Bs) (m i:Nat) (h:i+m<=a.l.length):Ok (pG a x m i):=by
 induction m generalizing i with
 | zero=>exact aZ.some _
 | succ m b =>
  rw [pG]
  (repeat' (first|exact aZ.some _|assumption|(with_reducible refine aZ.bind ?_ fun _ _=>?_)|(with_reducible refine aZ.guard (fun _=>?_) fun _ _ _=>?_)|(with_reducible refine aZ.cond (fun _=>?_) fun _=>?_)|(with_reducible refine aZ.on fun _ _=>?_)|split))
  ·exact Nb (by omega)
  ·exact b _ (by omega)
theorem RT (a:Sl Bs) (l:List Bs) (i:Nat) (h:i+l.length=a.l.length):Ok (nV a l i):=by
 induction l generalizing i with
 | nil=>exact aZ.some _
 | cons x r b =>
  simp only [List.length_cons] at h;rw [nV]
  (repeat' (first|exact aZ.some _|assumption|(with_reducible refine aZ.bind ?_ fun _ _=>?_)|(with_reducible refine aZ.guard (fun _=>?_) fun _ _ _=>?_)|(with_reducible refine aZ.cond (fun _=>?_) fun _=>?_)|(with_reducible refine aZ.on fun _ _=>?_)|split))
  ·exact RS a x _ _ (by omega)
  ·exact b _ (by omega)
theorem RU (a:Sl Bs):Ok (tH a):=by
 unfold tH
 (repeat' (first|exact aZ.some _|assumption|(with_reducible refine aZ.bind ?_ fun _ _=>?_)|(with_reducible refine aZ.guard (fun _=>?_) fun _ _ _=>?_)|(with_reducible refine aZ.cond (fun _=>?_) fun _=>?_)|(with_reducible refine aZ.on fun _ _=>?_)|split))
 exact RT a _ _ (by simp)
theorem RV (v:af) (b:Bool):Ok (nW v b):=by
 unfold nW
 (repeat' (first|exact aZ.some _|assumption|(with_reducible refine aZ.bind ?_ fun _ _=>?_)|(with_reducible refine aZ.guard (fun _=>?_) fun _ _ _=>?_)|(with_reducible refine aZ.cond (fun _=>?_) fun _=>?_)|(with_reducible refine aZ.on fun _ _=>?_)|split))
 exact RU _
theorem RW (b:Bool) (k:af->Bool->Option Bool) (l:List af) (hk:∀x∈l,Ok (k x b)):Ok (iS b k l):=by
 induction l with
 | nil=>exact aZ.some _
 | cons x r f =>
  rw [iS]
  (repeat' (first|exact aZ.some _|assumption|(with_reducible refine aZ.bind ?_ fun _ _=>?_)|(with_reducible refine aZ.guard (fun _=>?_) fun _ _ _=>?_)|(with_reducible refine aZ.cond (fun _=>?_) fun _=>?_)|(with_reducible refine aZ.on fun _ _=>?_)|split))
  ·rename_i h; rw [h]; exact hk x List.mem_cons_self
  ·exact f fun y g=>hk y (List.mem_cons_of_mem _ g)
theorem RX (n:Nat):∀(v:af) (b:Bool),v.sz<n->Ok (fW n v b):=by
 induction n with
 | zero=>intro v b h; omega
 | succ n f =>
  intro v b h;rw [fW]
  (repeat' (first|exact aZ.some _|assumption|(with_reducible refine aZ.bind ?_ fun _ _=>?_)|(with_reducible refine aZ.guard (fun _=>?_) fun _ _ _=>?_)|(with_reducible refine aZ.cond (fun _=>?_) fun _=>?_)|(with_reducible refine aZ.on fun _ _=>?_)|split))
  ·exact RV _ _
  ·exact RW b _ _ fun x hx=>f x b (by have:=af.mc hx; omega)
theorem HX (v:af) (h:v.sz<=1048576):Ok (fE v):=by
 unfold fE;obtain⟨r,hr,_⟩:=RO v h
 (repeat' (first|exact aZ.some _|assumption|(with_reducible refine aZ.bind ?_ fun _ _=>?_)|(with_reducible refine aZ.guard (fun _=>?_) fun _ _ _=>?_)|(with_reducible refine aZ.cond (fun _=>?_) fun _=>?_)|(with_reducible refine aZ.on fun _ _=>?_)|split))
 ·exact⟨r,hr⟩
 ·exact RR v h
 ·exact RX F0 v true (by rw [fK]; omega)
theorem RY (k:af->Option Bool) (l:List af) (hk:∀x∈l,Ok (k x)):Ok (pH k l):=by
 induction l with
 | nil=>exact aZ.some _
 | cons x r b =>
  rw [pH]
  (repeat' (first|exact aZ.some _|assumption|(with_reducible refine aZ.bind ?_ fun _ _=>?_)|(with_reducible refine aZ.guard (fun _=>?_) fun _ _ _=>?_)|(with_reducible refine aZ.cond (fun _=>?_) fun _=>?_)|(with_reducible refine aZ.on fun _ _=>?_)|split))
  ·rename_i h; rw [h]; exact hk x List.mem_cons_self
  ·exact b fun y f=>hk y (List.mem_cons_of_mem _ f)
theorem RZ (n:Nat):∀(v:af),v.sz<n->Ok (mH n v):=by
 induction n with
 | zero=>intro v h; omega
 | succ n b =>
  intro v h;rw [mH]
  (repeat' (first|exact aZ.some _|assumption|(with_reducible refine aZ.bind ?_ fun _ _=>?_)|(with_reducible refine aZ.guard (fun _=>?_) fun _ _ _=>?_)|(with_reducible refine aZ.cond (fun _=>?_) fun _=>?_)|(with_reducible refine aZ.on fun _ _=>?_)|split))
  exact RY _ _ fun x hx=>b x (by have:=af.mc hx; omega)
theorem HY (v:af) (h:v.sz<=1048576):Ok (xO v):=RZ F0 v (by rw [fK]; omega)
theorem bQ.R1 (a:bQ):a.gh.sz<=a.sz:=by have:=a.bq; omega
theorem aC.R2 {x:aC}{a:bQ}(h:a∈x.aH.l):a.sz<=x.sz:=by have:=x.bq; have:=Sl.cW (f:=bQ.sz) h; omega
theorem R3 (b:aC) (l:List bQ) (h:∀a∈l,a.sz<=1048576):Ok (q7 b l):=by
 induction l with
 | nil=>exact aZ.some _
 | cons x r f =>
  have h1:=h x List.mem_cons_self; have i:=x.R1;rw [q7]
  (repeat' (first|exact aZ.some _|assumption|(with_reducible refine aZ.bind ?_ fun _ _=>?_)|(with_reducible refine aZ.guard (fun _=>?_) fun _ _ _=>?_)|(with_reducible refine aZ.cond (fun _=>?_) fun _=>?_)|(with_reducible refine aZ.on fun _ _=>?_)|split))
  all_goals first|exact f fun y g=>h y (List.mem_cons_of_mem _ g)|(subst_vars; first|exact HX _ (by omega)|exact HY _ (by omega))
theorem R4 (l:List aC) (h:∀a∈l,a.sz<=1048576):Ok (q8 l):=by
 induction l with
 | nil=>exact aZ.some _
 | cons x r b =>
  have h1:=h x List.mem_cons_self;rw [q8]
  (repeat' (first|exact aZ.some _|assumption|(with_reducible refine aZ.bind ?_ fun _ _=>?_)|(with_reducible refine aZ.guard (fun _=>?_) fun _ _ _=>?_)|(with_reducible refine aZ.cond (fun _=>?_) fun _=>?_)|(with_reducible refine aZ.on fun _ _=>?_)|split))
  ·exact R3 x _ fun a f=>by have:=aC.R2 f; omega
  ·exact b fun y g=>h y (List.mem_cons_of_mem _ g)
theorem yO (s:Sl aC) (h:Sl.sz aC.sz s<=1048576):Ok (pI s):=by
 unfold pI
 (repeat' (first|exact aZ.some _|assumption|(with_reducible refine aZ.bind ?_ fun _ _=>?_)|(with_reducible refine aZ.guard (fun _=>?_) fun _ _ _=>?_)|(with_reducible refine aZ.cond (fun _=>?_) fun _=>?_)|(with_reducible refine aZ.on fun _ _=>?_)|split))
 exact R4 _ fun a b=>by have:=Sl.cW (f:=aC.sz) b; omega
theorem az.rQ (r:az):r.aF.l.length<=r.sz:=by have:=r.bq; have:=Sl.ej (f:=fun _:Int=>1) r.aF (fun _=>Nat.le_refl _); omega
theorem R5 (l:List Z8) (h:∀a∈l,a.sz<=1048576):Ok (kj l):=by
 induction l with
 | nil=>exact aZ.some _
 | cons x r b =>
  have h1:=h x List.mem_cons_self; have g:=x.bq; have i:=x.aA.rQ;rw [kj]
  (repeat' (first|exact aZ.some _|assumption|(with_reducible refine aZ.bind ?_ fun _ _=>?_)|(with_reducible refine aZ.guard (fun _=>?_) fun _ _ _=>?_)|(with_reducible refine aZ.cond (fun _=>?_) fun _=>?_)|(with_reducible refine aZ.on fun _ _=>?_)|split))
  all_goals first|exact b fun y f=>h y (List.mem_cons_of_mem _ f)|(subst_vars; first|exact HV _ (by omega)|exact yO _ (by omega)|exact HX _ (by omega)|exact HY _ (by omega))
theorem HZ (s:Sl Z8) (h:Sl.sz Z8.sz s<=1048576):Ok (mI s):=by
 unfold mI
 (repeat' (first|exact aZ.some _|assumption|(with_reducible refine aZ.bind ?_ fun _ _=>?_)|(with_reducible refine aZ.guard (fun _=>?_) fun _ _ _=>?_)|(with_reducible refine aZ.cond (fun _=>?_) fun _=>?_)|(with_reducible refine aZ.on fun _ _=>?_)|split))
 exact R5 _ fun a b=>by have:=Sl.cW (f:=Z8.sz) b; omega
theorem R6 (l:List Z7) (h:∀a∈l,a.sz<=1048576):Ok (ko l):=by
 induction l with
 | nil=>exact aZ.some _
 | cons x r b =>
  have h1:=h x List.mem_cons_self; have p:=x.bq; have q:=x.aA.rQ;have s:Z7.zero.aA.aF.l.length<=1048576:=by decide
  rw [ko];simp only [on];cases d_ x.aa<;>simp only [Bool.not_true,Bool.not_false,cond_true,cond_false,Bool.or_false,Bool.or_true,Bool.true_or,Bool.false_or]
  ·simp [aR]; exact aZ.some _
  ·obtain⟨f,g⟩:=HZ x.aH (by omega);obtain⟨i,j⟩:=HV x.aA (by omega);obtain⟨k,m⟩:=yO x.bp (by omega);have hr:=b fun y o=>h y (List.mem_cons_of_mem _ o);cases f<;>cases i<;>cases k<;>simp [aR,g,j,m]<;>first|exact aZ.some _|exact hr
theorem R7 (s:Sl Z7) (h:Sl.sz Z7.sz s<=1048576):Ok (lI s):=by
 unfold lI
 (repeat' (first|exact aZ.some _|assumption|(with_reducible refine aZ.bind ?_ fun _ _=>?_)|(with_reducible refine aZ.guard (fun _=>?_) fun _ _ _=>?_)|(with_reducible refine aZ.cond (fun _=>?_) fun _=>?_)|(with_reducible refine aZ.on fun _ _=>?_)|split))
 exact R6 _ fun a b=>by have:=Sl.cW (f:=Z7.sz) b; omega
theorem R8 (b:Bool) (l:List Z9) (h:∀a∈l,a.sz<=1048576):Ok (pK b l):=by
 induction l with
 | nil=>exact aZ.some _
 | cons x r f =>
  have h1:=h x List.mem_cons_self; have j:=x.bq;rw [pK];simp only [on];cases d_ x.aa<;>simp only [Bool.not_true,Bool.not_false,cond_true,cond_false,Bool.or_false,Bool.or_true,Bool.true_or,Bool.false_or]
  ·simp [aR]; exact aZ.some _
  ·obtain⟨k,g⟩:=yO x.bp (by omega);have hr:=f fun y i=>h y (List.mem_cons_of_mem _ i);simp only [aR,g,if_true,oB]
   (repeat' (first|exact aZ.some _|assumption|(with_reducible refine aZ.bind ?_ fun _ _=>?_)|(with_reducible refine aZ.guard (fun _=>?_) fun _ _ _=>?_)|(with_reducible refine aZ.cond (fun _=>?_) fun _=>?_)|(with_reducible refine aZ.on fun _ _=>?_)|split))
theorem R9 (s:Sl Z9) (b:Bool) (h:Sl.sz Z9.sz s<=1048576):Ok (nZ s b):=by
 unfold nZ
 (repeat' (first|exact aZ.some _|assumption|(with_reducible refine aZ.bind ?_ fun _ _=>?_)|(with_reducible refine aZ.guard (fun _=>?_) fun _ _ _=>?_)|(with_reducible refine aZ.cond (fun _=>?_) fun _=>?_)|(with_reducible refine aZ.on fun _ _=>?_)|split))
 exact R8 _ _ fun a g=>by have:=Sl.cW (f:=Z9.sz) g; omega
theorem R_ (x:aj) (h:x.sz<=1048576):Ok (iC x):=by
 have b:=x.bq;unfold iC
 (repeat' (first|exact aZ.some _|assumption|(with_reducible refine aZ.bind ?_ fun _ _=>?_)|(with_reducible refine aZ.guard (fun _=>?_) fun _ _ _=>?_)|(with_reducible refine aZ.cond (fun _=>?_) fun _=>?_)|(with_reducible refine aZ.on fun _ _=>?_)|split))
 all_goals first|exact yO _ (by omega)|exact R7 _ (by omega)|exact R9 _ _ (by omega)|exact HZ _ (by omega)
theorem Sa (l:List aj) (h:∀a∈l,a.sz<=1048576):Ok (lK l):=by
 induction l with
 | nil=>exact aZ.some _
 | cons x r b =>
  rw [lK]
  (repeat' (first|exact aZ.some _|assumption|(with_reducible refine aZ.bind ?_ fun _ _=>?_)|(with_reducible refine aZ.guard (fun _=>?_) fun _ _ _=>?_)|(with_reducible refine aZ.cond (fun _=>?_) fun _=>?_)|(with_reducible refine aZ.on fun _ _=>?_)|split))
  ·subst_vars; exact R_ _ (h _ List.mem_cons_self)
  ·exact b fun y f=>h y (List.mem_cons_of_mem _ f)
theorem ak.Dn {d:ak}{x:aj}(h:x∈d.aq.l):x.sz<=d.sz:=by have:=d.bq; have:=Sl.cW (f:=aj.sz) h; omega
theorem Sb (d:ak) (h:d.sz<=1048576):Ok (gW d):=by
 unfold gW
 (repeat' (first|exact aZ.some _|assumption|(with_reducible refine aZ.bind ?_ fun _ _=>?_)|(with_reducible refine aZ.guard (fun _=>?_) fun _ _ _=>?_)|(with_reducible refine aZ.cond (fun _=>?_) fun _=>?_)|(with_reducible refine aZ.on fun _ _=>?_)|split))
 exact Sa _ fun a b=>by have:=ak.Dn b; omega
theorem fu {α:Type}{c:Bool}{a b:Option α}{z:α}(h:cond c a b=some z):(c=true/\a=some z)\/(c=false/\b=some z):=by cases c; exact .inr ⟨rfl,h⟩; exact .inl ⟨rfl,h⟩
theorem fh {α β:Type}{c:Bool}{o:Option α}{d:α}{k:α->Option β}{z:β}(h:aR c o d k=some z):(c=true/\∃v,o=some v/\k v=some z)\/(c=false/\k d=some z):=by
 cases c
 ·exact .inr ⟨rfl,h⟩
 ·cases b:o with
  | none=>rw [b] at h; cases h
  | some v=>rw [b] at h; exact .inl ⟨rfl,v,rfl,h⟩
theorem Dp (l:List Bs) (y:Bool) (h:lJ l=Sum.inr y):y=false:=by
 induction l with
 | nil=>cases h
 | cons a r b =>
  rw [lJ] at h;simp only [Ab.on] at h
  revert h
  cases (!d_ a) with
  | true=>intro h; exact(Sum.inr.inj h).symm
  | false=>exact b
theorem Se (l:List aj) (z:Unit ⊕ Bool) (h:lK l=some z):(z=Sum.inl ()/\∀x∈l,iC x=some true)\/z=Sum.inr false:=by
 induction l generalizing z with
 | nil=>rw [lK] at h; exact .inl ⟨(oJ h).symm,fun a f=>by cases f⟩
 | cons a r i =>
  rw [lK] at h;simp only [Ab.on] at h;obtain⟨x,g,h⟩:=bx h;cases x with
  | false=>simp at h; exact .inr h.symm
  | true =>
   simp only [Bool.not_true,cond_false] at h;rcases i z h with ⟨h1,j⟩|h1
   ·exact .inl ⟨h1,fun y b=>by rcases List.mem_cons.1 b with rfl|b; exact g; exact j y b⟩
   ·exact .inr h1
theorem yP {d:ak}(h:gW d=some true):∀x∈d.aq.l,iC x=some true:=by
 unfold gW at h;rcases fu h with ⟨_,h⟩|⟨_,h⟩
 ·cases h
 ·obtain⟨z,g,h⟩:=bx h;rcases Se _ _ g with ⟨_,h1⟩|rfl
  ·exact h1
  ·cases h
def Sm (x:aj):Prop:=x.aB.l.length<=1000/\x.aG.l.length<=1000/\x.aX.l.length<=1000/\x.aL.l.length<=1000/\∀f∈x.aB.l,f.aH.l.length<=1000
def eB (w:List Int):Bool:=w.head?==some 1
def fR (w:List Int):Bool:=w.head?==some 2
def b8 (s:Sl Int):Sl Int:=bif eB s.l then⟨s.nl,s.l.drop 1⟩ else s
def jE (t:az):az:=⟨t.aa,b8 t.aF⟩
def rR (t:az):az:=⟨t.aa,⟨(b8 t.aF).nl,(b8 t.aF).l.drop 1⟩⟩
theorem H6 {s:Sl Int}(h:dJ s):lS s=some s:=by
 unfold lS;obtain⟨nl,l⟩:=s;cases nl with
 | true=>have:=h.1 rfl; simp only at this; subst this; rfl
 | false =>
  simp only [cond_false];rw [gN (by omega) (by have:=h.2; simp at this ⊢; omega)];simp
theorem uB (t:az):ig t=eB t.aF.l:=by
 unfold ig eB on;cases t.aF.l with
 | nil=>rfl
 | cons a r=>simp; by_cases h:a=1<;>simp [h]
theorem Dq {w:List Int}(h:eB w=true):1<=w.length:=by cases w<;>simp [eB] at h ⊢
theorem Dr {α:Type}{s:Sl α}(n:Nat) (h:dJ s):dJ ⟨s.nl,s.l.drop n⟩:=⟨fun e=>by simp [h.1 e],by have:=h.2; simp; omega⟩
theorem yQ {s:Sl Int}(h:dJ s):dJ (b8 s):=by
 unfold b8;cases eB s.l with
 | true=>exact Dr 1 h
 | false=>exact h
theorem Ds {t:az}(h:dJ t.aF):dJ (rR t).aF:=Dr 1 (yQ h)
theorem yR {t:az}(h:dJ t.aF):mS t=some (jE t):=by
 unfold mS jE b8 on;simp only [uB];cases hn:eB t.aF.l with
 | true =>
  simp only [cond_true];rw [Aj (Dq hn)];simp only [oB];rw [H6 (Dr 1 h)]; rfl
 | false =>
  simp only [cond_false,oB];rw [H6 h]; rfl
theorem Sg {t:az}(h:dJ t.aF):uc t=some (fR (b8 t.aF).l):=by
 unfold uc;rw [yR h];simp only [oB,on,jE,fR];cases (b8 t.aF).l with
 | nil=>rfl
 | cons a r=>simp; by_cases h:a=2<;>simp [h]
theorem yS {w:List Int}(h:fR w=true):1<=w.length:=by cases w<;>simp [fR] at h ⊢
theorem Dt {t:az}(h:dJ t.aF):ot t=some (bif fR (b8 t.aF).l then(rR t,true) else(⟨[],Sl.nil⟩,false)):=by
 unfold ot;rw [Sg h];simp only [oB];cases hl:fR (b8 t.aF).l with
 | false=>rfl
 | true =>
  simp only [Bool.not_true,cond_false,cond_true];rw [yR h];simp only [oB,jE];rw [Aj (yS hl)];rfl
theorem yT {t:az}(h:fR (b8 t.aF).l=true):(rR t).aF.l.length<t.aF.l.length:=by
 have h1:=yS h;have b:(b8 t.aF).l.length<=t.aF.l.length:=by
  unfold b8; cases eB t.aF.l<;>simp
 simp [rR]; omega
theorem findAux (l:List aj) (s:Bs):jA s l=(match l.find? (fun t=>t.aa==s) with|some t=>Sum.inr (t,true)|none=>Sum.inl ()):=by
 induction l with
 | nil=>rfl
 | cons a r b =>
  rw [jA,List.find?_cons];simp only [on,b];cases a.aa==s<;>rfl
def aT (l:List aj) (s:Bs):aj×Bool:=match l.find? (fun t=>t.aa==s) with|some t=>(t,true)|none=>(aj.zero,false)
theorem iq (d:ak) (s:Bs):eT d s=aT d.aq.l s:=by
 unfold eT aT on;rw [findAux];cases d.aq.l.find? (fun t=>t.aa==s)<;>rfl
theorem wo (l:List aj) (s:Bs):(aT l s).1=aj.zero\/(aT l s).1∈l:=by
 unfold aT;cases h:l.find? (fun t=>t.aa==s) with
 | none=>exact .inl rfl
 | some t=>exact .inr (List.mem_of_find?_eq_some h)
theorem Sh (l:List Z7) (s:Bs):pX s l=(match l.find? (fun t=>t.aa==s) with|some t=>Sum.inr (t,true)|none=>Sum.inl ()):=by
 induction l with
 | nil=>rfl
 | cons a r b =>
  rw [pX,List.find?_cons];simp only [on,b];cases a.aa==s<;>rfl
def ea (l:List Z7) (s:Bs):Z7×Bool:=match l.find? (fun t=>t.aa==s) with|some t=>(t,true)|none=>(Z7.zero,false)
theorem Si (t:aj) (s:Bs):ua t s=ea t.aB.l s:=by
 unfold ua ea on;rw [Sh];cases t.aB.l.find? (fun t=>t.aa==s)<;>rfl
theorem Sj (l:List Z8) (s:Bs):mV s l=(match l.find? (fun t=>t.aa==s) with|some t=>Sum.inr (t,true)|none=>Sum.inl ()):=by
 induction l with
 | nil=>rfl
 | cons a r b =>
  rw [mV,List.find?_cons];simp only [on,b];cases a.aa==s<;>rfl
def cQ (l:List Z8) (s:Bs):Z8×Bool:=match l.find? (fun t=>t.aa==s) with|some t=>(t,true)|none=>(Z8.zero,false)
theorem wq (t:Sl Z8) (s:Bs):l6 t s=cQ t.l s:=by
 unfold l6 cQ on;rw [Sj];cases t.l.find? (fun t=>t.aa==s)<;>rfl
def Sk (d:ak):Prop:=∀x∈d.aq.l,x.aB.l.length<=1048576/\x.aL.l.length<=1048576/\(∀f∈x.aB.l,dJ f.aA.aF/\f.aH.l.length<=1048576/\∀i∈f.aH.l,dJ i.aA.aF)/\∀i∈x.aL.l,dJ i.aA.aF
theorem az.wu {r:az}(h:r.sz<=1048576) (hw:r.wf):dJ r.aF:=⟨hw.2.1.1,by have:=r.bq; have:=Sl.ej (f:=fun _:Int=>1) r.aF (fun _=>Nat.le_refl _); omega⟩
theorem Z8.wu {r:Z8}(h:r.sz<=1048576) (hw:r.wf):dJ r.aA.aF:=az.wu (by have:=r.bq; omega) (Z8.u6 hw)
theorem Sn {d:ak}(h:d.sz<=1048576) (hw:d.wf):Sk d:=by
 intro x hx;have h1:=x.bq; have g:=d.bq; have j:=Sl.cW (f:=aj.sz) hx;have k:=Sl.gz (f:=Z7.sz) x.aB Z7.pos; have l:=Sl.gz (f:=Z8.sz) x.aL Z8.pos;have w:x.wf:=(ak.xq hw).2.2 x hx;refine⟨by omega,by omega,fun f b=>?_,fun i hi=>?_⟩
 ·have m:=Sl.cW (f:=Z7.sz) b; have o:=f.bq; have p:=Sl.gz (f:=Z8.sz) f.aH Z8.pos;have wf:f.wf:=(aj.xm w).2.2 f b;exact⟨az.wu (by omega) (Z7.u6 wf),by omega,fun i hi=>Z8.wu (by have:=Sl.cW (f:=Z8.sz) hi; omega) ((Z7.pq wf).2.2 i hi)⟩
 ·exact Z8.wu (by have:=Sl.cW (f:=Z8.sz) hi; omega) ((aj.xo w).2.2 i hi)
theorem Sp (a:Bs):s6 a=some (ii a):=by
 unfold s6 ii vJ vI on
 match a with
 | []=>rfl
 | [x]=>rfl
 | x::y::r =>
  have e:decide ((2:Int)<=(((x::y::r).length:Nat):Int))=true:=by simp; omega
  have f:decide (((([95,95]:Bs).length:Nat):Int)<=(((x::y::r).length:Nat):Int))=true:=by simp; omega
  have c:∀z:UInt8,decide (((z.toNat:Nat):Int)=95)=(z==95):=fun z=>by
   rw [show (z==95)=decide (z=95) from rfl]
   congr 1
   apply propext
   constructor
   ·intro h; apply UInt8.toNat_inj.1; simp at h ⊢; omega
   ·intro h; subst h; rfl
  have hl:(2:Int)<=(r.length:Nat)+1+1:=by omega
  have g:¬x=95->(x==95)=false:=fun h=>by simpa using h
  simp only [aR,e,f,if_true,oB,List.getElem?_cons_zero,List.getElem?_cons_succ,c,Bool.true_and,cond_true,List.length_cons,List.length_nil,List.take_succ_cons,List.take_zero];by_cases hx:x=95
  ·subst hx;by_cases b:y=95
   ·subst b; simp [hl]
   ·simp [hl,b]
  ·simp [hl,hx]
theorem filter_le {α:Type}{p q:α->Bool}{l:List α}(h:∀x∈l,p x=true->q x=true):(l.filter p).length<=(l.filter q).length:=by
 induction l with
 | nil=>simp
 | cons a r b =>
  have:=b fun x hx=>h x (List.mem_cons_of_mem _ hx);have h1:=h a List.mem_cons_self;simp only [List.filter_cons];cases f:p a<;>cases hq:q a<;>simp_all<;>omega
theorem filter_lt {α:Type}{p q:α->Bool}{l:List α}{y:α}(h:∀x∈l,p x=true->q x=true) (b:y∈l) (h1:p y=false) (f:q y=true):(l.filter p).length<(l.filter q).length:=by
 induction l with
 | nil=>cases b
 | cons a r g =>
  have i:=filter_le (l:=r) (p:=p) (q:=q) fun x hx=>h x (List.mem_cons_of_mem _ hx);simp only [List.filter_cons];rcases List.mem_cons.1 b with rfl|b
  ·simp [h1,f]; omega
  ·have:=g (fun x hx=>h x (List.mem_cons_of_mem _ hx)) b;have j:=h a List.mem_cons_self;cases k:p a<;>cases hq:q a<;>simp_all<;>omega
theorem Sq {l:List Bs}{s t:Bs}(h:t∈l):t∈b7 l s:=by unfold b7; split<;>simp [h]
theorem Sr (l:List Bs) (s:Bs):s∈b7 l s:=by
 unfold b7; split
 ·rename_i h; simpa using h
 ·simp
theorem kZ {α:Type}{c:Bool}{a b:Option α}{z:α}(h:cond c a b=some z):(c=true/\a=some z)\/(c=false/\b=some z):=by cases c; exact .inr ⟨rfl,h⟩; exact .inl ⟨rfl,h⟩
theorem xb {α β:Type}{c:Bool}{o:Option α}{d:α}{k:α->Option β}{z:β}(h:aR c o d k=some z):(c=true/\∃v,o=some v/\k v=some z)\/(c=false/\k d=some z):=by
 unfold aR at h;cases c with
 | true=>obtain⟨v,e,h⟩:=bx (by simpa using h); exact .inl ⟨rfl,v,e,h⟩
 | false=>exact .inr ⟨rfl,by simpa using h⟩
theorem H7 (x:Int):((((decide ((97:Int)<=x)&&decide (x<=(122:Int)))||(decide ((65:Int)<=x)&&decide (x<=(90:Int))))||(decide ((48:Int)<=x)&&decide (x<=(57:Int))))||decide (x=(95:Int)))=(mq x||qR x):=by
 unfold mq qR;rw [Bool.eq_iff_iff];simp only [Bool.or_eq_true,Bool.and_eq_true,decide_eq_true_eq];constructor
 ·rintro (((h|h)|h)|h)
  ·exact .inl (.inl (.inr h))
  ·exact .inl (.inl (.inl h))
  ·exact .inr h
  ·exact .inl (.inr h)
 ·rintro (((h|h)|h)|h)
  ·exact .inl (.inl (.inr h))
  ·exact .inl (.inl (.inl h))
  ·exact .inr h
  ·exact .inl (.inr h)
theorem H8:∀(l:List UInt8) (i:Nat),0<i->nF l i=mQ l
 | [],_,_=>rfl
 | h::r,i,hi=>by
  have h0:decide (((i:Nat):Int)=0)=false:=dF (by omega);rw [nF,mQ,H8 r (i+1) (by omega)];simp only [Ab.on,h0,H7];cases mq ((h.toNat:Nat):Int)
  ·simp only [Bool.not_false,Bool.and_self,cond_true,Bool.true_and,Bool.false_or]
  ·rfl
theorem Ss (x:Int) (h:mq x=true):((decide ((48:Int)<=x))&&(decide (x<=(57:Int))))=false:=by
 unfold mq at h;rw [Bool.and_eq_false_iff];simp only [Bool.or_eq_true,Bool.and_eq_true,decide_eq_true_eq] at h;by_cases b:x<=57
 ·left; apply dF; omega
 ·right; exact dF b
theorem uC (s:Bs):pT s=some (d_ s):=by
 unfold pT d_;cases s with
 | nil=>rfl
 | cons h r =>
  have i:((h::r:Bs)==[])=false:=rfl;have j:decide ((((h::r:Bs).length:Nat):Int)<1)=false:=dF (by simp only [List.length_cons]; omega);rw [i,j];simp only [Bool.false_or];cases decide ((64:Int)<(((h::r:Bs).length:Nat):Int))
  ·simp only [Bool.not_false,aR,if_true,cond_false,Bool.true_and,Bool.false_or];rw [show ((h::r:Bs)[0]?)=some h from rfl];simp only [oB];rw [nF,mQ,H8 r 1 (by omega)];simp only [Ab.on,H7];generalize ((h.toNat:Nat):Int)=x;cases hl:mq x
   ·have k:qR x=(decide ((48:Int)<=x)&&decide (x<=(57:Int))):=rfl;rw [k];cases f:decide ((48:Int)<=x)<;>cases b:decide (x<=(57:Int))<;>simp [b]
   ·have g:=Ss x hl;cases f:decide ((48:Int)<=x)<;>cases b:decide (x<=(57:Int))<;>rw [f,b] at g<;>simp [b] at g ⊢<;>(cases mQ r<;>rfl)
  ·rfl
def Tk {C D:Type}(fx:C->D) (ln:C->Nat) (o:Option C) (c:C) (k:Nat):Prop:=∃c',o=some c'/\fx c'=fx c/\ln c'<=ln c+k
section
variable {C D:Type}{fx:C->D}{ln:C->Nat}{o:Option C}{c:C}{k m n:Nat}
theorem Tk.pure (c:C) (k:Nat):Tk fx ln (some c) c k:=⟨c,rfl,rfl,Nat.le_add_right _ _⟩
theorem Tk.map (h:Tk fx ln o c k):Tk fx ln (o.bind fun x=>some x) c k:=by
 obtain⟨c1,b,h1⟩:=h; exact⟨c1,by rw [b]; rfl,h1⟩
theorem Tk.cond {b:Bool}{x y:Option C}(h1:b=true->Tk fx ln x c k) (f:b=false->Tk fx ln y c k):Tk fx ln (bif b then x else y) c k:=by
 cases b
 ·exact f rfl
 ·exact h1 rfl
theorem Tk.guard {α:Type}{b:Bool}{p:Option α}{d:α}{f:α->Option C}(i:b=true->∃x,p=some x) (g:∀x,Tk fx ln (f x) c k):Tk fx ln (aR b p d f) c k:=by
 cases b
 ·exact g d
 ·obtain⟨x,e⟩:=i rfl; rw [e]; exact g x
end
def qh (l:List Bs) (seen:List Bs):Nat:=(l.filter fun f=>!seen.contains f).length
theorem Su {l a b:List Bs}(h:∀s∈a,s∈b):qh l b<=qh l a:=filter_le fun x _ f=>by
 simp at f ⊢; exact fun g=>f (h _ g)
theorem Sv {l a b:List Bs}(h:∀s∈a,s∈b){f:Bs}(j:f∈l) (h1:f∉a) (g:f∈b):qh l b<qh l a :=
 filter_lt (fun x _ i=>by simp at i ⊢; exact fun g=>i (h _ g)) j (by simpa using g) (by simpa using h1)
theorem H9 (s:Bs):∀l:List aj,jA s l=Sum.inl ()\/∃t∈l,jA s l=Sum.inr (t,true)/\t.aa=s
 | []=>.inl rfl
 | a::r=>by
  rw [jA];simp only [Ab.on];cases h:(a.aa==s)
  ·rw [cond_false];rcases H9 s r with h|⟨t,ht,e⟩
   ·exact .inl h
   ·exact .inr ⟨t,.tail _ ht,e⟩
  ·exact .inr ⟨a,.head _,rfl,eq_of_beq h⟩
theorem Sw {d:ak}{s:Bs}(h:(eT d s).2=true):(eT d s).1∈d.aq.l:=by
 unfold eT at h ⊢;simp only [Ab.on] at h ⊢;rcases H9 s d.aq.l with e|⟨t,ht,e,-⟩
 ·rw [e] at h; cases h
 ·rw [e]; exact ht
theorem H_ (i:aj) (c:Z5):∀(n:Nat) (a0:aj) (s:List Bs),qh (c.Fd.aq.l.map aj.aa) s<n->∃b f,iU n a0 i c s=some (b,f)/\∀x∈s,x∈f
 | 0,_,_,h=>by omega
 | n+1,a0,s,hn=>by
  have loop:∀(l:List Z8) (s:List Bs),qh (c.Fd.aq.l.map aj.aa) s<=n->∃r,ij i c (iU n) l s=some r/\match r with|Sum.inl f=>∀x∈s,x∈f|Sum.inr e=>∀x∈s,x∈e.2:=by
   intro l;induction l with
   | nil=>intro s _; exact⟨_,rfl,fun _ h=>h⟩
   | cons h r k =>
    intro s o;rw [ij];simp only [Ab.on];have hg:∃x:Int,aR (!(!decide (((h.aA.aF.l.length:Nat):Int)=(1:Int)))) (h.aA.aF.l[0]?) (0:Int) (fun x=>some x)=some x:=by
     by_cases h1:h.aA.aF.l.length=1
     ·rw [show decide (((h.aA.aF.l.length:Nat):Int)=(1:Int))=true from dT (by omega)];simp only [aR,Bool.not_true,Bool.not_false,if_true];rw [List.getElem?_eq_getElem (show 0<h.aA.aF.l.length by omega)];exact⟨_,rfl⟩
     ·rw [show decide (((h.aA.aF.l.length:Nat):Int)=(1:Int))=false from dF (by omega)];exact⟨_,rfl⟩
    have z:∀{K:Int->Option (List Bs ⊕ (Bool×List Bs))},(∀x,∃q,K x=some q/\match q with|Sum.inl f=>∀x∈s,x∈f|Sum.inr e=>∀x∈s,x∈e.2)->∃q,aR (!(!decide (((h.aA.aF.l.length:Nat):Int)=(1:Int)))) (h.aA.aF.l[0]?) (0:Int) K=some q/\match q with|Sum.inl f=>∀x∈s,x∈f|Sum.inr e=>∀x∈s,x∈e.2:=by
     intro K u;obtain⟨x,hx⟩:=hg;generalize h.aA.aF.l[0]?=p at hx ⊢;generalize (!(!decide (((h.aA.aF.l.length:Nat):Int)=(1:Int))))=b at hx ⊢;cases b
     ·exact u 0
     ·cases p with
      | none=>cases hx
      | some y=>exact u y
    refine z fun B=>?_;cases (!decide (((h.aA.aF.l.length:Nat):Int)=(1:Int))||!decide (B=(1:Int)))
    ·rw [cond_false];cases (h.aA.aa==i.aa)
     ·rw [cond_false];cases hc:((eT c.Fd h.aA.aa).2&&decide ((eT c.Fd h.aA.aa).1.an=(5:Int)))&&!(s.contains (eT c.Fd h.aA.aa).1.aa)
      ·rw [cond_false]; exact k s o
      ·rw [cond_true];simp only [Bool.and_eq_true,Bool.not_eq_true'] at hc;obtain⟨⟨C,-⟩,v⟩:=hc;have hm:=Sw C;generalize (eT c.Fd h.aA.aa).1=t at hm v ⊢;have g:∀x∈s,x∈b7 s t.aa:=fun x hx=>Sq hx;have bw:=Sv (l:=c.Fd.aq.l.map aj.aa) g (List.mem_map_of_mem hm) (by simpa using v) (Sr s t.aa);obtain⟨b,f,e,j⟩:=H_ i c n t (b7 s t.aa) (by omega)
       rw [e,oB];cases b
       ·rw [cond_false];have hle:=Su (l:=c.Fd.aq.l.map aj.aa) (a:=s) (b:=f) fun x hx=>j x (g x hx);obtain⟨q,hq,w⟩:=k f (by omega);refine⟨q,hq, ?_⟩;cases q with
        | inl E=>exact fun x hx=>w x (j x (g x hx))
        | inr m=>exact fun x hx=>w x (j x (g x hx))
       ·exact⟨_,rfl,fun x hx=>j x (g x hx)⟩
     ·exact⟨_,rfl,fun _ h=>h⟩
    ·rw [cond_true]; exact k s o
  rw [iU];obtain⟨q,e,hq⟩:=loop a0.aL.l s (by omega);rw [e,oB];cases q with
  | inl f=>exact⟨false,f,rfl,hq⟩
  | inr m=>exact⟨m.1,m.2,rfl,hq⟩
theorem Ia (c:Z5) (g:aj) (h:c.Fd.aq.l.length<=1048576):∃b,ol c g=some b:=by
 have hu:qh (c.Fd.aq.l.map aj.aa) []<=c.Fd.aq.l.length:=by
  have:=List.length_filter_le (fun f=>!([]:List Bs).contains f) (c.Fd.aq.l.map aj.aa)
  simpa [qh] using this
 obtain⟨b,i,e,-⟩:=H_ g c F0 g [] (by rw [fK]; omega);unfold ol yp;rw [e];exact⟨b,rfl⟩
abbrev SK (o:Option Z5) (c:Z5) (k:Nat):Prop:=Tk Z5.Fd (fun c=>c.bh.l.length) o c k
theorem iE {o:Option Z5}{c:Z5}{k:Nat}(h:SK o c k):∃c',o=some c'/\c'.Fd=c.Fd/\c'.bh.l.length<=c.bh.l.length+k:=h
theorem jF {c:Z5}(h:c.bh.l.length<=1000000000) (b:Bool) (e:Int) (s:Bs):SK (eY c b e s) c 1:=by
 unfold eY;refine Tk.cond (fun _=>?_) fun _=>Tk.pure c 1;rw [gN (by decide) (by simp; omega),oB];exact⟨_,rfl,rfl,by simp⟩
theorem Ib {c:Z5}(h:c.bh.l.length<=900000000) (n a:Bs) (m:List Bs):∃c',oo c n a m=some (c',b7 m n)/\c'.Fd=c.Fd/\c'.bh.l.length<=c.bh.l.length+2:=by
 unfold oo;rw [uC,oB];simp only [Ab.on];obtain⟨c1,b,f1,g⟩:=iE (jF (c:=c) (by omega) ((!d_ n)||bif !(!d_ n) then ii n else false) 6 a);rw [b,oB];obtain⟨c2,f,f2,i⟩:=iE (jF (c:=c1) (by omega) (m.contains n) 7 a);rw [f];exact⟨c2,rfl,f2.trans f1,by omega⟩
theorem Ic {c:Z5}(h:c.bh.l.length<=900000000) (n a:Bs) (k:Int):SK (oq c n a k) c 1:=by
 unfold oq;simp only [Ab.on];exact Tk.cond (fun _=>(jF (by omega) _ _ _).map) fun _=>Tk.cond (fun _=>(jF (by omega) _ _ _).map) fun _=>(jF (by omega) _ _ _).map
theorem Ie (a2 a3:Bs) (b:a2.length<=4000000) (f:a3.length<=4000000):∀(l:List Z8) (c:Z5) (m:List Bs),(∀x∈l,x.sz<=1048576)->c.bh.l.length+3*l.length<=900000000->SK (lW a2 a3 l c m) c (3*l.length)
 | [],c,_,_,_=>Tk.pure c _
 | x::r,c,m,hx,g=>by
  have p:=x.bq;have q:=hx x (.head _);have hn:Bs.sz x.aa=x.aa.length+1:=rfl;simp only [List.length_cons] at g ⊢;rw [lW];simp only [Ab.on];rw [di (by omega),oB,di (by simp; omega),oB];obtain⟨c1,i,f1,s⟩:=Ib (c:=c) (by omega) x.aa ((a2++x.aa)++a3) m;rw [i,oB];obtain⟨c2,j,f2,t⟩:=iE (Ic (c:=c1) (by omega) x.aA.aa ((a2++x.aa)++a3) 1)
  rw [j,oB];obtain⟨c3,k,f3,u⟩:=iE (Ie a2 a3 b f r c2 (b7 m x.aa) (fun y o=>hx y (.tail _ o)) (by omega));exact⟨c3,k,f3.trans (f2.trans f1),by show c3.bh.l.length<=c.bh.l.length+_; omega⟩
end Go.Proofs
namespace Go.Proofs
open Go Go.Ab
theorem Ig (c:Z5) (l:Sl Z8) (a2 a3:Bs) (b:a2.length<=4000000) (f:a3.length<=4000000) (hx:∀x∈l.l,x.sz<=1048576) (g:c.bh.l.length+3*l.l.length<=900000000):SK (lX c l a2 a3) c (3*l.l.length):=by
 unfold lX;exact(Ie a2 a3 b f l.l c [] hx g).map
theorem Ih (b:aj) (h1:b.aa.length<=1048576):∀(l:List Z7) (c:Z5) (m:List Bs),(∀x∈l,x.sz<=1048576)->c.bh.l.length+3*(l.map Z7.sz).sum<=900000000->SK (lY b l c m) c (3*(l.map Z7.sz).sum)
 | [],c,_,_,_=>Tk.pure c _
 | x::r,c,m,hx,j=>by
  have s:=x.bq;have t:=hx x (.head _);have hn:Bs.sz x.aa=x.aa.length+1:=rfl;have hl:=Sl.gz (f:=Z8.sz) x.aH Z8.pos;simp only [List.map_cons,List.sum_cons] at j ⊢;rw [lY];simp only [Ab.on];rw [di (by simp; omega),oB,di (by simp; omega),oB];generalize bR:b.aa++([46]:Bs)++x.aa=at_;have u:at_.length<=2097154:=by rw [<- bR]; simp; omega
  obtain⟨c1,k,f1,v⟩:=Ib (c:=c) (by omega) x.aa at_ m;rw [k,oB];obtain⟨c2,o,f2,w⟩:=iE (Ic (c:=c1) (by omega) x.aA.aa at_ 0);rw [o,oB,di (by simp; omega),oB];obtain⟨c3,p,f3,z⟩:=iE (Ig c2 x.aH (at_++([40]:Bs)) ([41]:Bs) (by simp; omega) (by simp) (fun y g=>by have:=Sl.cW (f:=Z8.sz) g; omega) (by omega));rw [p,oB]
  obtain⟨i,q,f4,B⟩:=iE (Ih b h1 r c3 (b7 m x.aa) (fun y g=>hx y (.tail _ g)) (by omega));exact⟨i,q,f4.trans (f3.trans (f2.trans f1)),by show i.bh.l.length<=c.bh.l.length+_; omega⟩
theorem Ii (b:aj) (h1:b.aa.length<=1048576):∀(l:List Z9) (c:Z5) (m:List Bs),(∀x∈l,x.sz<=1048576)->c.bh.l.length+2*l.length<=900000000->SK (kA b l c m) c (2*l.length)
 | [],c,_,_,_=>Tk.pure c _
 | x::r,c,m,hx,g=>by
  have p:=x.bq;have q:=hx x (.head _);have hn:Bs.sz x.aa=x.aa.length+1:=rfl;simp only [List.length_cons] at g ⊢;rw [kA];simp only [Ab.on];rw [di (by simp; omega),oB,di (by simp; omega),oB];refine Tk.guard (fun _=>⟨_,uC _⟩) fun f=>?_;obtain⟨c1,i,f1,s⟩:=iE (jF (c:=c) (by omega) ((((((x.aa==([116,114,117,101]:Bs)))||((x.aa==([102,97,108,115,101]:Bs))))||((x.aa==([110,117,108,108]:Bs))))||(!f))||bif !(((((x.aa==([116,114,117,101]:Bs)))||((x.aa==([102,97,108,115,101]:Bs))))||((x.aa==([110,117,108,108]:Bs))))||(!f)) then ii x.aa else false) 6 (b.aa++([46]:Bs)++x.aa))
  rw [i,oB];obtain⟨c2,j,f2,t⟩:=iE (jF (c:=c1) (by omega) (m.contains x.aa) 7 (b.aa++([46]:Bs)++x.aa));rw [j,oB];obtain⟨c3,k,f3,u⟩:=iE (Ii b h1 r c2 (b7 m x.aa) (fun y o=>hx y (.tail _ o)) (by omega));exact⟨c3,k,f3.trans (f2.trans f1),by show c3.bh.l.length<=c.bh.l.length+_; omega⟩
def fz (o:Option (Z5×List Bs)) (c:Z5) (k:Nat):Prop:=∃c' m',o=some (c',m')/\c'.Fd=c.Fd/\c'.bh.l.length<=c.bh.l.length+k
theorem fz.bind {o:Option Z5}{f:Z5->Option (Z5×List Bs)}{c:Z5}{k m n:Nat}(h:SK o c k) (hn:k+m<=n) (b:∀c',c'.Fd=c.Fd->c'.bh.l.length<=c.bh.l.length+k->fz (f c') c' m):fz (o.bind f) c n:=by
 obtain⟨c1,g,f1,i⟩:=iE h;obtain⟨c2,m2,j,f2,p⟩:=b c1 f1 i;exact⟨c2,m2,by rw [g]; exact j,f2.trans f1,by omega⟩
theorem fz.guard {α:Type}{b:Bool}{p:Option α}{d:α}{f:α->Option (Z5×List Bs)}{c:Z5}{k:Nat}(i:b=true->∃x,p=some x) (g:∀x,fz (f x) c k):fz (aR b p d f) c k:=by
 cases b
 ·exact g d
 ·obtain⟨x,e⟩:=i rfl; rw [e]; exact g x
theorem fz.cond {b:Bool}{x y:Option (Z5×List Bs)}{c:Z5}{k:Nat}(h1:fz x c k) (f:fz y c k):fz (bif b then x else y) c k:=by
 cases b
 ·exact f
 ·exact h1
theorem fz.pair {o:Option Z5}{c:Z5}{k n:Nat}(h:SK o c k) (hn:k<=n) (M:List Bs):fz (o.bind fun x=>some (x,M)) c n:=by
 obtain⟨c1,b,f1,f⟩:=iE h;exact⟨c1,M,by rw [b]; rfl,f1,by omega⟩
theorem kF {α:Type}{l r:List α}{i:Nat}{x:α}(h:l.drop i=x::r):l.drop (i+1)=r/\l[i]?=some x:=by
 refine⟨?_,by have:=congrArg (fun t=>t[0]?) h; simpa using this⟩;have:=congrArg (List.drop 1) h
 simpa [List.drop_drop] using this
theorem Sx {d:ak}{t:aj}{i:Nat}(ht:d.aq.l[i]?=some t) (q:t.sz<=1048576) (j:d.aq.l.length<=1048576) (c:Z5) (g:c.Fd=d) (m:List Bs) (r:c.bh.l.length+(5+3*t.sz)<=900000000):fz (pW c (i:Int) m) c (5+3*t.sz):=by
 have s:=t.bq;have hn:Bs.sz t.aa=t.aa.length+1:=rfl;have u:(t.aB.l.map Z7.sz).sum+1=Sl.sz Z7.sz t.aB:=by unfold Sl.sz; omega
 have hm:=Sl.gz (f:=Z9.sz) t.aG Z9.pos;have hi:=Sl.gz (f:=Z8.sz) t.aL Z8.pos;unfold pW;have o:dh c.Fd.aq.l (i:Int)=some t:=by rw [g]; unfold dh; rw [if_pos (by simp),Int.toNat_natCast,ht]
 rw [o,oB,uC,oB];simp only [Ab.on];refine fz.bind (k:=1) (m:=4+3*t.sz) (jF (by omega) _ _ _) (by omega) fun c1 f1 v=>?_;refine fz.bind (k:=1) (m:=3+3*t.sz) (jF (by omega) _ _ _) (by omega) fun c2 f2 w=>?_;refine fz.bind (k:=1) (m:=2+3*t.sz) (jF (by omega) _ _ _) (by omega) fun c3 f3 x=>?_;refine fz.bind (k:=1) (m:=1+3*t.sz) (jF (by omega) _ _ _) (by omega) fun p f4 z=>?_
 refine fz.guard (fun _=>Ia p t (by rw [f4,f3,f2,f1,g]; exact j)) fun B=>?_;refine fz.bind (k:=1) (m:=3*t.sz) (jF (by omega) _ _ _) (by omega) fun c5 f5 C=>?_;refine fz.cond ?_ (fz.cond ?_ (fz.cond ?_ ⟨c5,_,rfl,rfl,by omega⟩))
 ·refine fz.pair (k:=3*(t.aB.l.map Z7.sz).sum) ?_ (by omega) _;unfold pU;exact(Ih t (by omega) t.aB.l c5 [] (fun y b=>by have:=Sl.cW (f:=Z7.sz) b; omega) (by omega)).map
 ·refine fz.pair (k:=2*t.aG.l.length) ?_ (by omega) _;unfold pV;exact(Ii t (by omega) t.aG.l c5 [] (fun y b=>by have:=Sl.cW (f:=Z9.sz) b; omega) (by omega)).map
 ·rw [di (by simp; omega),oB];exact fz.pair (Ig c5 t.aL _ _ (by simp; omega) (by simp) (fun y b=>by have:=Sl.cW (f:=Z8.sz) b; omega) (by omega)) (by omega) _
theorem Ij {d:ak}(b:∀t∈d.aq.l,t.sz<=1048576) (f:d.aq.l.length<=1048576):∀(l:List aj) (i:Nat) (c:Z5) (m:List Bs),d.aq.l.drop i=l->c.Fd=d->c.bh.l.length+(5*l.length+3*(l.map aj.sz).sum)<=900000000->SK (lZ l i c m) c (5*l.length+3*(l.map aj.sz).sum)
 | [],i,c,m,_,_,_=>Tk.pure c _
 | t::r,i,c,m,hl,g,j=>by
  obtain⟨t1,t2⟩:=kF hl;simp only [List.length_cons,List.map_cons,List.sum_cons] at j ⊢;rw [lZ];obtain⟨c1,m1,k,f1,p⟩:=Sx t2 (b t (List.mem_of_getElem? t2)) f c g m (by omega);rw [k,oB];obtain⟨c2,o,f2,q⟩:=iE (Ij b f r (i+1) c1 m1 t1 (f1.trans g) (by omega));exact⟨c2,o,f2.trans f1,by show c2.bh.l.length<=c.bh.l.length+_; omega⟩
def qi (t:az):Bool:=decide (((t.aF.l.length:Nat):Int)=1)&&decide (t.aF.l.headD 0=1)
def gd (d:ak) (own:Bs) (x:Z8):Bool:=qi x.aA&&(x.aA.aa==own||((aT d.aq.l x.aA.aa).2&&decide ((aT d.aq.l x.aA.aa).1.an=5)))
def gZ (d:ak) (n:Bs):List Z8:=(aT d.aq.l n).1.aL.l
inductive fm (d:ak) (own:Bs) (t:List Z8):Bs->Prop where
 | here {x:Z8}(hx:x∈t) (hg:gd d own x=true):fm d own t x.aA.aa
 | step {n:Bs}{x:Z8}(h:fm d own t n) (hx:x∈gZ d n) (hg:gd d own x=true):fm d own t x.aA.aa
theorem fm.via {d:ak}{own:Bs}{t:List Z8}{n:Bs}{e:Z8}(he:e∈t) (hg:gd d own e=true) (h:fm d own (gZ d e.aA.aa) n):fm d own t n:=by
 induction h with
 | here hx b=>exact .step (.here he hg) hx b
 | step _ hx b f=>exact .step f hx b
theorem fm.cons {d:ak}{own:Bs}{x:Z8}{t:List Z8}{n:Bs}(h:fm d own t n):fm d own (x::t) n:=by
 induction h with
 | here hx hg=>exact .here (.tail _ hx) hg
 | step _ hx hg b=>exact .step b hx hg
structure gp (d:ak) (own:Bs) (t:List Z8) (S S':List Bs):Prop where
 sub:∀n∈S,n∈S'
 yU:∀e∈t,gd d own e=true->e.aA.aa≠own/\e.aA.aa∈S'
 closed:∀n∈S',n∉S->∀e∈gZ d n,gd d own e=true->e.aA.aa≠own/\e.aA.aa∈S'
theorem gp.nil {d:ak}{own:Bs}(S:List Bs):gp d own [] S S:=⟨fun _ h=>h,fun _ h=>(by cases h),fun _ h b=>absurd h b⟩
theorem gp.skip {d:ak}{own:Bs}{x:Z8}{S:List Bs}(h:gd d own x=true->x.aA.aa≠own/\x.aA.aa∈S):gp d own [x] S S :=
 ⟨fun _ h=>h,fun e he hg=>by rw [List.mem_singleton.1 he] at hg ⊢; exact h hg,fun _ h b=>absurd h b⟩
theorem gp.comp {d:ak}{own:Bs}{x:Z8}{r:List Z8}{S g i:List Bs}(h1:gp d own [x] S g) (f:gp d own r g i):gp d own (x::r) S i:=by
 refine⟨fun n hn=>f.sub n (h1.sub n hn),fun e he hg=>?_,fun n hn k e he hg=>?_⟩
 ·rcases List.mem_cons.1 he with rfl|he
  ·obtain⟨a,b⟩:=h1.yU e (.head _) hg; exact⟨a,f.sub _ b⟩
  ·exact f.yU e he hg
 ·by_cases j:n∈g
  ·obtain⟨a,b⟩:=h1.closed n j k e he hg; exact⟨a,f.sub _ b⟩
  ·exact f.closed n hn j e he hg
theorem rS (l:List Bs) (s n:Bs):n∈b7 l s↔n∈l\/n=s:=by
 unfold b7
 split
 ·rename_i h
  exact⟨fun h1=>.inl h1,fun h1=>by rcases h1 with h1|rfl; exact h1; simpa using h⟩
 ·simp [or_comm]
theorem gp.child {d:ak}{own:Bs}{x:Z8}{S f:List Bs}(i:x.aA.aa≠own) (h:gp d own (gZ d x.aA.aa) (b7 S x.aA.aa) f):gp d own [x] S f:=by
 refine⟨fun n hn=>h.sub n ((rS _ _ _).2 (.inl hn)),fun e he hg=>?_,fun n hn j e he hg=>?_⟩
 ·rw [List.mem_singleton.1 he]; exact⟨i,h.sub _ ((rS _ _ _).2 (.inr rfl))⟩
 ·by_cases g:n=x.aA.aa
  ·subst g; exact h.yU e he hg
  ·exact h.closed n hn (fun b=>by rcases (rS _ _ _).1 b with b|b; exact j b; exact g b) e he hg
theorem gp.end {d:ak}{own:Bs}{t:List Z8}{S:List Bs}(h:gp d own t [] S):¬fm d own t own:=by
 have key:∀n,fm d own t n->n≠own/\n∈S:=by
  intro n hn;induction hn with
  | here hx hg=>exact h.yU _ hx hg
  | step _ hx hg b=>exact h.closed _ b.2 (by simp) _ hx hg
 exact fun hr=>(key _ hr).1 rfl
theorem rT {l:List aj}{s:Bs}(h:(aT l s).2=true):(aT l s).1.aa=s:=by
 unfold aT at h ⊢;cases e:l.find? (fun t=>t.aa==s) with
 | none=>rw [e] at h; cases h
 | some t=>have:=List.find?_some e; simpa using this
def Ik (d:ak) (own:Bs) (k:aj->aj->Z5->List Bs->Option (Bool×List Bs)) (b:aj) (c:Z5):Prop :=
 ∀y s z,k y b c s=some z->(z.1=true->fm d own y.aL.l own)/\(z.1=false->gp d own y.aL.l s z.2)
theorem Du {d:ak}{f:aj}{c:Z5}(q:c.Fd=d) {k} (hk:Ik d f.aa k f c):∀(l:List Z8) (s:List Bs) (o),ij f c k l s=some o ->
  (∃g,o=.inl g/\gp d f.aa l s g)\/∃g,o=.inr (true,g)/\fm d f.aa l f.aa
 | [],s,o,h=>by rw [ij] at h; cases h; exact .inl ⟨s,rfl,.nil s⟩
 | x::r,s,o,h=>by
  rw [ij] at h;simp only [Ab.on,q,iq] at h;have skip:(gd d f.aa x=true->x.aA.aa≠f.aa/\x.aA.aa∈s)->ij f c k r s=some o->(∃g,o=.inl g/\gp d f.aa (x::r) s g)\/∃g,o=.inr (true,g)/\fm d f.aa (x::r) f.aa:=fun hg h=>by
   rcases Du q hk r s o h with ⟨g,e,j⟩|⟨g,e,j⟩
   ·exact .inl ⟨g,e,gp.comp (.skip hg) j⟩
   ·exact .inr ⟨g,e,j.cons⟩
  have rest:∀w:Int,(qi x.aA=(decide (((x.aA.aF.l.length:Nat):Int)=1)&&decide (w=1))) ->
    (bif (!decide (((x.aA.aF.l.length:Nat):Int)=(1:Int)))||(!decide (w=(1:Int))) then ij f c k r s else(bif ((x.aA.aa==f.aa)) then(some (Sum.inr (true,s))) else(bif (((aT d.aq.l x.aA.aa).2&&(decide ((aT d.aq.l x.aA.aa).1.an=(5:Int))))&&(!(s.contains (aT d.aq.l x.aA.aa).1.aa))) then((k (aT d.aq.l x.aA.aa).1 f c (b7 s (aT d.aq.l x.aA.aa).1.aa)).bind fun u=>bif u.1 then(some (Sum.inr (true,u.2))) else(ij f c k r u.2)) else(ij f c k r s))))=some o ->
    (∃g,o=.inl g/\gp d f.aa (x::r) s g)\/∃g,o=.inr (true,g)/\fm d f.aa (x::r) f.aa:=by
   intro w hw h;rcases kZ h with ⟨h1,h⟩|⟨h1,h⟩
   ·refine skip (fun hg=>?_) h;unfold gd at hg;rw [hw] at hg;simp only [Bool.and_eq_true] at hg;rw [hg.1.1,hg.1.2] at h1; cases h1
   ·have B:qi x.aA=true:=by
     rw [hw]; simp only [Bool.or_eq_false_iff,Bool.not_eq_false'] at h1; rw [h1.1,h1.2]; rfl
    rcases kZ h with ⟨j,h⟩|⟨j,h⟩
    ·cases h;refine .inr ⟨s,rfl, ?_⟩;have he:x.aA.aa=f.aa:=by simpa using j
     have:=fm.here (d:=d) (own:=f.aa) (t:=x::r) (x:=x) (.head _) (by unfold gd; rw [B,j]; rfl);rw [he] at this; exact this
    ·have v:x.aA.aa≠f.aa:=by simpa using j
     rcases kZ h with ⟨m,h⟩|⟨m,h⟩
     ·simp only [Bool.and_eq_true] at m;have hn:=rT m.1.1;have hg:gd d f.aa x=true:=by unfold gd; rw [B,m.1.1,m.1.2]; simp
      obtain⟨z,C,h⟩:=bx h;obtain⟨E,F⟩:=hk _ _ _ C;rcases kZ h with ⟨y,h⟩|⟨y,h⟩
      ·cases h; exact .inr ⟨_,rfl,fm.via (.head _) hg (E y)⟩
      ·have hc:gp d f.aa [x] s z.2:=.child v (by have:=F y; rw [hn] at this; exact this);rcases Du q hk r z.2 o h with ⟨g,e,i⟩|⟨g,e,i⟩
       ·exact .inl ⟨g,e,gp.comp hc i⟩
       ·exact .inr ⟨g,e,i.cons⟩
     ·refine skip (fun hg=>⟨v, ?_⟩) h;unfold gd at hg;simp only [Bool.and_eq_true,Bool.or_eq_true] at hg;rcases hg.2 with i|i
      ·exact absurd (by simpa using i) v
      ·have hn:=rT i.1;rw [i.1,i.2,hn] at m
       simpa using m
  rcases xb h with ⟨h1,w,p,h⟩|⟨h1,h⟩
  ·refine rest w ?_ h;unfold qi;cases hl:x.aA.aF.l with
   | nil=>rw [hl] at p; cases p
   | cons a b=>rw [hl] at p; cases p; rfl
  ·refine rest 0 ?_ h;unfold qi;rw [show decide (((x.aA.aF.l.length:Nat):Int)=1)=false from by simpa using h1]; rfl
theorem Il {d:ak}{f:aj}{c:Z5}(g:c.Fd=d):∀n:Nat,Ik d f.aa (iU n) f c
 | 0=>fun _ _ _ h=>by cases h
 | n+1=>fun y s z h=>by
  rw [iU] at h;obtain⟨o,i,h⟩:=bx h;rcases Du g (Il g n) _ _ _ i with ⟨j,rfl,b⟩|⟨j,rfl,b⟩
  ·cases h; exact⟨fun h=>(by cases h),fun _=>b⟩
  ·cases h; exact⟨fun _=>b,fun h=>(by cases h)⟩
open Classical in
noncomputable def iF (d:ak) (t:aj):Bool:=decide (fm d t.aa t.aL.l t.aa)
open Classical in
theorem Sy {d:ak}{f:aj}{c:Z5}(g:c.Fd=d) (hl:d.aq.l.length<=1048576):ol c f=some (iF d f):=by
 obtain⟨b,e⟩:=Ia c f (by rw [g]; exact hl);rw [e]
 congr 1
 unfold ol yp at e;obtain⟨z,j,e⟩:=bx e;cases e;obtain⟨h1,k⟩:=Il g _ _ _ _ j;unfold iF;cases i:z.1
 ·exact(dF (k i).end).symm
 ·exact(dT (h1 i)).symm
end Go.Proofs
namespace Go.Proofs
open Go Go.Ab
def bU (b:Bool) (e:Int) (at_:Bs):List Z6:=bif b then [Z6.mk e at_] else []
def eU (s:Bs):Bool:=d_ s&&!ii s
def iG (d:ak) (n at_:Bs) (k:Int):List Z6 :=
 bif !(aT d.aq.l n).2&&!cC n then bU true 8 at_ else bif decide (k=(0:Int)) then bU (!cC n&&decide ((aT d.aq.l n).1.an=(5:Int))) 10 at_ else bU (!gm d n) 10 at_
def gq (d:ak) (a b:Bs):List Bs->List Z8->List Z6
 | _,[]=>[]
 | s,x::r=>(bU (!eU x.aa) 6 (a++x.aa++b)++bU (s.contains x.aa) 7 (a++x.aa++b))++(iG d x.aA.aa (a++x.aa++b) 1++gq d a b (s++[x.aa]) r)
def iV (d:ak) (b:Bs):List Bs->List Z7->List Z6
 | _,[]=>[]
 | s,x::r=>(bU (!eU x.aa) 6 (b++[46]++x.aa)++bU (s.contains x.aa) 7 (b++[46]++x.aa))++(iG d x.aA.aa (b++[46]++x.aa) 0++(gq d (b++[46]++x.aa++[40]) [41] [] x.aH.l++iV d b (s++[x.aa]) r))
def me (s:Bs):Bool:=(((s==([116,114,117,101]:Bs)))||((s==([102,97,108,115,101]:Bs))))||((s==([110,117,108,108]:Bs)))
def iW (b:Bs):List Bs->List Z9->List Z6
 | _,[]=>[]
 | s,x::r=>(bU (me x.aa||!eU x.aa) 6 (b++[46]++x.aa)++bU (s.contains x.aa) 7 (b++[46]++x.aa))++iW b (s++[x.aa]) r
def qj (t:aj):Bool:=bif (bif (decide (t.an=(1:Int))) then((decide (t.an=(1:Int)))) else((decide (t.an=(2:Int))))) then((decide (((t.aB.l.length:Nat):Int)=(0:Int)))) else(bif (bif (decide (t.an=(3:Int))) then((decide (t.an=(3:Int)))) else((decide (t.an=(4:Int))))) then((decide (((t.aG.l.length:Nat):Int)=(0:Int)))) else(bif (decide (t.an=(5:Int))) then((decide (((t.aL.l.length:Nat):Int)=(0:Int)))) else(false)))
def qk (t:aj):Bool:=((((((t.aa==([81,117,101,114,121]:Bs)))||((t.aa==([77,117,116,97,116,105,111,110]:Bs))))||((t.aa==([83,117,98,115,99,114,105,112,116,105,111,110]:Bs))))&&(!decide (t.an=(1:Int))))||(decide (t.an<(1:Int))))||(decide ((5:Int)<t.an))
def jG (d:ak) (t:aj):List Z6 :=
 bif (bif (decide (t.an=(1:Int))) then((decide (t.an=(1:Int)))) else((decide (t.an=(2:Int))))) then iV d t.aa [] t.aB.l else bif decide (t.an=(4:Int)) then iW t.aa [] t.aG.l else bif decide (t.an=(5:Int)) then gq d (t.aa++[46]) [] [] t.aL.l else []
noncomputable def iX (d:ak) (s:List Bs) (t:aj):List Z6 :=
 (bU (!eU t.aa) 6 t.aa++bU (s.contains t.aa||cC t.aa) 7 t.aa)++(bU (qj t) 8 t.aa++(bU (qk t) 9 t.aa++bU (decide (t.an=(5:Int))&&iF d t) 5 t.aa))
noncomputable def gA (d:ak):List Bs->List aj->List Z6
 | _,[]=>[]
 | s,t::r=>iX d s t++(jG d t++gA d (s++[t.aa]) r)
noncomputable def gB (d:ak) (b:Bool):List Z6:=gA d [] d.aq.l++bU (b&&!(aT d.aq.l ([81,117,101,114,121]:Bs)).2) 30 ([81,117,101,114,121]:Bs)
def Ad (o:Option Z5) (c:Z5) (X:List Z6):Prop:=∀c',o=some c'->c'.Fd=c.Fd/\c'.bh.l=c.bh.l++X
theorem Ad.pure (c:Z5):Ad (some c) c []:=fun c' h=>by cases h; simp
theorem Ad.id {o:Option Z5}{c:Z5}{X:List Z6}(h:Ad o c X):Ad (o.bind fun x=>some x) c X:=fun c' e=>by
 obtain⟨c1,b,e⟩:=bx e; cases e; exact h _ b
theorem Sz {α:Type}{z:Nat}{s r u:Sl α}(h:aW z s r=some u):u.l=s.l++r.l:=by
 unfold aW at h; split at h
 ·cases h; rfl
 ·cases h
theorem qm {a b s:Bs}(h:bM a b=some s):s=a++b:=by
 unfold bM at h; split at h
 ·cases h; rfl
 ·cases h
theorem iY (c:Z5) (b:Bool) (e:Int) (s:Bs):Ad (eY c b e s) c (bU b e s):=fun c' h=>by
 unfold eY at h;cases b
 ·cases h; exact⟨rfl,by simp [bU]⟩
 ·obtain⟨x,ex,h⟩:=bx h;cases h; exact⟨rfl,Sz ex⟩
theorem Im {c:Z5}{n a:Bs}{m:List Bs}{z:Z5×List Bs}(h:oo c n a m=some z):z.2=b7 m n/\z.1.Fd=c.Fd/\z.1.bh.l=c.bh.l++(bU (!eU n) 6 a++bU (m.contains n) 7 a):=by
 unfold oo at h;rw [uC,oB] at h;simp only [Ab.on] at h;have e:((!d_ n)||bif !(!d_ n) then ii n else false)=!eU n:=by unfold eU; cases d_ n<;>cases ii n<;>rfl
 rw [e] at h;obtain⟨c1,b,h⟩:=bx h;obtain⟨c2,f,h⟩:=bx h;cases h;obtain⟨h1,g⟩:=iY _ _ _ _ _ b;obtain⟨i,j⟩:=iY _ _ _ _ _ f;exact⟨rfl,i.trans h1,by rw [j,g,List.append_assoc]⟩
theorem Io (c:Z5) (n a:Bs) (k:Int):Ad (oq c n a k) c (iG c.Fd n a k):=by
 unfold oq iG;simp only [Ab.on,iq];cases b:(aT c.Fd.aq.l n).2<;>cases f:cC n<;>simp only [Bool.not_true,Bool.not_false,Bool.and_self,Bool.and_true,Bool.and_false,Bool.true_and,Bool.false_and,cond_true,cond_false]
 case false.false=>exact(iY _ _ _ _).id
 all_goals
  cases decide (k=(0:Int))<;>simp only [cond_true,cond_false]
  ·exact(iY _ _ _ _).id
  ·first
    | exact(iY _ _ _ _).id
    | (unfold lV; simp only [Ab.on,iq]; exact(iY _ _ _ _).id)
def kG (m s:List Bs):Prop:=∀n,m.contains n=s.contains n
theorem kG.nil:kG [] []:=fun _=>rfl
theorem kG.ins {m s:List Bs}(h:kG m s) (n:Bs):kG (b7 m n) (s++[n]):=fun k=>by
 have h1:=h k;rw [Bool.eq_iff_iff] at h1 ⊢;simp only [List.contains_iff_mem,rS,List.mem_append,List.mem_singleton] at h1 ⊢;rw [h1]
theorem Ip (a b:Bs):∀(l:List Z8) (c:Z5) (m s:List Bs),kG m s->Ad (lW a b l c m) c (gq c.Fd a b s l)
 | [],c,m,s,_=>by rw [lW]; exact .pure c
 | x::r,c,m,s,hm=>fun c' h=>by
  rw [lW] at h;simp only [Ab.on] at h;obtain⟨w,i,h⟩:=bx h;obtain⟨y,j,h⟩:=bx h;obtain rfl:=qm i;obtain rfl:=qm j;obtain⟨z,k,h⟩:=bx h;obtain⟨h1,f,o⟩:=Im k;obtain⟨c2,p,h⟩:=bx h;obtain⟨q,t⟩:=Io _ _ _ _ _ p;rw [h1] at h;obtain⟨u,v⟩:=Ip a b r c2 _ _ (hm.ins x.aa) _ h;have g:c2.Fd=c.Fd:=q.trans f;refine⟨u.trans g, ?_⟩;rw [v,t,o,g,f,gq,hm x.aa]
  simp only [List.append_assoc]
theorem Iq (c:Z5) (l:Sl Z8) (a b:Bs):Ad (lX c l a b) c (gq c.Fd a b [] l.l):=by
 unfold lX;exact(Ip a b l.l c [] [] .nil).id
theorem Ir (t:aj):∀(l:List Z7) (c:Z5) (m s:List Bs),kG m s->Ad (lY t l c m) c (iV c.Fd t.aa s l)
 | [],c,m,s,_=>by rw [lY]; exact .pure c
 | x::r,c,m,s,hm=>fun c' h=>by
  rw [lY] at h;simp only [Ab.on] at h;obtain⟨F,i,h⟩:=bx h;obtain⟨G,j,h⟩:=bx h;obtain rfl:=qm i;obtain rfl:=qm j;obtain⟨z,k,h⟩:=bx h;obtain⟨h1,b,o⟩:=Im k;obtain⟨c2,p,h⟩:=bx h;obtain⟨q,u⟩:=Io _ _ _ _ _ p;obtain⟨H,v,h⟩:=bx h;obtain rfl:=qm v;obtain⟨c3,w,h⟩:=bx h;obtain⟨y,B⟩:=Iq _ _ _ _ _ w;rw [h1] at h
  obtain⟨C,E⟩:=Ir t r c3 _ _ (hm.ins x.aa) _ h;have f:c2.Fd=c.Fd:=q.trans b;have g:c3.Fd=c.Fd:=y.trans f;refine⟨C.trans g, ?_⟩;rw [E,B,u,o,g,f,b,iV,hm x.aa];simp only [List.append_assoc]
theorem Is (t:aj):∀(l:List Z9) (c:Z5) (m s:List Bs),kG m s->Ad (kA t l c m) c (iW t.aa s l)
 | [],c,m,s,_=>by rw [kA]; exact .pure c
 | x::r,c,m,s,hm=>fun c' h=>by
  rw [kA] at h;simp only [Ab.on] at h;obtain⟨C,f,h⟩:=bx h;obtain⟨E,i,h⟩:=bx h;obtain rfl:=qm f;obtain rfl:=qm i;have rest:∀b:Bool,b=(me x.aa||!eU x.aa)->(eY c b (6:Int) (t.aa++[46]++x.aa)).bind (fun j=>(eY j (m.contains x.aa) (7:Int) (t.aa++[46]++x.aa)).bind fun k=>kA t r k (b7 m x.aa))=some c'->c'.Fd=c.Fd/\c'.bh.l=c.bh.l++iW t.aa s (x::r):=by
   intro b o h;obtain⟨c1,p,h⟩:=bx h;obtain⟨c2,q,h⟩:=bx h;obtain⟨h1,u⟩:=iY _ _ _ _ _ p;obtain⟨w,y⟩:=iY _ _ _ _ _ q;obtain⟨z,B⟩:=Is t r c2 _ _ (hm.ins x.aa) _ h;refine⟨z.trans (w.trans h1), ?_⟩;rw [B,y,u,o,iW,hm x.aa];simp only [List.append_assoc]
  rcases xb h with ⟨g,v,ev,h⟩|⟨g,h⟩
  ·rw [uC] at ev; cases ev;refine rest _ ?_ h;have g:me x.aa=false:=Bool.not_inj (show (!me x.aa)=!false from g);unfold me at g ⊢;rw [g]; unfold eU;cases d_ x.aa<;>cases ii x.aa<;>rfl
  ·refine rest _ ?_ h;have g:me x.aa=true:=Bool.not_inj (show (!me x.aa)=!true from g);unfold me at g ⊢;rw [g]; rfl
theorem SA {d:ak}{t:aj}{i:Nat}(ht:d.aq.l[i]?=some t) (hl:d.aq.l.length<=1048576){c:Z5}(u:c.Fd=d){m s:List Bs}(hm:kG m s){z:Z5×List Bs}(h:pW c (i:Int) m=some z) :
  z.1.Fd=d/\z.1.bh.l=c.bh.l++(iX d s t++jG d t)/\kG z.2 (s++[t.aa]):=by
 unfold pW at h;have x:dh c.Fd.aq.l (i:Int)=some t:=by rw [u]; unfold dh; rw [if_pos (by simp),Int.toNat_natCast,ht]
 rw [x,oB,uC,oB] at h;simp only [Ab.on] at h;have y:((!d_ t.aa)||bif !(!d_ t.aa) then ii t.aa else false)=!eU t.aa:=by unfold eU; cases d_ t.aa<;>cases ii t.aa<;>rfl
 have B:(m.contains t.aa||bif !(m.contains t.aa) then cC t.aa else false)=(s.contains t.aa||cC t.aa):=by
  rw [<- hm]; cases m.contains t.aa<;>cases cC t.aa<;>rfl
 rw [y,B] at h;obtain⟨c1,C,h⟩:=bx h;obtain⟨c2,E,h⟩:=bx h;obtain⟨c3,F,h⟩:=bx h;obtain⟨r,G,h⟩:=bx h;obtain⟨H,I⟩:=iY _ _ _ _ _ C;obtain⟨a2,J⟩:=iY _ _ _ _ _ E;obtain⟨a3,K⟩:=iY _ _ _ _ _ F;obtain⟨a4,L⟩:=iY _ _ _ _ _ G;have d4:r.Fd=d:=a4.trans (a3.trans (a2.trans (H.trans u)));have M:r.bh.l=c.bh.l++((bU (!eU t.aa) 6 t.aa++bU (s.contains t.aa||cC t.aa) 7 t.aa)++(bU (qj t) 8 t.aa++bU (qk t) 9 t.aa)):=by
  rw [L,K,J,I]; simp only [List.append_assoc]; rfl
 have rest:∀b:Bool,(decide (t.an=(5:Int))&&b)=(decide (t.an=(5:Int))&&iF d t) ->
   ((eY r ((decide (t.an=(5:Int)))&&b) (5:Int) t.aa).bind fun p=>bif (bif (decide (t.an=(1:Int))) then((decide (t.an=(1:Int)))) else((decide (t.an=(2:Int))))) then((pU p t).bind fun N=>some (N,(b7 m t.aa))) else(bif (decide (t.an=(4:Int))) then((pV p t).bind fun O=>some (O,(b7 m t.aa))) else(bif (decide (t.an=(5:Int))) then((bM t.aa ([46]:Bs)).bind fun P=>(lX p t.aL P ([]:Bs)).bind fun Q=>some (Q,(b7 m t.aa))) else(some (p,(b7 m t.aa))))))=some z->z.1.Fd=d/\z.1.bh.l=c.bh.l++(iX d s t++jG d t)/\kG z.2 (s++[t.aa]):=by
  intro b R h;rw [R] at h;obtain⟨c5,S,h⟩:=bx h;obtain⟨a5,U⟩:=iY _ _ _ _ _ S;have d5:c5.Fd=d:=a5.trans d4;have q:c5.bh.l=c.bh.l++iX d s t:=by
   rw [U,M]; unfold iX; simp only [List.append_assoc]
  unfold jG;rcases kZ h with ⟨k,h⟩|⟨k,h⟩<;>rw [k]
  ·obtain⟨w,f,h⟩:=bx h;cases h;unfold pU at f;obtain⟨o,j⟩:=(Ir t t.aB.l c5 [] [] .nil).id _ f;rw [d5] at j;exact⟨o.trans d5,by rw [j,q,cond_true,List.append_assoc],hm.ins _⟩
  ·rw [cond_false];rcases kZ h with ⟨k,h⟩|⟨k,h⟩<;>rw [k]
   ·obtain⟨w,f,h⟩:=bx h;cases h;unfold pV at f;obtain⟨o,j⟩:=(Is t t.aG.l c5 [] [] .nil).id _ f;exact⟨o.trans d5,by rw [j,q,cond_true,List.append_assoc],hm.ins _⟩
   ·rw [cond_false];rcases kZ h with ⟨k,h⟩|⟨k,h⟩<;>rw [k]
    ·obtain⟨W,es,h⟩:=bx h;obtain rfl:=qm es;obtain⟨w,f,h⟩:=bx h;cases h;obtain⟨o,j⟩:=Iq _ _ _ _ _ f;rw [d5] at j;exact⟨o.trans d5,by rw [j,q,cond_true,List.append_assoc],hm.ins _⟩
    ·cases h;exact⟨d5,by rw [q,cond_false,List.append_nil],hm.ins _⟩
 rcases xb h with ⟨g,v,ev,h⟩|⟨g,h⟩
 ·rw [Sy d4 hl] at ev;cases ev;exact rest _ rfl h
 ·exact rest _ (by rw [g]; rfl) h
theorem It {d:ak}(hl:d.aq.l.length<=1048576):∀(l:List aj) (i:Nat) (c c':Z5) (m s:List Bs),d.aq.l.drop i=l->c.Fd=d->kG m s->lZ l i c m=some c'->c'.Fd=d/\c'.bh.l=c.bh.l++gA d s l
 | [],i,c,c',m,s,_,f,_,h=>by rw [lZ] at h; cases h; exact⟨f,by simp [gA]⟩
 | t::r,i,c,c',m,s,g,f,hm,h=>by
  obtain⟨t1,t2⟩:=kF g;rw [lZ] at h;obtain⟨z,j,h⟩:=bx h;obtain⟨a,b,e⟩:=SA t2 hl f hm j;obtain⟨a2,k⟩:=It hl r (i+1) z.1 c' z.2 _ t1 a e h;exact⟨a2,by rw [k,b,gA]; simp only [List.append_assoc]⟩
theorem Iu {d:ak}(j:d.sz<=1048576) (b:Bool):∃l,tY d b=some l/\l.l=gB d b/\l.l.length<=9000000:=by
 have h1:=d.bq;have k:Sl.sz aj.sz d.aq=1+(d.aq.l.map aj.sz).sum:=rfl;have m:=Sl.gz (f:=aj.sz) d.aq aj.pos;obtain⟨c,e,f,l⟩:=iE (Ij (d:=d) (fun t ht=>by have:=Sl.cW (f:=aj.sz) ht; omega) (by omega) d.aq.l 0 (Z5.mk d (Sl.nil:Sl Z6)) [] rfl rfl (by show 0+_<=_; omega));have l:c.bh.l.length<=0+(5*d.aq.l.length+3*(d.aq.l.map aj.sz).sum):=l;obtain⟨_,hc⟩:=It (d:=d) (by omega) d.aq.l 0 (Z5.mk d (Sl.nil:Sl Z6)) c [] [] rfl rfl .nil e
 have hc:c.bh.l=gA d [] d.aq.l:=hc;unfold tY;rw [e,oB];simp only [Ab.on,iq];unfold gB;cases b&&!(aT d.aq.l ([81,117,101,114,121]:Bs)).2
 ·exact⟨_,rfl,by show c.bh.l=_; rw [hc]; simp [bU],by show c.bh.l.length<=_; omega⟩
 ·obtain⟨c2,g,_,o⟩:=iE (jF (c:=c) (by omega) true 30 ([81,117,101,114,121]:Bs));rw [cond_true,g];obtain⟨_,i⟩:=iY _ _ _ _ _ g;exact⟨_,rfl,by show c2.bh.l=_; rw [i,hc],by show c2.bh.l.length<=_; omega⟩
theorem Iv {α:Type} [DecidableEq α]:∀(l m:List α),l.Nodup->(∀x∈l,x∈m)->l.length<=m.length
 | [],_,_,_=>by simp
 | a::r,m,hn,b=>by
  have h1:a∈m:=b a (by simp);have f:=Iv r (m.erase a) (List.nodup_cons.1 hn).2 fun x hx=>by
   refine(List.mem_erase_of_ne ?_).2 (b x (by simp [hx]));rintro rfl; exact(List.nodup_cons.1 hn).1 hx
  have g:=List.length_erase_of_mem h1;have i:0<m.length:=List.length_pos_of_mem h1;simp only [List.length_cons]; omega
def oH (d:ak) (own:Bs) (l:List Bs) (x:Z8):List Bs:=if gd d own x&&!l.contains x.aA.aa then l++[x.aA.aa] else l
def iZ (d:ak) (t:List Z8) (own:Bs) (l:List Bs):List Bs:=t.foldl (oH d own) l
theorem rU (d:ak) (own:Bs) (t:List Z8):∀(l:List Bs) (n:Bs),n∈iZ d t own l↔n∈l\/∃x∈t,gd d own x=true/\x.aA.aa=n:=by
 unfold iZ;induction t with
 | nil=>intro l n; simp
 | cons x r b =>
  intro l n;rw [List.foldl_cons,b];unfold oH;simp only [List.mem_cons,exists_eq_or_imp]
  split
  ·rename_i h
   rw [Bool.and_eq_true] at h;simp only [List.mem_append,List.mem_singleton];constructor
   ·rintro ((h1|rfl)|h1)
    ·exact .inl h1
    ·exact .inr (.inl ⟨h.1,rfl⟩)
    ·exact .inr (.inr h1)
   ·rintro (h1|⟨_,rfl⟩|h1)
    ·exact .inl (.inl h1)
    ·exact .inl (.inr rfl)
    ·exact .inr h1
  ·rename_i h
   constructor
   ·rintro (h1|h1)
    ·exact .inl h1
    ·exact .inr (.inr h1)
   ·rintro (h1|⟨f,rfl⟩|h1)
    ·exact .inl h1
    ·rw [f,Bool.true_and] at h;exact .inl (by simpa using h)
    ·exact .inr h1
theorem Iw (d:ak) (own:Bs) (t:List Z8):∀(l:List Bs),l.Nodup->(iZ d t own l).Nodup:=by
 unfold iZ;induction t with
 | nil=>intro l h; exact h
 | cons x r g =>
  intro l hl;rw [List.foldl_cons];refine g _ ?_;unfold oH
  split
  ·rename_i h
   rw [Bool.and_eq_true] at h;have i:x.aA.aa∉l:=by simpa using h.2
   rw [List.nodup_append];refine⟨hl,by simp, ?_⟩;intro a j b f;simp only [List.mem_singleton] at f;subst f; rintro rfl; exact i j
  ·exact hl
theorem SB (d:ak) (own:Bs) (t:List Z8):∀(l:List Bs),l <+: iZ d t own l:=by
 unfold iZ;induction t with
 | nil=>intro l; exact List.prefix_refl _
 | cons x r b =>
  intro l;rw [List.foldl_cons];refine List.IsPrefix.trans ?_ (b _);unfold oH
  split
  ·exact List.prefix_append _ _
  ·exact List.prefix_refl _
theorem Ix {l:List aj}{s:Bs}(h:(aT l s).2=true):s∈l.map (·.aa):=by
 have hn:=rT h;rcases wo l s with e|e
 ·unfold aT at h e hn;cases b:l.find? (fun t=>t.aa==s) with
  | none=>rw [b] at h; cases h
  | some t=>exact List.mem_map.2 ⟨t,List.mem_of_find?_eq_some b,by have:=List.find?_some b; simpa using this⟩
 ·exact List.mem_map.2 ⟨_,e,hn⟩
theorem Iy {d:ak}{own:Bs}{x:Z8}(h:gd d own x=true):x.aA.aa=own\/x.aA.aa∈d.aq.l.map (·.aa):=by
 unfold gd at h;simp only [Bool.and_eq_true,Bool.or_eq_true] at h;rcases h.2 with h|h
 ·exact .inl (by simpa using h)
 ·exact .inr (Ix h.1)
structure mg (d:ak) (own:Bs) (t:List Z8) (i:Nat) (l:List Bs):Prop where
 reach:∀n∈l,fm d own t n
 first:∀x∈t,gd d own x=true->x.aA.aa∈l
 done:∀k (h:k<l.length),k<i->∀x∈gZ d l[k],gd d own x=true->x.aA.aa∈l
 nodup:l.Nodup
 known:∀n∈l,n=own\/n∈d.aq.l.map (·.aa)
 le:i<=l.length
theorem mg.start (d:ak) (own:Bs) (t:List Z8):mg d own t 0 (iZ d t own []):=by
 refine⟨fun n hn=>?_,fun x hx hg=>(rU _ _ _ _ _).2 (.inr ⟨x,hx,hg,rfl⟩),fun k _ h=>absurd h (Nat.not_lt_zero _),Iw _ _ _ _ List.nodup_nil,fun n hn=>?_,Nat.zero_le _⟩
 ·rcases (rU _ _ _ _ _).1 hn with h|⟨x,hx,hg,rfl⟩
  ·simp at h
  ·exact .here hx hg
 ·rcases (rU _ _ _ _ _).1 hn with h|⟨x,hx,hg,rfl⟩
  ·simp at h
  ·exact Iy hg
theorem mg.step {d:ak}{own:Bs}{t:List Z8}{i:Nat}{l:List Bs}(h:mg d own t i l) (hi:i<l.length):mg d own t (i+1) (iZ d (gZ d l[i]) own l):=by
 have b:=SB d own (gZ d l[i]) l;have f:∀n,n∈l->n∈iZ d (gZ d l[i]) own l:=fun n hn=>(rU _ _ _ _ _).2 (.inl hn);refine⟨fun n hn=>?_,fun x hx hg=>f _ (h.first x hx hg),fun k hk m x hx hg=>?_,Iw _ _ _ _ h.nodup,fun n hn=>?_,Nat.le_trans hi b.length_le⟩
 ·rcases (rU _ _ _ _ _).1 hn with h1|⟨x,hx,hg,rfl⟩
  ·exact h.reach n h1
  ·exact .step (h.reach _ (List.getElem_mem hi)) hx hg
 ·have g:k<l.length:=by omega
  have e:(iZ d (gZ d l[i]) own l)[k]=l[k]:=(b.getElem g).symm;rw [e] at hx;by_cases j:k<i
  ·exact f _ (h.done k g j x hx hg)
  ·have:k=i:=by omega
   subst this;exact(rU _ _ _ _ _).2 (.inr ⟨x,hx,hg,rfl⟩)
 ·rcases (rU _ _ _ _ _).1 hn with h1|⟨x,hx,hg,rfl⟩
  ·exact h.known n h1
  ·exact Iy hg
theorem mg.len {d:ak}{own:Bs}{t:List Z8}{i:Nat}{l:List Bs}(h:mg d own t i l):l.length<=d.aq.l.length+1:=by
 have:=Iv l (own::d.aq.l.map (·.aa)) h.nodup fun x hx=>by
  rcases h.known x hx with e|e
  ·simp [e]
  ·exact List.mem_cons_of_mem _ e
 simpa using this
open Classical in
theorem mg.end {d:ak}{own:Bs}{t:List Z8}{i:Nat}{l:List Bs}(h:mg d own t i l) (hi:l.length<=i):l.contains own=decide (fm d own t own):=by
 have b:∀n,fm d own t n->n∈l:=by
  intro n hn;induction hn with
  | here hx hg=>exact h.first _ hx hg
  | @step n x _ hx hg f =>
   obtain⟨k,hk,e⟩:=List.getElem_of_mem f;exact h.done k hk (by omega) x (by rw [e]; exact hx) hg
 rw [Bool.eq_iff_iff];simp only [List.contains_iff_mem,decide_eq_true_eq];exact⟨fun hm=>h.reach _ hm,fun hr=>b _ hr⟩
end Go.Proofs
namespace Go.Proofs
open Go Go.Ab
theorem SC (s:Bs) (l:List aj):mo s l=(match l.find? (fun t=>t.aa==s) with|some t=>Sum.inr (t,true)|none=>Sum.inl ()):=by
 induction l with
 | nil=>rfl
 | cons a r b =>
  rw [mo,List.find?_cons];simp only [on,b];cases a.aa==s<;>rfl
theorem i_ (d:ak) (s:Bs):eA d s=aT d.aq.l s:=by
 unfold eA aT on;rw [SC];cases d.aq.l.find? (fun t=>t.aa==s)<;>rfl
theorem rV {l:List aj}{s:Bs}(h:(aT l s).2=false):(aT l s).1=aj.zero:=by
 unfold aT at h ⊢;cases e:l.find? (fun t=>t.aa==s) with
 | none=>rfl
 | some t=>rw [e] at h; cases h
theorem Dv (d:ak) (n:Bs):gR d n=gm d n:=by
 unfold gR nH gm mR lV;simp only [on,iq,i_,show gJ n=cC n from rfl];cases f:cC n<;>cases b:(aT d.aq.l n).2
 ·rw [rV b]; rfl
 ·simp only [Bool.false_or,Bool.true_and,Bool.not_false,cond_true];cases decide ((aT d.aq.l n).1.an=(4:Int))<;>rfl
 ·rfl
 ·rfl
theorem SD (s:Bs):s7 s=some (eU s):=by
 unfold s7 eU;simp only [on,Sp];cases d_ s<;>rfl
theorem yV (n:Bs) (bad before:Bool) (at_:Bs):∃nl,lq n bad before at_=some ⟨nl,bU (bad||!eU n) 6 at_++bU before 7 at_⟩:=by
 unfold lq;rw [SD];generalize eU n=b;cases bad<;>cases b<;>cases before<;>exact⟨_,rfl⟩
theorem qn {α:Type}(f:α->Bs) (n:Bs):∀l:List α,(l.map f).contains n=l.any fun y=>f y==n
 | []=>rfl
 | a::r=>by
  rw [List.map_cons,List.contains_cons,qn f n r,List.any_cons,BEq.comm]
theorem Iz (n:Bs):∀l:List Z8,(match jw n l with|.inl _=>false|.inr e=>e.2)=l.any fun y=>y.aa==n
 | []=>rfl
 | a::r=>by
  rw [jw,List.any_cons,<- Iz n r];simp only [on];cases a.aa==n<;>rfl
theorem SE (s:Sl Z8) (n:Bs):(gQ s n).2=(s.l.map Z8.aa).contains n:=by
 rw [qn,<- Iz];unfold gQ;simp only [on];cases jw n s.l<;>rfl
theorem IA (n:Bs):∀l:List Z7,(match lz n l with|.inl _=>false|.inr e=>e.2)=l.any fun y=>y.aa==n
 | []=>rfl
 | a::r=>by
  rw [lz,List.any_cons,<- IA n r];simp only [on];cases a.aa==n<;>rfl
theorem SF (t:aj) (n:Bs):(nJ t n).2=(t.aB.l.map Z7.aa).contains n:=by
 rw [qn,<- IA];unfold nJ;simp only [on];cases lz n t.aB.l<;>rfl
theorem qo {α:Type}{l r:List α}{i:Nat}{x:α}(h:l.drop i=x::r):l.take (i+1)=l.take i++[x]:=by
 rw [List.take_add_one,(kF h).2]; rfl
theorem kH {s r:Sl Z6}(h:s.l.length+r.l.length<=1000000000000):aW 24 s r=some ⟨s.nl&&r.l.isEmpty,s.l++r.l⟩:=gN (by decide) (by omega)
theorem wv (u:Sl Z6) (b:Bool) (e:Int) (at_:Bs) (h:u.l.length<=100000000000):∃nl,(bif b then((aW 24 u (⟨false,[(Z6.mk e at_)]⟩:Sl Z6)).bind fun x=>some x) else some u)=some ⟨nl,u.l++bU b e at_⟩:=by
 cases b
 ·exact⟨u.nl,by simp [bU]⟩
 ·rw [cond_true,kH (by simp; omega)]; exact⟨_,rfl⟩
theorem SG (d:ak) (n at_:Bs) (u:Sl Z6) (h:u.l.length<=100000000000):∃nl,(bif (!lu d n) then((aW 24 u (⟨false,[(Z6.mk (8:Int) at_)]⟩:Sl Z6)).bind fun b=>some b) else(bif (!gm d n) then((aW 24 u (⟨false,[(Z6.mk (10:Int) at_)]⟩:Sl Z6)).bind fun f=>some f) else(some u)))=some ⟨nl,u.l++iG d n at_ 1⟩:=by
 have e:(!lu d n)=(!(aT d.aq.l n).2&&!cC n):=by
  unfold lu;simp only [on,i_,show gJ n=cC n from rfl];cases cC n<;>cases (aT d.aq.l n).2<;>rfl
 rw [e];unfold iG;cases (!(aT d.aq.l n).2&&!cC n)
 ·exact wv u _ 10 at_ h
 ·exact wv u true 8 at_ h
theorem SJ (d:ak) (n at_:Bs) (u:Sl Z6) (h:u.l.length<=100000000000):∃nl,(bif (!lu d n) then((aW 24 u (⟨false,[(Z6.mk (8:Int) at_)]⟩:Sl Z6)).bind fun b=>some b) else(bif (((!cC n)&&(aT d.aq.l n).2)&&(decide ((aT d.aq.l n).1.an=(5:Int)))) then((aW 24 u (⟨false,[(Z6.mk (10:Int) at_)]⟩:Sl Z6)).bind fun f=>some f) else(some u)))=some ⟨nl,u.l++iG d n at_ 0⟩:=by
 have e:(!lu d n)=(!(aT d.aq.l n).2&&!cC n):=by
  unfold lu;simp only [on,i_,show gJ n=cC n from rfl];cases cC n<;>cases (aT d.aq.l n).2<;>rfl
 have g:(((!cC n)&&(aT d.aq.l n).2)&&(decide ((aT d.aq.l n).1.an=(5:Int))))=(!cC n&&decide ((aT d.aq.l n).1.an=(5:Int))):=by
  cases i:(aT d.aq.l n).2
  ·rw [rV i]; cases cC n<;>rfl
  ·cases cC n<;>rfl
 rw [e,g];unfold iG;cases (!(aT d.aq.l n).2&&!cC n)
 ·exact wv u _ 10 at_ h
 ·exact wv u true 8 at_ h
theorem IB {d:ak}{f:Sl Z8}{a b:Bs}(k:a.length<=4000000) (m:b.length<=4000000):∀(l:List Z8) (i:Nat) (s:Sl Z6),f.l.drop i=l->(∀x∈l,x.aa.length<=1048576) ->
  s.l.length+(gq d a b ((f.l.take i).map Z8.aa) l).length<=10000000000->∃nl,mu d f a b l i s=some ⟨nl,s.l++gq d a b ((f.l.take i).map Z8.aa) l⟩
 | [],i,s,_,_,_=>⟨s.nl,by rw [mu]; simp [gq]⟩
 | x::r,i,s,g,hx,hl=>by
  have hn:=hx x (.head _);rw [gq] at hl ⊢;simp only [List.length_append] at hl;rw [mu];simp only [on,Dv];rw [di (by omega),oB,di (by simp; omega),oB,SE];obtain⟨v,j⟩:=yV x.aa false (((f.l.take i).map Z8.aa).contains x.aa) (a++x.aa++b);simp only [Bool.false_or] at j;rw [j,oB,kH (by simp only [List.length_append]; omega),oB]
  obtain⟨o,p⟩:=SG d x.aA.aa (a++x.aa++b) ⟨s.nl&&(bU (!eU x.aa) 6 (a++x.aa++b)++bU (((f.l.take i).map Z8.aa).contains x.aa) 7 (a++x.aa++b)).isEmpty,s.l++(bU (!eU x.aa) 6 (a++x.aa++b)++bU (((f.l.take i).map Z8.aa).contains x.aa) 7 (a++x.aa++b))⟩ (by simp only [List.length_append]; omega);rw [p,oB];have ht:(f.l.take (i+1)).map Z8.aa=(f.l.take i).map Z8.aa++[x.aa]:=by rw [qo g,List.map_append]; rfl
  obtain⟨q,t⟩:=IB (d:=d) k m r (i+1) ⟨o,(s.l++(bU (!eU x.aa) 6 (a++x.aa++b)++bU (((f.l.take i).map Z8.aa).contains x.aa) 7 (a++x.aa++b)))++iG d x.aA.aa (a++x.aa++b) 1⟩ (kF g).1 (fun y u=>hx y (.tail _ u)) (by rw [ht]; simp only [List.length_append]; omega);rw [t,ht];exact⟨q,by simp only [List.append_assoc]⟩
theorem IC {d:ak}(f:Sl Z8){a b:Bs}(g:a.length<=4000000) (i:b.length<=4000000) (hx:∀x∈f.l,x.aa.length<=1048576) (hl:(gq d a b [] f.l).length<=10000000000):∃nl,nI d f a b=some ⟨nl,gq d a b [] f.l⟩:=by
 obtain⟨nl,e⟩:=IB (d:=d) g i f.l 0 (Sl.nil:Sl Z6) rfl hx (by show 0+_<=_; simpa using hl);unfold nI;rw [e];exact⟨nl,rfl⟩
theorem ID {d:ak}{t:aj}(k:t.aa.length<=1048576):∀(l:List Z7) (i:Nat) (s:Sl Z6),t.aB.l.drop i=l->(∀x∈l,x.aa.length<=1048576/\∀y∈x.aH.l,y.aa.length<=1048576) ->
  s.l.length+(iV d t.aa ((t.aB.l.take i).map Z7.aa) l).length<=10000000000->∃nl,lB d t l i s=some ⟨nl,s.l++iV d t.aa ((t.aB.l.take i).map Z7.aa) l⟩
 | [],i,s,_,_,_=>⟨s.nl,by rw [lB]; simp [iV]⟩
 | x::r,i,s,g,hx,hl=>by
  obtain⟨hn,f⟩:=hx x (.head _);rw [iV] at hl ⊢;simp only [List.length_append] at hl;rw [lB];simp only [on,i_,show gJ x.aA.aa=cC x.aA.aa from rfl];rw [di (by simp; omega),oB,di (by simp; omega),oB,SF];obtain⟨u,j⟩:=yV x.aa false (((t.aB.l.take i).map Z7.aa).contains x.aa) (t.aa++[46]++x.aa);simp only [Bool.false_or] at j
  rw [j,oB,kH (by simp only [List.length_append]; omega),oB];obtain⟨m,o⟩:=SJ d x.aA.aa (t.aa++[46]++x.aa) ⟨s.nl&&(bU (!eU x.aa) 6 (t.aa++[46]++x.aa)++bU (((t.aB.l.take i).map Z7.aa).contains x.aa) 7 (t.aa++[46]++x.aa)).isEmpty,s.l++(bU (!eU x.aa) 6 (t.aa++[46]++x.aa)++bU (((t.aB.l.take i).map Z7.aa).contains x.aa) 7 (t.aa++[46]++x.aa))⟩ (by simp only [List.length_append]; omega)
  rw [o,oB,di (by simp; omega),oB];obtain⟨v,p⟩:=IC (d:=d) x.aH (a:=t.aa++[46]++x.aa++[40]) (b:=[41]) (by simp; omega) (by simp) f (by omega);rw [p,oB,kH (by simp only [List.length_append]; omega),oB];have ht:(t.aB.l.take (i+1)).map Z7.aa=(t.aB.l.take i).map Z7.aa++[x.aa]:=by rw [qo g,List.map_append]; rfl
  obtain⟨n4,q⟩:=ID (d:=d) k r (i+1) ⟨m&&(gq d (t.aa++[46]++x.aa++[40]) [41] [] x.aH.l).isEmpty,((s.l++(bU (!eU x.aa) 6 (t.aa++[46]++x.aa)++bU (((t.aB.l.take i).map Z7.aa).contains x.aa) 7 (t.aa++[46]++x.aa)))++iG d x.aA.aa (t.aa++[46]++x.aa) 0)++gq d (t.aa++[46]++x.aa++[40]) [41] [] x.aH.l⟩ (kF g).1 (fun y f=>hx y (.tail _ f)) (by rw [ht]; simp only [List.length_append]; omega)
  rw [q,ht];exact⟨n4,by simp only [List.append_assoc]⟩
theorem Dw (t:aj) (x:Z9):∀(m k:Nat) (b:Bool),k+m<=t.aG.l.length->nK t x m k b=some (b||((t.aG.l.drop k).take m).any fun y=>y.aa==x.aa)
 | 0,k,b,_=>by rw [nK]; simp
 | m+1,k,b,h=>by
  rw [nK];have hk:k<t.aG.l.length:=by omega
  rw [List.drop_eq_getElem_cons hk,List.take_succ_cons,List.any_cons];cases b
  ·simp only [aR,Bool.not_false,if_true,List.getElem?_eq_getElem hk,oB,Bool.false_or];rw [Dw t x m (k+1) _ (by omega)]
  ·simp only [aR,Bool.not_true,Bool.false_eq_true,if_false,Bool.true_or];rw [Dw t x m (k+1) _ (by omega),Bool.true_or]
theorem IE {t:aj}(f:t.aa.length<=1048576):∀(l:List Z9) (i:Nat) (s:Sl Z6),t.aG.l.drop i=l->(∀x∈l,x.aa.length<=1048576) ->
  s.l.length+(iW t.aa ((t.aG.l.take i).map Z9.aa) l).length<=10000000000->∃nl,j3 t l i s=some ⟨nl,s.l++iW t.aa ((t.aG.l.take i).map Z9.aa) l⟩
 | [],i,s,_,_,_=>⟨s.nl,by rw [j3]; simp [iW]⟩
 | x::r,i,s,b,hx,hl=>by
  have hn:=hx x (.head _);have hi:i<t.aG.l.length:=by
   have:=congrArg List.length b; simp at this; omega
  rw [iW] at hl ⊢;simp only [List.length_append] at hl;rw [j3];simp only [on];rw [Dw t x i 0 false (by omega),oB,di (by simp; omega),oB,di (by simp; omega),oB,List.drop_zero,Bool.false_or,<- qn];obtain⟨o,g⟩:=yV x.aa (me x.aa) (((t.aG.l.take i).map Z9.aa).contains x.aa) (t.aa++[46]++x.aa);have j:lq x.aa ((((x.aa==([116,114,117,101]:Bs)))||((x.aa==([102,97,108,115,101]:Bs))))||((x.aa==([110,117,108,108]:Bs)))) (((t.aG.l.take i).map Z9.aa).contains x.aa) (t.aa++[46]++x.aa)=_:=g
  rw [j,oB,kH (by simp only [List.length_append]; omega),oB];have ht:(t.aG.l.take (i+1)).map Z9.aa=(t.aG.l.take i).map Z9.aa++[x.aa]:=by rw [qo b,List.map_append]; rfl
  have H:∀u:Sl Z6,u.l=s.l++(bU (me x.aa||!eU x.aa) 6 (t.aa++[46]++x.aa)++bU (((t.aG.l.take i).map Z9.aa).contains x.aa) 7 (t.aa++[46]++x.aa)) ->
    ∃nl,j3 t r (i+1) u=some ⟨nl,s.l++((bU (me x.aa||!eU x.aa) 6 (t.aa++[46]++x.aa)++bU (((t.aG.l.take i).map Z9.aa).contains x.aa) 7 (t.aa++[46]++x.aa))++iW t.aa ((t.aG.l.take i).map Z9.aa++[x.aa]) r)⟩:=by
   intro u hu;obtain⟨n4,k⟩:=IE f r (i+1) u (kF b).1 (fun y m=>hx y (.tail _ m)) (by rw [ht,hu]; simp only [List.length_append]; omega);rw [k,ht,hu];exact⟨n4,by simp only [List.append_assoc]⟩
  exact H _ rfl
theorem IF (n:Bs):∀l:List Bs,(match nG n l with|.inl _=>false|.inr e=>e)=l.contains n
 | []=>rfl
 | a::r=>by
  rw [nG,List.contains_cons,<- IF n r,BEq.comm];simp only [on];cases a==n<;>rfl
theorem IG (s:Sl Bs) (n:Bs):s9 s n=s.l.contains n:=by
 rw [<- IF];unfold s9;simp only [on];cases nG n s.l<;>rfl
theorem SL (t:az):s_ t=some (qi t):=by
 unfold s_ qi;cases h:t.aF.l with
 | nil=>rfl
 | cons a r =>
  cases b:decide (((((a::r:List Int)).length:Nat):Int)=(1:Int))
  ·rfl
  ·rfl
theorem Dx (d:ak) (own:Bs):∀(l:List Z8) (s:Sl Bs),s.l.length+l.length<=1000000000->∃nl,mr d own l s=some ⟨nl,iZ d l own s.l⟩
 | [],s,_=>⟨s.nl,by rw [mr]; rfl⟩
 | x::r,s,h=>by
  simp only [List.length_cons] at h;rw [mr];simp only [on,i_];rw [SL,oB];have e:(qi x.aA&&(x.aA.aa==own||(aT d.aq.l x.aA.aa).2&&decide ((aT d.aq.l x.aA.aa).1.an=5)))=gd d own x:=rfl;rw [e,IG];have f:(gd d own x&&!(bif gd d own x then s.l.contains x.aA.aa else false))=(gd d own x&&!s.l.contains x.aA.aa):=by cases gd d own x<;>rfl
  rw [f];have g:iZ d (x::r) own s.l=iZ d r own (oH d own s.l x):=rfl;rw [g];cases b:gd d own x&&!s.l.contains x.aA.aa
  ·have hn:oH d own s.l x=s.l:=by unfold oH; rw [b]; rfl
   rw [hn];exact Dx d own r s (by omega)
  ·have hn:oH d own s.l x=s.l++[x.aA.aa]:=by unfold oH; rw [b]; rfl
   rw [hn,cond_true,gN (by decide) (by simp; omega),oB,oB];exact Dx d own r ⟨_,s.l++[x.aA.aa]⟩ (by simp; omega)
theorem II (d:ak) (t:aj) (own:Bs) (s:Sl Bs) (h:s.l.length+t.aL.l.length<=1000000000):∃nl,tc d t own s=some ⟨nl,iZ d t.aL.l own s.l⟩:=by
 obtain⟨nl,e⟩:=Dx d own t.aL.l s h;rw [NO];unfold xB;rw [e];exact⟨nl,rfl⟩
theorem SM {d:ak}(b:∀t∈d.aq.l,t.sz<=1048576) (n:Bs):(gZ d n).length<=1048576:=by
 unfold gZ;rcases wo d.aq.l n with e|e
 ·rw [e]; exact Nat.zero_le _
 ·have h1:=b _ e;have g:=(aT d.aq.l n).1.bq;have i:=Sl.gz (f:=Z8.sz) (aT d.aq.l n).1.aL Z8.pos;omega
open Classical in
theorem IJ {d:ak}(b:∀t∈d.aq.l,t.sz<=1048576) (hl:d.aq.l.length<=1048576) (t:aj):∀(n i:Nat) (s:Sl Bs),mg d t.aa t.aL.l i s.l->d.aq.l.length+2<i+n->td d t n s i=some (decide (fm d t.aa t.aL.l t.aa))
 | 0,i,s,hw,h=>by have:=hw.len; have:=hw.le; omega
 | n+1,i,s,hw,h=>by
  have hlen:=hw.len;rw [td];by_cases hi:i<s.l.length
  ·rw [dT (by omega:((i:Nat):Int)<((s.l.length:Nat):Int)),cond_true,List.getElem?_eq_getElem hi,oB,lc,oB,i_];have f:=SM b s.l[i];obtain⟨nl,e⟩:=II d (aT d.aq.l s.l[i]).1 t.aa s (by unfold gZ at f; omega);rw [e,oB];exact IJ b hl t n (i+1) ⟨nl,_⟩ (hw.step hi) (by omega)
  ·rw [dF (by omega:¬((i:Nat):Int)<((s.l.length:Nat):Int)),cond_false];unfold xC;rw [FW,oB,IG,hw.end (by omega)]
open Classical in
theorem SN {d:ak}(b:∀t∈d.aq.l,t.sz<=1048576) (hl:d.aq.l.length<=1048576){t:aj}(ht:t.sz<=1048576):u9 d t=some (decide (t.an=5)&&iF d t):=by
 unfold u9 iF;cases decide (t.an=5)
 ·rfl
 ·have g:=t.bq;have i:=Sl.gz (f:=Z8.sz) t.aL Z8.pos;obtain⟨nl,e⟩:=II d t t.aa (Sl.nil:Sl Bs) (by show 0+_<=_; omega);rw [Bool.not_true,cond_false,e,oB,Bool.true_and];exact IJ b hl t F0 0 ⟨nl,_⟩ (mg.start d t.aa t.aL.l) (by rw [fK]; omega)
theorem SO (t:aj):xy t=qj t:=rfl
theorem SP {d:ak}(j:∀t∈d.aq.l,t.sz<=1048576) (hl:d.aq.l.length<=1048576){t:aj}(ht:t.sz<=1048576) (b:Bool):∃nl,tg d t b=some ⟨nl,(bU (!eU t.aa) 6 t.aa++bU b 7 t.aa)++(bU (qj t) 8 t.aa++(bU (qk t) 9 t.aa++bU (decide (t.an=(5:Int))&&iF d t) 5 t.aa))⟩:=by
 unfold tg;obtain⟨k,m⟩:=yV t.aa false b t.aa;rw [xx,m,oB,NK,oB,SO,Bool.false_or];have len:∀b e,(bU b e t.aa).length<=1:=fun b e=>by cases b<;>simp [bU]
 have p:=len (!eU t.aa) 6; have q:=len b 7;have f:∀u:Sl Z6,u_ u=some u:=fun _=>rfl;have g:∀u:Sl Z6,u.l.length<=10->∃nl,pu d t u=some ⟨nl,u.l++bU (decide (t.an=(5:Int))&&iF d t) 5 t.aa⟩:=fun u hu=>by
  unfold pu;rw [SN j hl ht,oB];cases decide (t.an=(5:Int))&&iF d t
  ·exact⟨u.nl,by simp [bU,f]⟩
  ·rw [cond_true,kH (by simp; omega),oB,f]; exact⟨_,rfl⟩
 have i:∀u:Sl Z6,u.l.length<=8->∃nl,tf d t u=some ⟨nl,u.l++(bU (qk t) 9 t.aa++bU (decide (t.an=(5:Int))&&iF d t) 5 t.aa)⟩:=fun u hu=>by
  unfold tf;have hk:∀c,c=qk t->∃nl,(bif c then((aW 24 u (⟨false,[(Z6.mk (9:Int) t.aa)]⟩:Sl Z6)).bind fun o=>pu d t o) else(pu d t u))=some ⟨nl,u.l++(bU (qk t) 9 t.aa++bU (decide (t.an=(5:Int))&&iF d t) 5 t.aa)⟩:=by
   intro c hc;rw [<- hc];cases c
   ·obtain⟨nl,e⟩:=g u (by omega);exact⟨nl,by rw [cond_false,e]; simp [bU]⟩
   ·obtain⟨nl,e⟩:=g ⟨_,u.l++[Z6.mk 9 t.aa]⟩ (by simp; omega);rw [cond_true,kH (by simp; omega),oB,e];exact⟨nl,by simp [bU]⟩
  exact hk _ rfl
 cases qj t
 ·obtain⟨nl,e⟩:=i ⟨k,bU (!eU t.aa) 6 t.aa++bU b 7 t.aa⟩ (by simp; omega);exact⟨nl,by rw [cond_false,e]; simp [bU]⟩
 ·obtain⟨nl,e⟩:=i ⟨_,(bU (!eU t.aa) 6 t.aa++bU b 7 t.aa)++[Z6.mk 8 t.aa]⟩ (by simp; omega);rw [cond_true,kH (by simp; omega),oB,e];exact⟨nl,by simp [bU]⟩
theorem Dy {d:ak}(x:aj){i:Nat}(hi:i<=d.aq.l.length) (hl:d.aq.l.length<=1048576):∀(n k:Nat) (b:Bool),k<=i->i<k+n->th d (i:Int) x n b (k:Int)=tg d x (b||((d.aq.l.drop k).take (i-k)).any fun y=>y.aa==x.aa)
 | 0,k,b,h1,j=>by omega
 | n+1,k,b,h1,j=>by
  rw [th];by_cases hk:k<i
  ·rw [dT (by omega:((k:Nat):Int)<((i:Nat):Int)),cond_true];have f:k<d.aq.l.length:=by omega
   have hx:dh d.aq.l (k:Int)=some d.aq.l[k]:=by unfold dh; rw [if_pos (by simp),Int.toNat_natCast,List.getElem?_eq_getElem f]
   have g:cG (k:Int) 1=some ((k+1:Nat):Int):=by rw [fP (by omega)]; rfl
   obtain⟨m,hm⟩:∃m,i-k=m+1:=⟨i-k-1,by omega⟩;rw [hx,hm,List.drop_eq_getElem_cons f,List.take_succ_cons,List.any_cons];cases b
   ·simp only [aR,Bool.not_false,if_true,oB,Bool.false_or,g];rw [Dy x hi hl n (k+1) _ (by omega) (by omega),show i-(k+1)=m by omega]
   ·simp only [aR,Bool.not_true,Bool.false_eq_true,if_false,oB,Bool.true_or,g];rw [Dy x hi hl n (k+1) _ (by omega) (by omega),Bool.true_or]
  ·have:i-k=0:=by omega
   rw [dF (by omega:¬((k:Nat):Int)<((i:Nat):Int)),cond_false,this,List.take_zero,List.any_nil,Bool.or_false]
theorem SQ {d:ak}(b:∀t∈d.aq.l,t.sz<=1048576) (hl:d.aq.l.length<=1048576){t:aj}{i:Nat}(ht:d.aq.l[i]?=some t):∃nl,xD d (i:Int)=some ⟨nl,iX d ((d.aq.l.take i).map aj.aa) t⟩:=by
 have hi:=(List.getElem?_eq_some_iff.1 ht).1;have hx:dh d.aq.l (i:Int)=some t:=by unfold dh; rw [if_pos (by simp),Int.toNat_natCast,ht]
 unfold xD vb;rw [hx,oB,s4,oB,show (0:Int)=((0:Nat):Int) from rfl,Dy t (by omega) hl F0 0 _ (Nat.zero_le _) (by rw [fK]; omega),List.drop_zero,Nat.sub_zero,<- qn,Bool.or_comm];exact SP b hl (b t (List.mem_of_getElem? ht)) _
theorem SR {d:ak}{t:aj}(ht:t.sz<=1048576) (u:Sl Z6) (h:u.l.length+(jG d t).length<=10000000000) :
  ∃nl,(bif (bif (decide (t.an=(1:Int))) then((decide (t.an=(1:Int)))) else((decide (t.an=(2:Int))))) then((tj d t).bind fun k=>(aW 24 u k).bind fun m=>some m) else(bif (decide (t.an=(4:Int))) then((tq t).bind fun o=>(aW 24 u o).bind fun p=>some p) else(bif (decide (t.an=(5:Int))) then((bM t.aa ([46]:Bs)).bind fun q=>(nI d t.aL q ([]:Bs)).bind fun r=>(aW 24 u r).bind fun s=>some s) else(some u))))=some ⟨nl,u.l++jG d t⟩:=by
 have w:=t.bq;have hn:Bs.sz t.aa=t.aa.length+1:=rfl;have i:∀{x:Z8},x.sz<=1048576->x.aa.length<=1048576:=fun {x} h=>by have:=x.bq; have:Bs.sz x.aa=x.aa.length+1:=rfl; omega
 unfold jG at h ⊢
 revert h
 cases (bif (decide (t.an=(1:Int))) then((decide (t.an=(1:Int)))) else((decide (t.an=(2:Int)))))
 ·simp only [cond_false];cases decide (t.an=(4:Int))
  ·simp only [cond_false];cases decide (t.an=(5:Int))
   ·intro h; exact⟨u.nl,by simp⟩
   ·simp only [cond_true];intro h;rw [di (by simp; omega),oB];obtain⟨j,g⟩:=IC (d:=d) t.aL (a:=t.aa++[46]) (b:=[]) (by simp; omega) (by simp) (fun x hx=>i (by have:=Sl.cW (f:=Z8.sz) hx; omega)) (by omega);rw [g,oB,kH (by simp only; omega)]; exact⟨_,rfl⟩
  ·simp only [cond_true];intro h;obtain⟨j,g⟩:=IE (t:=t) (by omega) t.aG.l 0 (Sl.nil:Sl Z6) rfl (fun x hx=>by have:=Sl.cW (f:=Z9.sz) hx; have:=x.bq; have:Bs.sz x.aa=x.aa.length+1:=rfl; omega) (by show 0+_<=_; simp only [List.take_zero,List.map_nil]; omega);unfold tq;rw [g];simp only [oB,on,Sl.nil,List.nil_append,List.take_zero,List.map_nil];rw [kH (by simp only; omega)]; exact⟨_,rfl⟩
 ·simp only [cond_true];intro h;obtain⟨j,g⟩:=ID (d:=d) (t:=t) (by omega) t.aB.l 0 (Sl.nil:Sl Z6) rfl (fun x hx=>by
   have h1:=Sl.cW (f:=Z7.sz) hx; have z:=x.bq; have:Bs.sz x.aa=x.aa.length+1:=rfl;exact⟨by omega,fun y v=>i (by have:=Sl.cW (f:=Z8.sz) v; omega)⟩) (by show 0+_<=_; simp only [List.take_zero,List.map_nil]; omega)
  unfold tj;rw [g];simp only [oB,on,Sl.nil,List.nil_append,List.take_zero,List.map_nil];rw [kH (by simp only; omega)]; exact⟨_,rfl⟩
theorem IK {d:ak}(b:∀t∈d.aq.l,t.sz<=1048576) (hl:d.aq.l.length<=1048576):∀(l:List aj) (i:Nat) (s:Sl Z6),d.aq.l.drop i=l->s.l.length+(gA d ((d.aq.l.take i).map aj.aa) l).length<=10000000000->∃nl,mv d l i s=some ⟨nl,s.l++gA d ((d.aq.l.take i).map aj.aa) l⟩
 | [],i,s,_,_=>⟨s.nl,by rw [mv]; simp [gA]⟩
 | t::r,i,s,f,h=>by
  obtain⟨t1,t2⟩:=kF f;rw [gA] at h ⊢;simp only [List.length_append] at h;rw [mv];simp only [on];obtain⟨p,g⟩:=SQ b hl t2;rw [g,oB,kH (by simp only; omega),oB];obtain⟨j,k⟩:=SR (d:=d) (b t (List.mem_of_getElem? t2)) ⟨s.nl&&(iX d ((d.aq.l.take i).map aj.aa) t).isEmpty,s.l++iX d ((d.aq.l.take i).map aj.aa) t⟩ (by simp only [List.length_append]; omega)
  rw [k,oB];have ht:(d.aq.l.take (i+1)).map aj.aa=(d.aq.l.take i).map aj.aa++[t.aa]:=by rw [qo f,List.map_append]; rfl
  obtain⟨m,o⟩:=IK b hl r (i+1) ⟨j,(s.l++iX d ((d.aq.l.take i).map aj.aa) t)++jG d t⟩ t1 (by rw [ht]; simp only [List.length_append]; omega);rw [o,ht];exact⟨m,by simp only [List.append_assoc]⟩
theorem SS {d:ak}(f:∀t∈d.aq.l,t.sz<=1048576) (hl:d.aq.l.length<=1048576) (b:Bool) (h:(gB d b).length<=9000000):∃nl,tr d b=some ⟨nl,gB d b⟩:=by
 unfold gB at h ⊢;simp only [List.length_append] at h;obtain⟨g,i⟩:=IK f hl d.aq.l 0 (Sl.nil:Sl Z6) rfl (by show 0+_<=_; simp only [List.take_zero,List.map_nil]; omega);unfold tr;rw [i];simp only [oB,on,i_,Sl.nil,List.nil_append,List.take_zero,List.map_nil];obtain⟨j,k⟩:=wv ⟨g,gA d [] d.aq.l⟩ (b&&!(aT d.aq.l ([81,117,101,114,121]:Bs)).2) 30 ([81,117,101,114,121]:Bs) (by simp only; omega)
 rw [k];exact⟨j,rfl⟩
end Go.Proofs
namespace Go.Proofs
open Go Go.Ab
theorem SU (s:Bs) (l:List Bs):∀n:Nat,(l.contains s=false->kr s l n=Sum.inl ())/\(l.contains s=true->∃m:Nat,kr s l n=Sum.inr (m:Int)):=by
 induction l with
 | nil=>intro n; exact⟨fun _=>rfl,fun h=>by simp at h⟩
 | cons a r b =>
  intro n;rw [kr];simp only [Ab.on,List.contains_cons];cases s==a
  ·simp only [Bool.false_or,cond_false]; exact b (n+1)
  ·simp only [Bool.true_or,cond_true]; exact⟨fun h=>by simp at h,fun _=>⟨n,rfl⟩⟩
theorem Dz (a:Sl Bs) (s:Bs):lN a s=a.l.contains s:=by
 unfold lN lM;simp only [Ab.on];have h:=SU s a.l 0;cases hc:a.l.contains s
 ·rw [h.1 hc]; rfl
 ·obtain⟨m,e⟩:=h.2 hc;rw [e]; exact dT (by simp)
theorem IL (b:Sl Int):∀(l:List Int) (s:Nat),l.length+s=b.l.length->l7 b l s=some (if l=b.l.drop s then Sum.inl () else Sum.inr false)
 | [],s,h=>by
  rw [l7,if_pos];rw [List.drop_eq_nil_of_le]; simp at h; omega
 | x::r,s,h=>by
  simp only [List.length_cons] at h;have f:s<b.l.length:=by omega
  have hg:=List.getElem?_eq_getElem f;rw [l7];simp only [Ab.on];rw [hg,oB,IL b r (s+1) (by omega),Q.k8 hg];generalize b.l[s]=y;generalize b.l.drop (s+1)=t;by_cases e:x=y
  ·subst e; simp only [decide_true,Bool.not_true,cond_false,List.cons.injEq,true_and]
  ·simp [e]
theorem IM (a b:Sl Int):rE a b=some (decide (a.l=b.l)):=by
 unfold rE;by_cases h:a.l.length=b.l.length
 ·rw [show decide ((a.l.length:Int)=(b.l.length:Int))=true from dT (by omega)];simp only [Bool.not_true,cond_false];rw [IL b a.l 0 (by omega),List.drop_zero];by_cases e:a.l=b.l<;>simp [e,Ab.on]
 ·rw [show decide ((a.l.length:Int)=(b.l.length:Int))=false from dF (by omega)];have:a.l≠b.l:=fun e=>h (by rw [e]);simp [this]
theorem IN (b:Sl Int):∀(l:List Int) (s:Nat),mz b l s=l7 b l s
 | [],s=>rfl
 | x::r,s=>by rw [mz,l7]; simp only [Ab.on,IN b r]
theorem SV (a b:Sl Int):qU a b=some (decide (a.l=b.l)):=by
 rw [<- IM]; unfold qU rE; rw [IN]; all_goals rfl
theorem uD (t:az):gj t=eB t.aF.l:=uB t
theorem DA {t:az}(h:t.aF.l.length<=1048576) (h1:1<=t.aF.l.length):qX t=some ⟨t.aa,⟨false,t.aF.l.drop 1⟩⟩:=by
 unfold qX;rw [Aj h1,oB,gN (by decide) (by simp; omega)];simp
theorem rW {t:az}(h:t.aF.l.length<=1048576):mB t=some ⟨t.aa,⟨false,(b8 t.aF).l⟩⟩:=by
 unfold mB b8;simp only [Ab.on,uD];cases hn:eB t.aF.l
 ·simp only [cond_false];rw [gN (by decide) (by simp; omega)];simp
 ·simp only [cond_true];rw [DA h (Dq hn)]; rfl
theorem ww (s:Sl Int):(b8 s).l.length<=s.l.length:=by unfold b8; cases eB s.l<;>simp
theorem IP {t:az}(h:t.aF.l.length<=1048576):tt t=some (fR (b8 t.aF).l):=by
 unfold tt;rw [rW h];simp only [oB,Ab.on,fR];cases (b8 t.aF).l with
 | nil=>rfl
 | cons a r=>simp; by_cases h:a=2<;>simp [h]
theorem wx {t:az}(h:t.aF.l.length<=1048576):jx t=some (bif fR (b8 t.aF).l then(⟨t.aa,⟨false,(b8 t.aF).l.drop 1⟩⟩,true) else(⟨[],Sl.nil⟩,false)):=by
 unfold jx;rw [IP h];simp only [oB];cases hl:fR (b8 t.aF).l with
 | false=>rfl
 | true =>
  simp only [Bool.not_true,cond_false,cond_true];rw [rW h,oB,DA (by have:=ww t.aF; simp only; omega) (yS hl)];rfl
theorem IQ {f:Bs->Option Bool}:∀{l:List Bs},(∀s∈l,∃b,f s=some b)->∃r,sY f l=some r
 | [],_=>⟨_,rfl⟩
 | s::l,h=>by
  obtain⟨b,e⟩:=h s (.head _);obtain⟨r,g⟩:=IQ (l:=l) fun x hx=>h x (.tail _ hx);exact⟨_,by rw [sY,e,oB,g]; rfl⟩
theorem uE {t:az}(h:eB t.aF.l=true):(jE t).aF.l.length<t.aF.l.length:=by
 have:=Dq h;simp only [jE,b8,h,cond_true,List.length_drop]; omega
def gK (d:ak) (a n:Bs):Bool :=
 (aT d.aq.l n).2&&(decide ((aT d.aq.l n).1.an=1)&&((decide ((aT d.aq.l a).1.an=1)&&n==a)||((decide ((aT d.aq.l a).1.an=2)&&(aT d.aq.l n).1.aX.l.contains a)||(decide ((aT d.aq.l a).1.an=3)&&(aT d.aq.l a).1.aG.l.any fun y=>y.aa==n))))
def kI (d:ak) (a:Bs) (x:aj×Bool) (s:Bs):Bool:=(aT d.aq.l s).2&&(decide ((aT d.aq.l s).1.an=1)&&(!decide (x.1.an=2)||(aT d.aq.l s).1.aX.l.contains a))
theorem IR (t:aj) (a:Bs):yq t a=t.aX.l.contains a:=Dz _ _
theorem IS (d:ak) (a:Bs) (x:aj×Bool) (s:Bs):ud d a x s=some (kI d a x s):=by
 unfold ud kI;rw [lT,oB];simp only [iq,Ht,IR];cases (aT d.aq.l s).2<;>cases decide ((aT d.aq.l s).1.an=(1:Int))<;>cases decide (x.1.an=(2:Int))<;>cases (aT d.aq.l s).1.aX.l.contains a<;>rfl
theorem DB (d:ak) (h:d.aq.l.length<=1048576):∀(n:Nat) (o:Sl Bs) (s:Nat) (l:List Bs),s<=d.aq.l.length->d.aq.l.length<s+n->o.l.length+(d.aq.l.length-s)<=2097152 ->
  ∃r,pY d n o s l=some r/\∀z,z∈r.l↔z∈o.l\/z∈l/\z∈(d.aq.l.drop s).map aj.aa
 | 0,_,_,_,h1,b,_=>by omega
 | n+1,o,s,l,h1,b,j=>by
  rw [pY];by_cases g:s<d.aq.l.length
  ·rw [show decide (((s:Nat):Int)<((d.aq.l.length:Nat):Int))=true from dT (by omega),cond_true,List.getElem?_eq_getElem g,oB];unfold vN;have i:(d.aq.l.drop s).map aj.aa=d.aq.l[s].aa::(d.aq.l.drop (s+1)).map aj.aa:=by rw [List.drop_eq_getElem_cons g]; rfl
   cases hc:l.contains d.aq.l[s].aa
   ·obtain⟨r,e,hr⟩:=DB d h n o (s+1) l (by omega) (by omega) (by omega);rw [cond_false];refine⟨r,e,fun z=>?_⟩;rw [hr z,i,List.mem_cons];have hn:d.aq.l[s].aa∉l:=by simpa using hc
    constructor
    ·rintro (h1|⟨h1,b⟩)
     ·exact .inl h1
     ·exact .inr ⟨h1,.inr b⟩
    ·rintro (h1|⟨h1,b|b⟩)
     ·exact .inl h1
     ·rw [b] at h1; exact absurd h1 hn
     ·exact .inr ⟨h1,b⟩
   ·have hm:d.aq.l[s].aa∈l:=by simpa using hc
    rw [cond_true,gN (by decide) (by simp; omega),oB];obtain⟨r,e,hr⟩:=DB d h n ⟨_,o.l++[d.aq.l[s].aa]⟩ (s+1) (List.erase l d.aq.l[s].aa) (by omega) (by omega) (by simp; omega);refine⟨r,e,fun z=>?_⟩;rw [hr z,i,List.mem_cons];simp only [List.mem_append,List.mem_singleton];by_cases f:z=d.aq.l[s].aa
    ·subst f;exact⟨fun _=>.inr ⟨hm,.inl rfl⟩,fun _=>.inl (.inr rfl)⟩
    ·rw [List.mem_erase_of_ne f];constructor
     ·rintro ((h1|h1)|⟨h1,b⟩)
      ·exact .inl h1
      ·exact absurd h1 f
      ·exact .inr ⟨h1,.inr b⟩
     ·rintro (h1|⟨h1,b|b⟩)
      ·exact .inl (.inl h1)
      ·exact absurd b f
      ·exact .inr ⟨h1,b⟩
  ·rw [show decide (((s:Nat):Int)<((d.aq.l.length:Nat):Int))=false from dF (by omega),cond_false];refine⟨o,rfl,fun z=>?_⟩;rw [List.drop_of_length_le (by omega)];simp
theorem yW (d:ak) (h:d.aq.l.length<=1048576) (a:Bs) (x:aj×Bool) (l:List Bs):∃r,pZ d a x l=some r/\∀z,z∈r.l↔z∈l/\kI d a x z=true:=by
 unfold pZ;obtain⟨r,e⟩:=IQ (l:=l) (f:=ud d a x) fun s _=>⟨_,IS d a x s⟩;obtain⟨_,hr⟩:=Ae e;rw [e,oB];unfold yt;obtain⟨b,g,i⟩:=DB d h (d.aq.l.length+1) (Sl.nil:Sl Bs) 0 r (Nat.zero_le _) (by omega) (by show 0+_<=_; omega);refine⟨b,g,fun z=>?_⟩;rw [i z,List.drop_zero,hr,List.mem_filter,IS];have j:(some (kI d a x z)==some true)=kI d a x z:=by cases kI d a x z<;>rfl
 rw [j];constructor
 ·rintro (h1|⟨h1,_⟩)
  ·cases h1
  ·exact h1
 ·intro h1;refine .inr ⟨h1, ?_⟩;have hk:=h1.2;unfold kI at hk;rw [Bool.and_eq_true] at hk;exact Ix hk.1
theorem DC (d:ak) (h:d.aq.l.length<=1048576) (a:Bs) (x:aj×Bool):∀(n s:Nat) (l:List Bs),s<=d.aq.l.length->d.aq.l.length<s+n ->
  ∃r,p5 d a x n s l=some r/\∀z,z∈r.l↔(z∈l\/∃y∈d.aq.l.drop s,y.aX.l.contains a=true/\y.aa=z)/\kI d a x z=true
 | 0,_,_,h1,f=>by omega
 | n+1,s,l,h1,f=>by
  rw [p5];by_cases b:s<d.aq.l.length
  ·rw [show decide (((s:Nat):Int)<((d.aq.l.length:Nat):Int))=true from dT (by omega),cond_true,List.getElem?_eq_getElem b,oB,Ht,oB,IR];unfold vQ;rw [List.drop_eq_getElem_cons b];cases hc:d.aq.l[s].aX.l.contains a
   ·obtain⟨r,e,hr⟩:=DC d h a x n (s+1) l (by omega) (by omega);rw [cond_false];refine⟨r,e,fun z=>?_⟩;rw [hr z];simp only [List.mem_cons,exists_eq_or_imp,hc,Bool.false_eq_true,false_and,false_or]
   ·obtain⟨r,e,hr⟩:=DC d h a x n (s+1) (b7 l d.aq.l[s].aa) (by omega) (by omega);rw [cond_true];refine⟨r,e,fun z=>?_⟩;rw [hr z,rS];simp only [List.mem_cons,exists_eq_or_imp,hc,true_and];rw [or_assoc,eq_comm (a:=z)]
  ·rw [show decide (((s:Nat):Int)<((d.aq.l.length:Nat):Int))=false from dF (by omega),cond_false];obtain⟨r,e,hr⟩:=yW d h a x l;refine⟨r,e,fun z=>?_⟩;rw [hr z,List.drop_of_length_le (by omega)];simp
theorem IT (d:ak) (h:d.aq.l.length<=1048576) (a:Bs) (x:aj×Bool):∀(n s:Nat) (l:List Bs),s<=x.1.aG.l.length->x.1.aG.l.length<s+n ->
  ∃r,ue d a x n s l=some r/\∀z,z∈r.l↔(z∈l\/∃y∈x.1.aG.l.drop s,y.aa=z)/\kI d a x z=true
 | 0,_,_,h1,f=>by omega
 | n+1,s,l,h1,f=>by
  rw [ue];by_cases b:s<x.1.aG.l.length
  ·rw [show decide (((s:Nat):Int)<((x.1.aG.l.length:Nat):Int))=true from dT (by omega),cond_true,List.getElem?_eq_getElem b,oB,List.drop_eq_getElem_cons b];obtain⟨r,e,hr⟩:=IT d h a x n (s+1) (b7 l x.1.aG.l[s].aa) (by omega) (by omega);refine⟨r,e,fun z=>?_⟩;rw [hr z,rS];simp only [List.mem_cons,exists_eq_or_imp];rw [or_assoc,eq_comm (a:=z)]
  ·rw [show decide (((s:Nat):Int)<((x.1.aG.l.length:Nat):Int))=false from dF (by omega),cond_false];obtain⟨r,e,hr⟩:=yW d h a x l;refine⟨r,e,fun z=>?_⟩;rw [hr z,List.drop_of_length_le (by omega)];simp
theorem SX {d:ak}(h:d.aq.l.length<=1048576) (a:Bs):∃r,yu d a=some r/\∀z,z∈r.l↔gK d a z=true:=by
 unfold yu vR;rw [lT,oB,iq];by_cases h1:(aT d.aq.l a).1.an=1
 ·obtain⟨r,e,hr⟩:=yW d h a (aT d.aq.l a) (b7 [] a);rw [dT h1,cond_true];refine⟨r,e,fun z=>?_⟩;rw [hr z,rS];unfold kI gK;rw [h1];simp;constructor
  ·rintro ⟨rfl,f,b⟩; exact⟨f,b,rfl⟩
  ·rintro ⟨f,b,rfl⟩; exact⟨rfl,f,b⟩
 ·rw [dF h1,cond_false];by_cases f:(aT d.aq.l a).1.an=2
  ·obtain⟨r,e,hr⟩:=DC d h a (aT d.aq.l a) (d.aq.l.length+1) 0 [] (Nat.zero_le _) (by omega);rw [dT f,cond_true];refine⟨r,e,fun z=>?_⟩;rw [hr z];unfold kI gK;rw [f];simp;intro b g i;rcases wo d.aq.l z with j|j
   ·rw [j] at g; cases g
   ·exact⟨_,j,i,rT b⟩
  ·rw [dF f,cond_false];by_cases b:(aT d.aq.l a).1.an=3
   ·obtain⟨r,e,hr⟩:=IT d h a (aT d.aq.l a) ((aT d.aq.l a).1.aG.l.length+1) 0 [] (Nat.zero_le _) (by omega);rw [dT b,cond_true];refine⟨r,e,fun z=>?_⟩;rw [hr z];unfold kI gK;rw [b];simp;constructor
    ·rintro ⟨g,i,k⟩; exact⟨i,k,g⟩
    ·rintro ⟨i,k,g⟩; exact⟨g,i,k⟩
   ·obtain⟨r,e,hr⟩:=yW d h a (aT d.aq.l a) [];rw [dF b,cond_false];refine⟨r,e,fun z=>?_⟩;rw [hr z];unfold gK;rw [dF h1,dF f,dF b];simp
theorem IU (n:Bs):∀l:List Bs,(match nL n l with|.inl _=>false|.inr e=>e)=l.contains n
 | []=>rfl
 | a::r=>by
  rw [nL,List.contains_cons,<- IU n r,BEq.comm];simp only [on];cases a==n<;>rfl
theorem DD (s:Sl Bs) (n:Bs):mw s n=s.l.contains n:=by
 rw [<- IU];unfold mw;simp only [on];cases nL n s.l<;>rfl
theorem IV (n:Bs):∀l:List Z9,(match nM n l with|.inl _=>false|.inr e=>e)=l.any fun y=>y.aa==n
 | []=>rfl
 | a::r=>by
  rw [nM,List.any_cons,<- IV n r];simp only [on];cases a.aa==n<;>rfl
theorem IW (t:aj) (n:Bs):pw t n=t.aG.l.any fun y=>y.aa==n:=by
 rw [<- IV];unfold pw;simp only [on];cases nM n t.aG.l<;>rfl
theorem IX (d:ak){i:Nat}(hi:i<d.aq.l.length) (hl:d.aq.l.length<=1048576):∀(n k:Nat),k<=i->i<k+n->tu d (i:Int) n (k:Int)=some (!((d.aq.l.drop k).take (i-k)).any fun y=>y.aa==d.aq.l[i].aa)
 | 0,k,h1,f=>by omega
 | n+1,k,h1,f=>by
  rw [tu];by_cases hk:k<i
  ·have b:k<d.aq.l.length:=by omega
   have hx:dh d.aq.l (k:Int)=some d.aq.l[k]:=by unfold dh; rw [if_pos (by simp),Int.toNat_natCast,List.getElem?_eq_getElem b]
   have g:dh d.aq.l (i:Int)=some d.aq.l[i]:=by unfold dh; rw [if_pos (by simp),Int.toNat_natCast,List.getElem?_eq_getElem hi]
   have j:cG (k:Int) 1=some ((k+1:Nat):Int):=by rw [fP (by omega)]; rfl
   obtain⟨m,hm⟩:∃m,i-k=m+1:=⟨i-k-1,by omega⟩;rw [dT (by omega:((k:Nat):Int)<((i:Nat):Int)),cond_true,hx,oB,g,oB,hm,List.drop_eq_getElem_cons b,List.take_succ_cons,List.any_cons];cases d.aq.l[k].aa==d.aq.l[i].aa
   ·rw [cond_false,j,oB,IX d hi hl n (k+1) (by omega) (by omega),show i-(k+1)=m by omega,Bool.false_or]
   ·rfl
  ·have:i-k=0:=by omega
   rw [dF (by omega:¬((k:Nat):Int)<((i:Nat):Int)),cond_false,this,List.take_zero,List.any_nil];rfl
theorem SY (d:ak){i:Nat}(hi:i<d.aq.l.length) (hl:d.aq.l.length<=1048576):xG d (i:Int)=some (!(d.aq.l.take i).any fun y=>y.aa==d.aq.l[i].aa):=by
 unfold xG vf;rw [show (0:Int)=((0:Nat):Int) from rfl,IX d hi hl F0 0 (Nat.zero_le _) (by rw [fK]; omega),List.drop_zero,Nat.sub_zero]
def m_ (a:Bs) (x o:aj):Bool:=(decide (x.an=1)&&o.aa==a)||((decide (x.an=2)&&o.aX.l.contains a)||(decide (x.an=3)&&x.aG.l.any fun y=>y.aa==o.aa))
theorem DE {d:ak}(hl:d.aq.l.length<=1048576) (a:Bs) (x:aj×Bool) (hx:x.2=true):∀(l:List aj) (i:Nat) (s:Sl Bs),d.aq.l.drop i=l->s.l.length+l.length<=2097152 ->
  ∃r,ia d a x l i s=some r/\∀z,z∈r.l↔z∈s.l\/∃(j:Nat) (h:j<d.aq.l.length),i<=j/\d.aq.l[j].an=1/\((d.aq.l.take j).any fun y=>y.aa==d.aq.l[j].aa)=false/\m_ a x.1 d.aq.l[j]=true/\d.aq.l[j].aa=z
 | [],i,s,p,_=>by
  refine⟨s,by rw [ia],fun z=>⟨.inl, ?_⟩⟩;rintro (h|⟨j,h,h1,_⟩)
  ·exact h
  ·have:=List.drop_eq_nil_iff.1 p; omega
 | o::r,i,s,p,B=>by
  simp only [List.length_cons] at B;obtain⟨u,b⟩:=kF p;obtain⟨hi,b⟩:=List.getElem?_eq_some_iff.1 b
  -- what is left when this one does not count
  have skip:(¬(o.an=1/\((d.aq.l.take i).any fun y=>y.aa==o.aa)=false/\m_ a x.1 o=true))->∃q,ia d a x r (i+1) s=some q/\∀z,z∈q.l↔z∈s.l\/∃(j:Nat) (h:j<d.aq.l.length),i<=j/\d.aq.l[j].an=1/\((d.aq.l.take j).any fun y=>y.aa==d.aq.l[j].aa)=false/\m_ a x.1 d.aq.l[j]=true/\d.aq.l[j].aa=z:=fun C=>by
   obtain⟨q,e,hq⟩:=DE hl a x hx r (i+1) s u (by omega);refine⟨q,e,fun z=>?_⟩;rw [hq z];constructor
   ·rintro (h|⟨j,h,h1,f⟩)
    ·exact .inl h
    ·exact .inr ⟨j,h,by omega,f⟩
   ·rintro (h|⟨j,h,h1,f,g,k,m⟩)
    ·exact .inl h
    ·by_cases t:i=j
     ·subst t;rw [b] at f g k;exact absurd ⟨f,g,k⟩ C
     ·exact .inr ⟨j,h,by omega,f,g,k,m⟩
  have more:o.an=1->((d.aq.l.take i).any fun y=>y.aa==o.aa)=false->m_ a x.1 o=true->∃q,ia d a x r (i+1) ⟨s.nl&&List.isEmpty [o.aa],s.l++[o.aa]⟩=some q/\∀z,z∈q.l↔z∈s.l\/∃(j:Nat) (h:j<d.aq.l.length),i<=j/\d.aq.l[j].an=1/\((d.aq.l.take j).any fun y=>y.aa==d.aq.l[j].aa)=false/\m_ a x.1 d.aq.l[j]=true/\d.aq.l[j].aa=z:=fun k1 k2 k3=>by
   obtain⟨q,e,hq⟩:=DE hl a x hx r (i+1) ⟨s.nl&&List.isEmpty [o.aa],s.l++[o.aa]⟩ u (by simp; omega);refine⟨q,e,fun z=>?_⟩;rw [hq z];simp only [List.mem_append,List.mem_singleton];constructor
   ·rintro ((h|h)|⟨j,h,h1,f⟩)
    ·exact .inl h
    ·exact .inr ⟨i,hi,Nat.le_refl _,by rw [b]; exact k1,by rw [b]; exact k2,by rw [b]; exact k3,by rw [b]; exact h.symm⟩
    ·exact .inr ⟨j,h,by omega,f⟩
   ·rintro (h|⟨j,h,h1,f,g,k,m⟩)
    ·exact .inl (.inl h)
    ·by_cases t:i=j
     ·subst t;rw [b] at m;exact .inl (.inr m.symm)
     ·exact .inr ⟨j,h,by omega,f,g,k,m⟩
  rw [ia,hx,cond_true];simp only [on];have v:=SY d hi hl;rw [b] at v;by_cases hk:o.an=1
  ·rw [dT hk,v];simp only [Bool.not_true,Bool.not_false,aR,if_true,oB,Bool.false_or];cases w:(d.aq.l.take i).any fun y=>y.aa==o.aa
   ·simp only [Bool.not_false,Bool.not_true,cond_false];have E:(((decide (x.1.an=(1:Int)))&&((o.aa==a)))||((decide (x.1.an=(2:Int)))&&(bif (!((decide (x.1.an=(1:Int)))&&((o.aa==a)))&&(decide (x.1.an=(2:Int)))) then mw o.aX a else false))||((decide (x.1.an=(3:Int)))&&(bif (!(((decide (x.1.an=(1:Int)))&&((o.aa==a)))||((decide (x.1.an=(2:Int)))&&(bif (!((decide (x.1.an=(1:Int)))&&((o.aa==a)))&&(decide (x.1.an=(2:Int)))) then mw o.aX a else false)))&&(decide (x.1.an=(3:Int)))) then pw x.1 o.aa else false)))=m_ a x.1 o:=by
     unfold m_;rw [DD,IW];cases decide (x.1.an=(1:Int))<;>cases (o.aa==a)<;>cases decide (x.1.an=(2:Int))<;>cases decide (x.1.an=(3:Int))<;>cases o.aX.l.contains a<;>rfl
    rw [E];cases hc:m_ a x.1 o
    ·rw [cond_false,oB];exact skip fun h=>by rw [hc] at h; exact absurd h.2.2 (by simp)
    ·rw [cond_true,gN (by decide) (by simp; omega),oB,oB];exact more hk w hc
   ·simp only [Bool.not_true,cond_true,Bool.not_false,oB];exact skip fun h=>by rw [w] at h; exact absurd h.2.1 (by simp)
  ·rw [dF hk];simp only [Bool.not_false,Bool.not_true,aR,Bool.false_eq_true,if_false,Bool.true_or,cond_true,oB];exact skip fun h=>hk h.1
theorem SZ {l:List aj}{j:Nat}(h:j<l.length) (b:((l.take j).any fun y=>y.aa==l[j].aa)=false):aT l l[j].aa=(l[j],true):=by
 have:l.find? (fun t=>t.aa==l[j].aa)=some l[j]:=by
  rw [List.find?_eq_some_iff_getElem];refine⟨by simp,j,h,rfl,fun k hk=>?_⟩;rw [List.any_eq_false] at b;have f:k<(l.take j).length:=by simp; omega
  have:=b (l.take j)[k] (List.getElem_mem f);rw [List.getElem_take] at this
  simpa using this
 unfold aT;rw [this]
theorem S0 {l:List aj}{z:Bs}(h:(aT l z).2=true):∃(j:Nat) (b:j<l.length),l[j]=(aT l z).1/\((l.take j).any fun y=>y.aa==l[j].aa)=false:=by
 have hn:=rT h;unfold aT at h hn ⊢;cases e:l.find? (fun t=>t.aa==z) with
 | none=>rw [e] at h; cases h
 | some t =>
  rw [e] at hn;obtain⟨_,j,b,h1,f⟩:=List.find?_eq_some_iff_getElem.1 e;refine⟨j,b,h1, ?_⟩;rw [List.any_eq_false];intro y g;obtain⟨k,hk,rfl⟩:=List.getElem_of_mem g;have i:k<j:=by simp at hk; omega
  rw [List.getElem_take,h1];have hn:t.aa=z:=hn;rw [hn]
  simpa using f k i
theorem S3 {d:ak}(hl:d.aq.l.length<=1048576) (a:Bs):∃r,tw d a=some r/\∀z,z∈r.l↔gK d a z=true:=by
 unfold tw;simp only [on,i_];cases f:(aT d.aq.l a).2
 ·have h0:∀(l:List aj) (i:Nat) (s:Sl Bs),ia d a (aT d.aq.l a) l i s=some s:=fun l i s=>by
   cases l with
   | nil=>rw [ia]
   | cons o r=>rw [ia,f]; rfl
  rw [h0];refine⟨_,rfl,fun z=>?_⟩;unfold gK;rw [rV f];simp [Sl.nil,aj.zero]
 ·obtain⟨r,e,hr⟩:=DE hl a (aT d.aq.l a) f d.aq.l 0 (Sl.nil:Sl Bs) rfl (by show 0+_<=_; omega);rw [e];refine⟨r,rfl,fun z=>?_⟩;rw [hr z];constructor
  ·rintro (h|⟨j,h,_,g,k,m,q⟩)
   ·cases h
   ·have b:=SZ h k;rw [q] at b;unfold gK;rw [b];unfold m_ at m;rw [q] at m;simp only [g,decide_true,Bool.true_and];exact m
  ·intro h;unfold gK at h;simp only [Bool.and_eq_true,decide_eq_true_eq] at h;obtain⟨h1,g,k⟩:=h;obtain⟨j,b,p,t⟩:=S0 h1;refine .inr ⟨j,b,Nat.zero_le _,by rw [p]; exact g,t, ?_,by rw [p]; exact rT h1⟩;unfold m_;rw [p,rT h1];exact k
theorem S4 {d:ak}(hl:d.aq.l.length<=1048576) (a b:Bs):rD d a b=some (gK d b a):=by
 obtain⟨r,e,h⟩:=SX hl b;unfold rD;rw [e,oB];simp only [on,Dz]
 congr 1
 rw [Bool.eq_iff_iff,List.contains_iff_mem];exact h a
theorem DF {d:ak}(hl:d.aq.l.length<=1048576) (a b:Bs):nN d a b=some (gK d b a):=by
 obtain⟨r,e,h⟩:=S3 hl b;unfold nN;rw [e,oB];simp only [on,DD]
 congr 1
 rw [Bool.eq_iff_iff,List.contains_iff_mem];exact h a
theorem IY {s b:Sl Int}(h:b.l=s.l):(b8 b).l=(b8 s).l:=by unfold b8; rw [h]; cases eB s.l<;>simp [h]
theorem yX {d:ak}(i:d.aq.l.length<=1048576):∀(n m:Nat) (a b j b':az),dJ a.aF->dJ b.aF->j.aa=a.aa->j.aF.l=a.aF.l->b'.aa=b.aa->b'.aF.l=b.aF.l->a.aF.l.length+b.aF.l.length<n->a.aF.l.length+b.aF.l.length<m ->
  ∃v,mU n d a b=some v/\iN m d j b'=some v
 | 0,_,_,_,_,_,_,_,_,_,_,_,h,_=>by omega
 | _+1,0,_,_,_,_,_,_,_,_,_,_,_,h=>by omega
 | n+1,m+1,a,b,j,b',f,g,w,o,r,k,hn,hm=>by
  have s:j.aF.l.length<=1048576:=by rw [o]; exact f.2
  have t:b'.aF.l.length<=1048576:=by rw [k]; exact g.2
  rw [mU,iN];simp only [Ab.on,uB,yR f,yR g,Dt f,Dt g,uD,rW s,rW t,wx s,wx t,oB,o,k,IY o,IY k,w,r];cases x:eB b.aF.l
  ·simp only [cond_false];cases p:eB a.aF.l
   ·simp only [cond_false];have last:∃v,(aR (!((a.aa==b.aa))) (rD d a.aa b.aa) false fun q=>some (((a.aa==b.aa))||q))=some v/\(aR (!((a.aa==b.aa))) (nN d a.aa b.aa) false fun q=>some (((a.aa==b.aa))||q))=some v:=by
     rw [S4 i,DF i];cases (a.aa==b.aa)<;>exact⟨_,rfl,rfl⟩
    cases y:fR (b8 a.aF).l
    ·cases u:fR (b8 b.aF).l
     ·exact last
     ·exact⟨_,rfl,rfl⟩
    ·cases u:fR (b8 b.aF).l
     ·exact⟨_,rfl,rfl⟩
     ·have h1:=yT y;have z:=yT u;obtain⟨v,hv,hw⟩:=yX i n m (rR a) (rR b) ⟨a.aa,⟨false,(b8 a.aF).l.drop 1⟩⟩ ⟨b.aa,⟨false,(b8 b.aF).l.drop 1⟩⟩ (Ds f) (Ds g) rfl rfl rfl rfl (by omega) (by omega);simp only [cond_true,Bool.or_self,Bool.and_self,aR,if_true,hv,hw,oB];exact⟨_,by simp,rfl⟩
   ·have h1:=uE p;obtain⟨v,hv,hw⟩:=yX i n m (jE a) b ⟨a.aa,⟨false,(b8 a.aF).l⟩⟩ b' (yQ f) g rfl rfl r k (by omega) (by omega);simp only [cond_true,hv,hw];exact⟨_,rfl,rfl⟩
  ·simp only [cond_true];cases p:eB a.aF.l
   ·exact⟨_,rfl,rfl⟩
   ·have h1:=uE p;have z:=uE x;obtain⟨v,hv,hw⟩:=yX i n m (jE a) (jE b) ⟨a.aa,⟨false,(b8 a.aF).l⟩⟩ ⟨b.aa,⟨false,(b8 b.aF).l⟩⟩ (yQ f) (yQ g) rfl rfl rfl rfl (by omega) (by omega);simp only [aR,if_true,hv,hw,oB];exact⟨_,rfl,rfl⟩
def jH (d:ak) (a b:az):Bool:=(vS d a b).getD false
theorem yY {d:ak}(i:d.aq.l.length<=1048576){a b:az}(f:dJ a.aF) (g:dJ b.aF):vS d a b=some (jH d a b)/\xH d a b=some (jH d a b):=by
 have h1:=f.2; have j:=g.2;obtain⟨v,hv,hw⟩:=yX i F0 F0 a b a b f g rfl rfl rfl rfl (by rw [fK]; omega) (by rw [fK]; omega);have e:jH d a b=v:=by unfold jH vS; rw [hv]; rfl
 rw [e]; exact⟨hv,hw⟩
def ja (a b:az):Bool:=a.aa==b.aa&&decide (a.aF.l=b.aF.l)
theorem S5 (a b:az):ja a b=ja b a:=by
 unfold ja;rw [BEq.comm (a:=a.aa),decide_eq_decide.2 (eq_comm (a:=a.aF.l))]
theorem S6 (a b:az):uf a b=some (ja a b):=by
 unfold uf ja;rw [IM];cases a.aa==b.aa<;>rfl
theorem S7 (a b:az):mA a b=some (ja b a):=by
 rw [S5];unfold mA ja;rw [SV];cases a.aa==b.aa<;>rfl
end Go.Proofs
