import Derived.Test.YtbghdiaepdaaeaaGreatDoorV4
set_option maxRecDepth 100000
set_option maxHeartbeats 2000000
set_option linter.unusedVariables false
set_option linter.unusedSimpArgs false
namespace Go.Proofs
open Go Go.Ab
open aS aq ah aU dV
variable {an:bf}
def wZ (b:Bs):Bool:=(((((b==([73,110,116]:Bs)))||((b==([83,116,114,105,110,103]:Bs))))||((b==([66,111,111,108,101,97,110]:Bs))))||((b==([73,68]:Bs))))
def BG (b:Bs):Option Bool:=some (wZ b)
theorem QK (a0:Bs):BG a0=some (wZ a0):=rfl
theorem QL {f:Bs}{r:Bool}(b:BG f=some r) (H:ag) :AC Tryz.prog 174 [.d (.str f)] H fun v h'=>v=.a (.d (.bool r))/\h'=H:=by
 unfold BG wZ at b;refine AC.oW 17 [.tmp 2] Tryz.call174 Tryz.func174 ?_;refine aa (S As (nil ?_));refine aa (S Mv (S BS (S Mv (G0 Mv ?_))));refine G1 6 rfl BS ?_;refine S PO (S Mv (G0 Mv ?_));refine G1 10 rfl BS ?_;refine S PO (S Mv (G0 Mv ?_));refine G1 14 rfl BS ?_;refine S PO (S As (nil ?_));exact rt b
def w_ (f:ar) (g:Bs):Int:=on (wL f g) fun b=>b.1.ak
def BH (b:ar) (f:Bs):Option Int:=some (w_ b f)
theorem QM (a0:ar) (a1:Bs):BH a0 a1=some (w_ a0 a1):=rfl
theorem QN {f:ar}{g:Bs}{r:Int}(b:BH f g=some r) (H:ag) :AC Tryz.prog 175 [.agg (ar.c f),.d (.str g)] H fun v h'=>v=.a (.d (.int .i64 r))/\h'=H:=by
 unfold BH w_ at b;refine AC.oW 15 [.tmp 4] Tryz.call175 Tryz.func175 ?_;refine aa (S BX (S As (nil ?_)));refine aa (S Ld (S Mv ?_));obtain⟨j,i,b⟩:=vP (Qo _ _) b;refine Sc rfl rfl (rY i) ?_;refine S Mv (S EX (S EX ?_));refine Sl ?_;refine Sf ?_;refine S As (nil ?_);refine bH 5 _ rfl aU.nil ?_;refine aa (S Fv (S Ld (S As (nil ?_))));exact rt b
def HZ (i:ar) (f:Bs):Bool:=on (wZ f) fun b=>on (bif !b then w_ i f else(0:Int)) fun g=>(b||(decide (g=(4:Int))))
def BJ (b:ar) (f:Bs):Option Bool:=some (HZ b f)
theorem QO {f:ar}{g:Bs}{r:Bool}(b:BJ f g=some r) (H:ag) :AC Tryz.prog 111 [.agg (ar.c f),.d (.str g)] H fun v h'=>v=.a (.d (.bool r))/\h'=H:=by
 unfold BJ HZ at b;refine AC.oW 13 [.tmp 4] Tryz.call111 Tryz.func111 ?_;refine aa (S BX (S As (nil ?_)));refine aa (S Mv ?_);obtain⟨k,i,b⟩:=vP (QK _) b;refine Sc rfl rfl (QL i) ?_;refine S Mv (G0 Ld (G0 Mv ?_));obtain⟨l,j,b⟩:=mw (fun _=>(QM _ _)) b;refine fq 8 9 rfl rfl rfl rfl rfl rfl (fun hC=>QN (j hC)) ?_;refine G1 10 rfl BI ?_;refine S PO (S As (nil ?_))
 exact rt b
def BK (i:ar) (b:aj):Option Bool:=aQ ((!(decide (b.bW<(-1:Int)))&&(decide ((0:Int)<=b.bW)))) (Bw b.aO) false fun k=>bif ((decide (b.bW<(-1:Int)))||((decide ((0:Int)<=b.bW))&&(!k))) then(none) else(bif ((b.ai==([95,95,116,121,112,101,110,97,109,101]:Bs))) then(none) else((ou i b.bz).bind fun m=>(wY m.1 b.ai).bind fun f=>aQ (!(!f.2)) (wR b.aO f.1.aO) false fun g=>aQ (!((!f.2)||(!g))) (BB b.bn) false fun j=>aQ (!(((!f.2)||(!g))||(!j))) (BF i f.1.aG b.aG) false fun o=>bif ((((!f.2)||(!g))||(!j))||(!o)) then(none) else(aQ (!(decide (((b.aK.l.length:Nat):Int)=(0:Int)))) (BJ i b.aO.ai) false fun p=>some ((decide (((b.aK.l.length:Nat):Int)=(0:Int)))||(!p)))))
theorem QR {m:ar}{g:aj}{r:Bool}(b:BK m g=some r) (H:ag) :AC Tryz.prog 63 [.agg (ar.c m),.agg (aj.c g)] H fun v h'=>v=.a (.d (.bool r))/\h'=H:=by
 unfold BK at b;refine AC.oW 103 [.tmp 4] Tryz.call63 Tryz.func63 ?_;refine aa (S BX (S BX (S As (nil ?_))));refine ay fun o i=>?_;refine aa (S Fv (S Ld (S BI (S Mv (G0 Fv ?_)))));refine G1 13 rfl Ld ?_;refine G1 14 rfl BI ?_;refine G1 15 rfl Mv ?_;refine G0 Fv ?_;refine G1 17 rfl Ld ?_;obtain⟨I,p,b⟩:=gO b;refine dH 18 rfl rfl rfl rfl rfl (fun hC=>Qy (p hC)) ?_;refine G1 19 rfl NB ?_
 refine gC rfl rfl (fun hC=>aI (k:=16) rfl (gF rfl rfl rfl)) rfl ?_;refine S PO (nil ?_);refine cE b (fun q b=>?_) (fun q b=>?_)
 ·cases b
 refine sk i ?_;clear i o;refine ay fun t j=>?_;refine aa (S Fv (S Ld (S BS (nil ?_))));refine cE b (fun u b=>?_) (fun u b=>?_)
 ·cases b
 refine sk j ?_;clear j t;refine aa (S Ld (S Fv (S Ld ?_)));obtain⟨J,w,b⟩:=bO b;refine Sc rfl rfl (rY w) ?_;refine S Mv (S EX (S EX ?_));refine Sl ?_;refine Sf ?_;refine S As (nil ?_);refine bH 5 _ rfl (KA 2 (KA 3 aU.nil)) ?_;refine aa (S Ld (S Fv (S Ld ?_)));obtain⟨K,y,b⟩:=bO b;refine Sc rfl rfl (HY y) ?_;refine S Mv (S EX (S EX ?_));refine Sl ?_
 refine Sf ?_;refine S As (nil ?_);refine bH 7 _ rfl (KA 2 (KA 3 (KA 8 aU.nil))) ?_;refine ay fun z l=>?_;refine aa (S Mv (S NB (S Mv (G0 Fv ?_))));refine G1 69 rfl Ld ?_;refine G0 Fv ?_;refine G1 71 rfl Ld ?_;obtain⟨L,B,b⟩:=gO b;refine fq 70 72 rfl rfl rfl rfl rfl rfl (fun hC=>HQ (B hC)) ?_;refine G1 73 rfl NB ?_;refine S PO (S Mv (G0 Fv ?_));refine G1 77 rfl Ld ?_
 obtain⟨M,C,b⟩:=gO b;refine dH 78 rfl rfl rfl rfl rfl (fun hC=>QI (C hC)) ?_;refine G1 79 rfl NB ?_;refine S PO (S Mv (G0 Ld (G0 Fv ?_)));refine G1 84 rfl Ld ?_;refine G0 Fv ?_;refine G1 86 rfl Ld ?_;obtain⟨N,E,b⟩:=gO b;refine gC rfl rfl (fun hC=>aI (k:=83) rfl (aI (k:=85) rfl (aI (k:=87) rfl (fh rfl rfl (fun H=>QJ (E hC) H))))) rfl ?_;refine G1 88 rfl NB ?_
 refine S PO (nil ?_);refine cE b (fun F b=>?_) (fun F b=>?_)
 ·cases b
 refine sk l ?_;clear l z;refine aa (S Fv ?_);refine s0 (ck (TK rfl) rfl rfl (congrArg (fun x=>some (A.d x)) (aj.gp _))) rfl ?_;refine sLen (f:=aj.c) (s:=g.aK) (TK rfl) rfl rfl rfl rfl fun O=>?_;refine S BI (S Mv (G0 Ld (G0 Fv ?_)));refine G1 97 rfl Fv ?_;refine G1 98 rfl Ld ?_;obtain⟨P,G,b⟩:=gO b;refine fq 96 99 rfl rfl rfl rfl rfl rfl (fun hC=>QO (G hC)) ?_
 refine G1 100 rfl NB ?_;refine S PO (S As (nil ?_));exact rt b
def BL  :Option Int:=some (-1:Int)
def BM (f:(Sl aj)) :Nat->Nat->Option Int
 | 0,_=>none
 | g+1,b=>bif (decide (((b:Nat):Int)<((f.l.length:Nat):Int))) then(none) else(BL   )
def BN (b:(Sl aj)) (f:(aj->Option Bool)):Option Int:=BM b (b.l.length+1) 0
theorem QS {g:Sl aj}{p:aj->Option Bool}{w0:Option Nat}{j:List D}{k:Nat}{r:Int}(b:BN g p=some r) (H:ag) (t:∀m r,p m=some r->∀H,AC Tryz.prog k ([.agg (aj.c m)]++j.map A.d) H fun v h'=>v=.a (.d (.bool r))/\h'=H):AC Tryz.prog 112 [.d (Sl.d 9 aj.c w0 g),.d (.func k j)] H fun v h'=>v=.a (.d (.int .i64 r))/\h'=H:=by
 unfold BN at b;refine AC.oW 19 [.tmp 4] Tryz.call112 Tryz.func112 ?_;refine aa (S As (nil ?_));refine aP kN (fun(z:Unit)=>[]) (fun z=>H) (fun z=>BL =some r) ?_ ?_
 ·intro u q;refine aa (S Mv ?_);refine sLen (f:=aj.c) (s:=g) (TK rfl) rfl rfl rfl rfl fun w=>?_;refine S Mv (nil ?_);refine block ?_;refine bD (TA 0 (TA 1 (TA 7 kN))) (fun(z:Nat×Nat)=>[(8,.a (.d (.int .i64 ((z.2:Nat):Int))))]) (fun z=>H) (fun z=>z.1) (fun z=>BM g z.1 z.2=some r) ((g.l.length+1),0) b wA ?_;rintro ⟨o,x⟩ b y B;try dsimp only at b
  cases o with
  | zero=>cases b
  | succ o =>
    rw [BM] at b;refine aa (S BI (nil ?_));refine ay fun C E=>?_;refine cE b (fun i b=>?_) (fun i b=>?_)
    ·try dsimp only at i
     have F:=oD i;cases b
    refine ah.exit ?_;exact q _ () wA b
 rintro _ b;try dsimp only at b
 unfold BL at b;refine aa (S As (nil ?_));exact rt b
def BO (f:(Sl aj)) (g:(aj->Option Bool)):Option Bool:=(BN f g).bind fun b=>some (decide ((0:Int)<=b))
theorem QU {j:Sl aj}{k:aj->Option Bool}{w0:Option Nat}{f:List D}{g:Nat}{r:Bool}(b:BO j k=some r) (H:ag) (l:∀i r,k i=some r->∀H,AC Tryz.prog g ([.agg (aj.c i)]++f.map A.d) H fun v h'=>v=.a (.d (.bool r))/\h'=H):AC Tryz.prog 64 [.d (Sl.d 9 aj.c w0 j),.d (.func g f)] H fun v h'=>v=.a (.d (.bool r))/\h'=H:=by
 unfold BO at b;refine AC.oW 9 [.tmp 4] Tryz.call64 Tryz.func64 ?_;refine aa (S As (nil ?_));refine aa (S Mv (S Mv ?_));obtain⟨o,m,b⟩:=bO b;refine s0 (fh rfl rfl (fun H=>QS m H l)) rfl ?_;refine S BI (S As (nil ?_));exact rt b
def H6 (b:aj) (f:aj):Bool:=(((b.bz==f.bz))&&((b.bn==f.bn)))
def BP (b:aj) (f:aj):Option Bool:=some (H6 b f)
theorem QV {f g:aj}{r:Bool}(b:BP f g=some r) (H:ag) :AC Tryz.prog 65 [.agg (aj.c f),.d (.view (aj.c g))] H fun v h'=>v=.a (.d (.bool r))/\h'=H:=by
 unfold BP H6 at b;refine AC.oW 16 [.tmp 3] Tryz.call65 Tryz.func65 ?_;refine aa (S BX (S As (nil ?_)));refine aa (S Fv (S Ld (S Fv (S Ld (S BS (S Mv (G0 Fv ?_)))))));refine G1 10 rfl Ld ?_;refine G0 Fv ?_;refine G1 12 rfl Ld ?_;refine G2 11 13 rfl rfl BS ?_;refine S PA (S As (nil ?_));exact rt b
def BQ  :Option Bool:=some true
def xd (k:ar) (i:(Sl aj)) (m:(Sl Bs)) (o:ar->(Sl aj)->Bs->Option Bool):Nat->Int->Nat->Option Bool
 | 0,_,_=>none
 | q+1,j,f=>bif (decide (((f:Nat):Int)<((i.l.length:Nat):Int))) then((i.l[f]?).bind fun b=>(wM m b.bz).bind fun g=>aQ (!(decide (g<j))) (BK k b) false fun p=>aQ (!((decide (g<j))||(!p))) (o k b.aK b.aO.ai) false fun r=>bif (((decide (g<j))||(!p))||(!r)) then(none) else((nJ i none (some ((f:Nat):Int))).bind fun s=>(BO s (fun t=>BP t b)).bind fun u=>bif u then(none) else((xd k i m o q) g (f+1)))) else(BQ   )
def sj:Nat->ar->(Sl aj)->Bs->Option Bool
 | 0,_,_,_=>none
 | n+1,b,f,i=>(wQ b i).bind fun g=>xd b f g (sj n) (f.l.length+1) (0:Int) 0
def BR (n:Nat):Prop:=∀{a0:ar}{a1:(Sl aj)}{a2:Bs}{b:Option Nat}  {r:Bool},sj n a0 a1 a2=some r->∀(H:ag),AC Tryz.prog 29 [.agg (ar.c a0),.d (Sl.d 9 aj.c b a1),.d (.str a2)] H fun v h'=>v=.a (.d (.bool r))/\h'=H
theorem QW (n:Nat) (t:BR (an:=an) n):BR (an:=an) (n+1):=by
 intro P m ai Q  r b H ;rw [sj] at b;refine AC.oW 52 [.tmp 6] Tryz.call29 Tryz.func29 ?_;refine aa (S BX (S As (nil ?_)));refine aa (S Ld (S Mv ?_));obtain⟨u,v,b⟩:=bO b;refine Sc rfl rfl (HP v) ?_;refine S As (nil ?_);refine aa (S As (nil ?_));refine aP kN (fun(z:Unit)=>[]) (fun z=>H) (fun z=>BQ =some r) ?_ ?_
 ·intro R w;refine aa (S Mv ?_);refine sLen (f:=aj.c) (s:=m) (TK rfl) rfl rfl rfl rfl fun U=>?_;refine S Mv (nil ?_);refine block ?_;refine bD (TA 1 (TA 3 (TA 7 (TA 15 (TA 16 kN))))) (fun(z:Nat×Int×Nat)=>[(8,.a (.d (.int .i64 z.2.1))),(17,.a (.d (.int .i64 ((z.2.2:Nat):Int))))]) (fun z=>H) (fun z=>z.1) (fun z=>xd P m u (sj n) z.1 z.2.1 z.2.2=some r) ((m.l.length+1),(0:Int),0) b wA ?_
  rintro ⟨g,W,i⟩ b X y;try dsimp only at b
  cases g with
  | zero=>cases b
  | succ g =>
    rw [xd] at b;refine aa (S BI (nil ?_));refine ay fun B o=>?_;refine cE b (fun j b=>?_) (fun j b=>?_)
    ·try dsimp only at j
     have Y:=oD j;refine sk o ?_;clear o B;refine ay fun C p=>?_;refine block ?_;refine aa (S Mv ?_);obtain⟨Z,E,b⟩:=bO b;refine S (ix aj.c i E) (S Ld ?_);refine Sl ?_;refine S As ?_;refine Sf ?_;refine nil ?_;refine bH 10 _ rfl (KA 1 (KA 3 (KA 7 (KA 8 (KA 9 (KA 15 (KA 16 (KA 17 aU.nil)))))))) ?_;refine aa (S Mv (S Fv (S Ld ?_)));obtain⟨F,G,b⟩:=bO b
     refine Sc rfl rfl (Bn G) ?_;refine S As (nil ?_);refine ay fun I q=>?_;refine aa (S Mv (S Mv (S BI (S Mv (G0 Ld (G0 Ld ?_))))));obtain⟨ab,J,b⟩:=gO b;refine fq 30 31 rfl rfl rfl rfl rfl rfl (fun hC=>QR (J hC)) ?_;refine G1 32 rfl NB ?_;refine S PO (S Mv (G0 Ld (G0 Fv ?_)));refine gC rfl rfl (fun hC=>aI (k:=37) rfl (ck (TK rfl) rfl rfl (congrArg (fun x=>some (A.d x)) (aj.gp _)))) rfl ?_
     refine G0 Fv ?_;refine G1 39 rfl Fv ?_;refine G1 40 rfl Ld ?_;obtain⟨ad,K,b⟩:=gO b;refine gC rfl rfl (fun hC=>aI (k:=36) rfl (aI (k:=38) rfl (aI (k:=41) rfl (fh rfl rfl (fun H=>t (K hC) H))))) rfl ?_;refine G1 42 rfl NB ?_;refine S PO (nil ?_);refine cE b (fun L b=>?_) (fun L b=>?_)
     ·cases b
     refine sk q ?_;clear q I;refine aa (S Mv (S As (nil ?_)));refine aa (S Mv (S Mv ?_));obtain⟨ae,M,b⟩:=bO b;refine s0 (qX (f:=aj.c) (l:=none) (r:=(some ((i:Nat):Int))) (TK rfl) rfl (TK rfl) rfl rfl trivial rfl M) rfl ?_;refine s0 (makeFunc rfl) rfl ?_;obtain⟨af,N,b⟩:=bO b;refine s0 (fh rfl rfl (fun H=>QU N H (fun _ _ hx=>QV hx))) rfl ?_;refine nil ?_
     refine cE b (fun O b=>?_) (fun O b=>?_)
     ·cases b
     refine sk p ?_;clear p C;refine region ?_;refine SI ?_;refine S Mv (nil ?_);exact y _ (g,F,(i+1)) wA b (nS _)
    refine ah.exit ?_;exact w _ () wA b
 rintro _ b;try dsimp only at b
 unfold BQ at b;refine aa (S As (nil ?_));exact rt b
theorem H7:∀(n:Nat),(BR (an:=an) n)
 | 0=>fun b=>by first|cases b|(rw [sj] at b; cases b)
 | n+1=>QW n (H7 n)
def H8 (b:ar) (f:(Sl aj)) (g:Bs):Option Bool:=sj F0 b f g
theorem QX {b:ar}{f:Sl aj}{g:Bs}{i:Option Nat}{r:Bool}(j:H8 b f g=some r) (H:ag) :AC Tryz.prog 29 [.agg (ar.c b),.d (Sl.d 9 aj.c i f),.d (.str g)] H fun v h'=>v=.a (.d (.bool r))/\h'=H:=(H7 F0) j H 
section
variable [gM an]
-- @uses supergraph/schema.Root supergraph/schema.Find supergraph/normal.list
/-- The levels of picks, each before those within it. -/
def gU:Nat->Int->List aj->Option (List Int)
 | 0,_,_=>none
 | _+1,_,[]=>some []
 | n+1,f,p::r=>(bY f 1).bind fun k=>(gU n k p.aK.l).bind fun a=>(gU n f r).bind fun b=>some (f::(a++b))
def QY (C:List Nat) (f g:List (Int×Value)->World->Prop) (pre:List (Int×Value)) (xs:List Int) (w:World):Ending->World->Prop:=fun e w' =>
 (e=.returned (.bool true)/\∃b,b.map (·.1)=xs/\f (pre++b) w'/\gw C w w')\/(e=.returned (.bool false)/\∃q,q.map (·.1) <+: xs/\g (pre++q) w')
noncomputable def QZ (s:Sl aj) (b:Int) (l0:Nat) (i:Nat):Ts:=[(11,.a (.d (.int .i64 ((i:Nat):Int)))),(10,.a (.d (.int .i64 ((s.l.length:Nat):Int)))),(9,.a (.d (Sl.d 9 aj.c none s))),(6,.a (.d (.bool false))),(1,.a (.d (.int .i64 b))),(2,.a (.d (.yield l0)))]
theorem Q0 {l0:Nat}{C:List Nat}{B N:Nat}{G ab:List (Int×Value)->World->Prop}(aS:AbidesFrom B G) (aT:AbidesFrom B ab)
  (aV:∀m pre (x:Int×Value) W,G pre W->pre.length<N->YieldAt Fence.wide m Tryz.prog l0 #[.int .i64 x.1,x.2] W fun e W'=>(e=.returned (.bool true)/\G (pre++[x]) W'/\gw C W W')\/(e=.returned (.bool false)/\ab (pre++[x]) W')) :
  ∀(k:Nat) (u:Int) (s:Sl aj) (xs:List Int),gU k u s.l=some xs->∀(n:Nat) (pre:List (Int×Value)) (j:J) (w:World) (v:Value),dY j w gN->aA j w (Sl.d 9 aj.c none s) v->(∀b∈C,b<w.heap.size/\j.F b=0) ->
   G pre w->pre.length+xs.length<=N->CallsIn Fence.wide n Tryz.prog 60 #[v,.int .i64 u,.func (.yield l0) #[] #[]] w (QY C G ab pre xs w):=by
 have H:∀pre,lD (G pre):=fun pre A al h am=>aS pre A al none h am (fun r e=>by cases e);have Q:∀pre,lD (ab pre):=fun pre A al h am=>aT pre A al none h am (fun r e=>by cases e);intro k;induction k using Nat.strongRecOn with
 | _ k aW =>
 intro u s xs hx n pre j w v hr hv hC aw ax;refine callsIn_of_wp Tryz.func60 rfl trivial ?_ rfl;have az:=vA (fn:=Tryz.f60) (n:=30) rfl (args:=[.d (Sl.d 9 aj.c none s),.d (.int .i64 u),.d (.yield l0)]) (dJ:=[v,.int .i64 u,.func (.yield l0) #[] #[]]) rfl hr (.cons hv (.cons (.int _ _) (.cons (.yield _) .nil)));have h0:Live C (G pre) w 30 _ _ w:=⟨j,az,hC,.refl _ _,aw⟩;refine Live.ay (an:=bf.on) (H pre) h0 fun K o=>?_
 refine region ?_;refine S As ?_;refine nil ⟨rfl,rfl,rfl,rfl,o _ fun a1 bE h1=>?_⟩;clear o K;refine wpIn_seq ?_;refine Live.ay (an:=bf.on) (H pre) h1 fun K o=>?_;refine region ?_;refine S Mv ?_;refine sLen (f:=aj.c) (s:=s) (TK rfl) rfl rfl rfl rfl fun aX=>?_;refine S Mv ?_;refine nil ⟨rfl,rfl,rfl,rfl,o _ fun a2 aB aC=>?_⟩;clear o K;refine wpIn_block ?_;have aD:Live C (G pre) w 30 (QZ s u l0 0) a2 aB:=Live.to aC
 obtain⟨k',aE⟩:∃k',k'=k:=⟨_,rfl⟩;refine wpIn_loop_rounds k' ?_;obtain⟨i,hi⟩:∃i:Nat,i=0:=⟨_,rfl⟩;obtain⟨z,ad⟩:∃p,p=pre:=⟨_,rfl⟩;obtain⟨ae,af⟩:∃y,y=xs:=⟨_,rfl⟩;have E:gU k' u (s.l.drop i)=some ae:=by rw [hi,aE,af]; simpa using hx
 have aY:z.length+ae.length<=N:=by rw [ad,af]; exact ax
 have hq:∃q:List (Int×Value),z=pre++q/\q.map (·.1)++ae=xs:=⟨[],by simp [ad],by simp [af]⟩;have bG:k'<=k:=by omega
 rw [<- hi,<- ad] at aD;clear hx ax hi ad af aE aC h1 h0 az aw hC hv hr;induction k' generalizing i z ae a2 aB with
 | zero=>cases E
 | succ m aZ =>
  rw [roundsIn_succ];refine Live.ay (an:=bf.on) (H z) aD fun K o=>?_;refine region ?_;refine S BI ?_;refine nil ⟨rfl,rfl,rfl,rfl,o _ fun a4 bH ao=>?_⟩;clear o K;have aF:=Live.bool (t:=12) ao rfl;refine wpIn_seq ?_;by_cases bh:i<s.l.length
  ·have ap:s.l.drop i=s.l[i]::s.l.drop (i+1):=by rw [List.drop_eq_getElem_cons bh]
   obtain⟨p,aG⟩:∃p,p=s.l[i]:=⟨_,rfl⟩;have a0:s.l[i]?=some p:=by rw [aG]; exact List.getElem?_eq_getElem bh
   rw [ap,<- aG,gU] at E;obtain⟨ai,a3,E⟩:=Option.bind_eq_some_iff.1 E;obtain⟨ar,has,E⟩:=Option.bind_eq_some_iff.1 E;obtain⟨aH,a6,E⟩:=Option.bind_eq_some_iff.1 E;obtain rfl:=oJ E;have a7:(decide ((i:Int)<((s.l.length:Nat):Int)))=true:=by simpa using bh
   refine wpIn_cond_true (by rw [aF,a7]) ?_;refine wpIn_skip ?_;show Code.wpIn _ _ _ _ _ _ _;refine wpIn_seq ?_;refine wpIn_block ?_;refine Live.ay (an:=bf.on) (H z) ao fun K o=>?_;refine ah.post ?_;refine region ?_;refine S (ix aj.c i a0) (S Ld ?_);refine Sl ?_;refine Sf ?_;refine nil ⟨_,cR.freeze 8 _ rfl (by repeat (first|exact bT.nil|apply bT.cons)) (KA 1 (KA 2 (KA 6 (KA 9 (KA 10 (KA 11 aU.nil)))))),rfl,rfl,rfl,rfl,o _ fun a5 bI a8=>?_⟩
   clear o K;refine wpIn_seq ?_;refine wpIn_region_lit ?_;refine Live.op (an:=bf.on) (H z) a8 nK rfl rfl rfl fun bJ bL a9=>?_;refine Live.op (an:=bf.on) (H z) a9 nK rfl rfl rfl fun bO bP a_=>?_;refine Live.op (an:=bf.on) (H z) a_ (ck (TK rfl) rfl rfl rfl) rfl rfl rfl fun M a' X=>?_;refine wpListIn_plain rfl fun K o=>?_;have ba:M.eval (.tmp 15)=.func (.yield l0) #[] #[]:=by
    obtain⟨_,_,_,hv⟩:=Live.val (t:=15) X rfl;generalize M.eval (.tmp 15)=x at hv;have R:aA _ _ (.yield l0) x:=hv;cases R; rfl
   have bb:M.eval (.tmp 16)=.int .i64 u:=by
    obtain⟨_,_,_,hv⟩:=Live.val (t:=16) X rfl;generalize M.eval (.tmp 16)=x at hv;have R:aA _ _ (.int .i64 u) x:=hv;cases R; rfl
   obtain⟨I,bc⟩:∃x,x=M.eval (.tmp 17):=⟨_,rfl⟩;have bQ:z.length+(1+(ar.length+aH.length))<=N:=by simp at aY; omega
   obtain⟨Y,Z,aa⟩:=hq;obtain⟨fn,tmps,assign,body,aI,aL⟩:=aV (n-1) z (u,I) a' X.inv (by omega);refine⟨fun _ _=>trivial, ?_⟩;rw [show Oper.semAt Fence.wide.round M.eval _=execOp M.eval _ from rfl,N0 ba];have bd:(#[Operand.tmp 16,Operand.tmp 17].map M.eval)=#[.int .i64 u,I]:=by simp [bb,<- bc]
   rw [bd,aI];refine⟨fun h=>(by cases h),aL.mono ?_⟩;rintro e w' (⟨rfl,be,hk⟩|⟨rfl,au⟩)
   ·refine o _ _ ?_;have bg:=(Live.round (vH:=G (z++[(u,I)])) X hk be).vG (d:=18) (cv:=.bool true) rfl (.a (.d (.bool true))) (fun _ _=>.bool _);clear o K aL aI;have U:=H (z++[(u,I)]);refine Live.op (an:=bf.on) U bg (tu rfl) rfl rfl rfl fun bi v1 g1=>?_;refine Live.op (an:=bf.on) U g1 nK rfl rfl rfl fun bj v2 g2=>?_;refine Live.pP (an:=bf.on) (g:=20) (b:=false) U g2 (Fm (TK rfl) rfl rfl (TK rfl) rfl rfl) rfl rfl rfl rfl fun bk v3 g3=>?_
    refine Live.pP (an:=bf.on) (g:=20) (b:=false) U g3 (ck (TK rfl) rfl rfl (congrArg (fun x=>some (A.d x)) (aj.gp _))) rfl rfl rfl rfl fun bl v4 g4=>?_;refine Live.pP (an:=bf.on) (g:=20) (b:=false) U g4 nK rfl rfl rfl rfl fun bm v5 g5=>?_;refine Live.pP (an:=bf.on) (g:=20) (b:=false) U g5 (dc rfl rfl a3) rfl rfl rfl rfl fun bn v6 g6=>?_;refine Live.pP (an:=bf.on) (g:=20) (b:=false) U g6 nK rfl rfl rfl rfl fun L aM g7=>?_
    refine wpListIn_step fun K o=>?_;rw [Live.want (g:=20) (want:=false) (b:=false) rfl rfl g7,if_pos (show (false==false)=true from rfl)];obtain⟨bo,bp,br,bs⟩:=Live.val (t:=22) g7 rfl;have bt:L.eval (.tmp 24)=.int .i64 ai:=by
     obtain⟨_,_,_,hv⟩:=Live.val (t:=24) g7 rfl;generalize L.eval (.tmp 24)=x at hv;have R:aA _ _ (.int .i64 ai) x:=hv;cases R; rfl
    have bu:L.eval (.tmp 25)=.func (.yield l0) #[] #[]:=by
     obtain⟨_,_,_,hv⟩:=Live.val (t:=25) g7 rfl;generalize L.eval (.tmp 25)=x at hv;have R:aA _ _ (.yield l0) x:=hv;cases R; rfl
    refine⟨fun _ _=>trivial, ?_⟩;rw [show Oper.semAt Fence.wide.round L.eval _=execOp L.eval _ from rfl,FU Tryz.call60];have bv:(#[Operand.tmp 22,Operand.tmp 24,Operand.tmp 25].map L.eval)=#[L.eval (.tmp 22),.int .i64 ai,.func (.yield l0) #[] #[]]:=by simp [bt,bu]
    rw [bv];have bw:=aW m (by omega) ai p.aK ar has (n-1) (z++[(u,I)]) bo aM _ bp bs br g7.inv (by simp; omega);refine⟨fun h=>(by cases h),bw.mono ?_⟩;rintro e bR (⟨rfl,ak,aN,bx,bz⟩|⟨rfl,bA,bB,au⟩)
    ·refine o _ _ ?_;have g8:=(Live.round (vH:=G ((z++[(u,I)])++ak)) g7 bz bx).vG (d:=26) (cv:=.bool true) rfl (.a (.d (.bool true))) (fun _ _=>.bool _);have av:=H ((z++[(u,I)])++ak);refine Live.pP (an:=bf.on) (g:=20) (b:=false) av g8 (tu rfl) rfl rfl rfl rfl fun aO v9 g9=>?_;refine Live.op (an:=bf.on) av g9 (EM rfl rfl (by conv=>lhs; whnf)) rfl rfl rfl fun aP v10 g10=>?_
     refine wpListIn_nil ?_;show Code.wpIn _ _ _ _ _ _ _;refine wpIn_cond_false (Live.bool (t:=28) g10 rfl) ?_;refine wpIn_skip ?_;show Code.wpIn _ _ _ _ _ _ _;refine Live.NZ (an:=bf.on) av g10 fun K o=>?_;refine region ?_;refine s0 (dc rfl rfl (N2 i s.l.length bh aX)) rfl ?_;refine S Mv ?_;refine nil ⟨rfl,rfl,rfl,rfl,o _ fun bS bU bC=>?_⟩;show Code.roundsIn _ _ _ _ _ _ _ _
     have bW:ak.length=ar.length:=by rw [<- aN,List.length_map]
     refine aZ _ _ (i+1) _ (Live.to bC) aH a6 (by simp; omega) ⟨Y++((u,I)::ak),by rw [Z]; simp,by rw [<- aa,<- aN]; simp⟩ (by omega)
    refine o _ _ ?_;have d0:=(Live.dead (ts':=[(20,.a (.d (.bool false)))]) g7 (dV.get (dV.cons rfl kN)) (N1 _ _) au).vG (d:=26) (cv:=.bool false) rfl (.a (.d (.bool false))) (fun _ _=>.bool _);refine Live.pP (an:=bf.on) (g:=20) (b:=false) (Q _) d0 (tu rfl) rfl rfl rfl rfl fun aO v9 d1=>?_;refine Live.op (an:=bf.on) (Q _) d1 (EM rfl rfl (by conv=>lhs; whnf)) rfl rfl rfl fun aP v10 d2=>?_
    refine wpListIn_nil ?_;show Code.wpIn _ _ _ _ _ _ _;refine wpIn_cond_true (Live.bool (t:=28) d2 rfl) ?_;refine Live.ay (an:=bf.on) (Q _) d2 fun K o=>?_;refine region ?_;refine S As ?_;refine nil ⟨rfl,rfl,rfl,rfl,o _ fun aQ aR O=>?_⟩;refine wpIn_ret ?_;obtain⟨f1,v0,f2,rfl⟩:=Live.zw (P:=Tryz.prog) (fn:=Tryz.f60) Tryz.bq (t:=6) O rfl rfl;refine⟨f1,_,f2,.inr ⟨rfl,Y++((u,I)::bA),by rw [<- aa]; simp only [List.map_append,List.map_cons]; exact(List.prefix_append_right_inj _).2 (by simpa using bB.trans (List.prefix_append _ _)), ?_⟩⟩
    have f3:=O.inv;rw [Z] at f3
    simpa using f3
   refine o _ _ ?_;have d0:=(Live.dead (ts':=[]) X (dV.get kN) pure_nil au).vG (d:=18) (cv:=.bool false) rfl (.a (.d (.bool false))) (fun _ _=>.bool _);refine Live.op (an:=bf.on) (Q _) d0 (tu rfl) rfl rfl rfl fun bi v1 d1=>?_;refine Live.op (an:=bf.on) (Q _) d1 nK rfl rfl rfl fun bj v2 d2=>?_;refine Live.pQ (g:=20) (b:=true) d2 rfl rfl rfl fun bk v3 d3=>?_;refine Live.pQ (g:=20) (b:=true) d3 rfl rfl rfl fun bl v4 d4=>?_
   refine Live.pQ (g:=20) (b:=true) d4 rfl rfl rfl fun bm v5 d5=>?_;refine Live.pQ (g:=20) (b:=true) d5 rfl rfl rfl fun bn v6 d6=>?_;refine Live.pQ (g:=20) (b:=true) d6 rfl rfl rfl fun L aM d7=>?_;refine Live.pQ (g:=20) (b:=true) d7 rfl rfl rfl fun bX bY d8=>?_;refine Live.pQ (g:=20) (b:=true) d8 rfl rfl rfl fun aO v9 d9=>?_;refine Live.op (an:=bf.on) (Q _) d9 (Mg rfl rfl (by conv=>lhs; whnf)) rfl rfl rfl fun aP v10 d10=>?_
   refine wpListIn_nil ?_;show Code.wpIn _ _ _ _ _ _ _;refine wpIn_cond_true (Live.bool (t:=28) d10 rfl) ?_;refine Live.ay (an:=bf.on) (Q _) d10 fun K o=>?_;refine region ?_;refine S As ?_;refine nil ⟨rfl,rfl,rfl,rfl,o _ fun aQ aR O=>?_⟩;refine wpIn_ret ?_;obtain⟨f1,v0,f2,rfl⟩:=Live.zw (P:=Tryz.prog) (fn:=Tryz.f60) Tryz.bq (t:=6) O rfl rfl;refine⟨f1,_,f2,.inr ⟨rfl,Y++[(u,I)],by rw [<- aa]; simp only [List.map_append,List.map_cons,List.map_nil]; exact(List.prefix_append_right_inj _).2 ⟨_,rfl⟩, ?_⟩⟩
   have f3:=O.inv;rw [Z] at f3
   simpa using f3
  have ap:s.l.drop i=[]:=List.drop_of_length_le (by omega);rw [ap,gU] at E;obtain rfl:=oJ E;have bD:(decide ((i:Int)<((s.l.length:Nat):Int)))=false:=by simpa using bh
  obtain⟨Y,Z,aa⟩:=hq;refine wpIn_cond_false (by rw [aF,bD]) ?_;refine wpIn_exit ?_;show Code.wpIn _ _ _ _ _ _ _;refine Live.ay (an:=bf.on) (H _) ao fun K o=>?_;refine region ?_;refine S As ?_;refine nil ⟨rfl,rfl,rfl,rfl,o _ fun aQ aR O=>?_⟩;refine wpIn_ret ?_;obtain⟨f1,v0,f2,rfl⟩:=Live.zw (P:=Tryz.prog) (fn:=Tryz.f60) Tryz.bq (t:=6) O rfl rfl;refine⟨f1,_,f2,.inl ⟨rfl,Y,by simpa using aa, ?_⟩⟩
  obtain⟨_,_,_,f3,f4⟩:=O;exact⟨by rw [<- Z]; exact f4,f3⟩
theorem H9 {j:J}{w:World}(z:∀b,w.heap.size<=b->j.F b=0){k:Nat}{g:Int}{s:Sl aj}{xs:List Int}(hx:gU k g s.l=some xs){c1 c2:Value}(h1:aA j w (.view [Sl.d 9 aj.c none s]) c1) (H:aA j w (.view [.int .i64 g]) c2)
  {C:List Nat}(hC:∀b∈C,b<w.heap.size/\j.F b=0) (n:Nat) :
  SeqStopsK Fence.wide n Tryz.prog 59 #[c1,c2] (fun x:Int×Value=>#[.int .i64 x.1,x.2]) (gw C) (fun I=>I.map (·.1)=xs) (fun q=>q.map (·.1) <+: xs) xs.length w:=by
 intro l J ap W p B L M h0;have E:∀b o c,o<j.F b->w.cell? ⟨b,o,none⟩=some c->W.cell? ⟨b,o,none⟩=some c:=fun b o c N hc=>by
  rw [<- hc];exact World.cell?_of_block (p.block b (by
   rcases Nat.lt_or_ge b w.heap.size with h|h
   ·exact h
   rw [z b h] at N; omega))
 have hr:dY j W gN:=(vE fun b i=>z b (Nat.le_trans p.size i)).1;refine callsIn_of_wp Tryz.func59 rfl trivial ?_ rfl;have O:=vA (fn:=Tryz.f59) (n:=8) rfl (args:=[.d (.yield l),.d (.view [Sl.d 9 aj.c none s]),.d (.view [.int .i64 g])]) (dJ:=[.func (.yield l) #[] #[],c1,c2]) rfl hr (.cons (.yield _) (.cons (h1.kept E) (.cons (H.kept E) .nil)));have P:∀pre,lD (J pre):=fun pre A Q h R=>B pre A Q none h R (fun r e=>by cases e)
 have u:lD (J []):=P [];have g0:Live C (J []) W 8 _ _ W:=⟨j,O,fun b i=>⟨Nat.lt_of_lt_of_le (hC b i).1 p.size,(hC b i).2⟩,.refl _ _,h0⟩;refine wpIn_region_lit ?_;refine Live.op (an:=bf.on) u g0 (ck (TK rfl) rfl rfl rfl) rfl rfl rfl fun ar v1 g1=>?_;refine Live.op (an:=bf.on) u g1 (ck (TK rfl) rfl rfl rfl) rfl rfl rfl fun au v2 g2=>?_;refine Live.op (an:=bf.on) u g2 nK rfl rfl rfl fun f v3 g3=>?_
 refine wpListIn_plain rfl fun K G=>?_;obtain⟨S,U,X,Y⟩:=Live.val (t:=4) g3 rfl;have Z:f.eval (.tmp 5)=.int .i64 g:=by
  obtain⟨_,_,_,hv⟩:=Live.val (t:=5) g3 rfl;generalize f.eval (.tmp 5)=x at hv;have v:aA _ _ (.int .i64 g) x:=hv;cases v; rfl
 have aa:f.eval (.tmp 6)=.func (.yield l) #[] #[]:=by
  obtain⟨_,_,_,hv⟩:=Live.val (t:=6) g3 rfl;generalize f.eval (.tmp 6)=x at hv;have v:aA _ _ (.yield l) x:=hv;cases v; rfl
 refine⟨fun _ _=>trivial, ?_⟩;rw [show Oper.semAt Fence.wide.round f.eval _=execOp f.eval _ from rfl,FU Tryz.call60];have ab:(#[Operand.tmp 4,Operand.tmp 5,Operand.tmp 6].map f.eval)=#[f.eval (.tmp 4),.int .i64 g,.func (.yield l) #[] #[]]:=by simp [Z,aa]
 rw [ab];have ad:=Q0 (l0:=l) (C:=C) B L (fun m pre x ae af hl=>N8 (M pre x ae af hl)) k g s xs hx (n-1) [] S v3 _ U Y X g3.inv (by simp);refine⟨fun h=>(by cases h),ad.mono ?_⟩;rintro e av (⟨rfl,ah,ai,ak,aw⟩|⟨rfl,al,am,ao⟩)
 ·refine G _ _ (wpListIn_nil ⟨?_,_,results_none rfl _ _ _,⟨_,rfl⟩,.inl ⟨ah,ai,by simpa using ak⟩⟩);obtain⟨_,y,_⟩:=g3;rw [put_defers]; exact y.defers
 refine G _ _ (wpListIn_nil ⟨?_,_,results_none rfl _ _ _,⟨_,rfl⟩,.inr ⟨al,am,by simpa using ao⟩⟩);obtain⟨_,y,_⟩:=g3;rw [put_defers]; exact y.defers
theorem H_ (s:Sl aj) (b:Int) (H:ag):AC Tryz.prog 28 [.d (Sl.d 9 aj.c none s),.d (.int .i64 b)] H fun v h'=>v=.a (.d (.func 59 [.view [Sl.d 9 aj.c none s],.view [.int .i64 b]]))/\h'=H:=by
 have _lo:gM an:=inferInstance;refine AC.oW 6 [.tmp 4] Tryz.call28 Tryz.func28 ?_;refine aa (S BX (S BX (S As (nil ?_))));refine aa ?_;refine s0 (makeFunc rfl) rfl ?_;refine S As (nil ?_);refine ah.ret ?_;refine bF.bK H rfl ⟨rfl,rfl⟩ ?_;exact(fun _ _ h=>h)
def qg (xs:List Int):Bool:=decide (2048<xs.length)||xs.any fun k=>decide (24<k)
def xe (i:ar) (f:bU):Option Bool:=(rW f.ak).bind fun b=>(ou i b).bind fun g =>
 bif ((!g.2||(b==([]:Bs)))||(!decide (g.1.ak=(1:Int)))) then some false else
 (gU F0 (1:Int) f.aK.l).bind fun xs=>if xs.length<=4611686018427387904 then(bif qg xs then some false else H8 i f.aK b) else none
set_option maxRecDepth 100000 in
set_option maxHeartbeats 4000000 in
theorem Ia {N:ar}{G:bU}{r:Bool}(F:xe N G=some r) (H:ag):AC Tryz.prog 9 [.agg (ar.c N),.agg (bU.c G)] H fun v h'=>v=.a (.d (.bool r))/\h'=H:=by
 unfold xe at F;refine⟨fun _ _=>Tryz.call9 _ _,fun j w c hr ab=>?_⟩;cases ab with
 | @cons _ v0 _ _ be ab =>
 cases ab with
 | @cons _ v1 _ _ bf ab =>
 cases ab;refine(callsIn_wide (n:=3)).1 (callsIn_of_wp_marks Tryz.func9 rfl trivial ?_ rfl);have a1:=vA (fn:=Tryz.f9) (n:=48) rfl (args:=[.agg (ar.c N),.agg (bU.c G)]) (dJ:=[v0,v1]) rfl hr (.cons be (.cons bf .nil));show Code.wpIn _ _ _ _ (bodyPostM _ _ _ _ (Fin j w H fun v h'=>v=.a (.d (.bool r))/\h'=H)) _ _;refine ah.lE (an:=an) a1 fun K p=>?_;refine region ?_;refine S BX (S BX ?_)
 refine Sl ?_;refine nil ⟨rfl,p _ fun cc cd ce cf bg bh=>?_⟩;clear p K a1;refine ah.lE (an:=an) bg fun K p=>?_;refine region ?_;refine S Fv (S Ld ?_);obtain⟨M,bi,F⟩:=bO F;refine Sc rfl rfl (wK bi) ?_;refine S As ?_;refine nil ⟨rfl,p _ fun cg ch ci cj bj bk=>?_⟩;clear p K;refine ah.lE (an:=an) bj fun K p=>?_;refine ah.post ?_;refine region ?_;refine S Ld (S Mv ?_)
 obtain⟨Y,bl,F⟩:=bO F;refine Sc rfl rfl (rY bl) ?_;refine S Mv (S EX (S EX ?_));refine Sl ?_;refine Sf ?_;refine S As ?_;refine nil ⟨_,cR.freeze 6 _ rfl (by repeat (first|exact bT.nil|apply bT.cons)) (KA 2 (KA 3 (KA 4 (KA 5 (KA 7 aU.nil))))),rfl,p _ fun cl cm co cp bm bn=>?_⟩;clear p K;refine wpIn_seq ?_;refine ah.lE (an:=an) bm fun K p=>?_;refine region ?_;refine S Mv (S NB (S Mv (G0 Mv ?_)))
 refine G1 22 rfl BS ?_;refine S PO (S Mv (G0 Fv ?_));refine G1 26 rfl Ld ?_;refine G1 27 rfl BI ?_;refine S PO ?_;refine nil ⟨rfl,p _ fun a2 a3 bo aE aF bp=>?_⟩;clear p K;have a4:=((bh.trans bk).trans bn).trans bp;have a5:aE.eval (.tmp 29)=.bool ((!Y.2||(M==([]:Bs)))||(!decide (Y.1.ak=(1:Int)))):=by
  have h1:aZ a2 a3 bo (.a (.d (.bool ((!Y.2||(M==([]:Bs)))||(!decide (Y.1.ak=(1:Int))))))) (aE.eval (.tmp 29)):=aF.tmps 29;generalize aE.eval (.tmp 29)=x at h1;have ad:aA a2 a3 (.bool _) x:=h1;cases ad; rfl
 cases hc:((!Y.2||(M==([]:Bs)))||(!decide (Y.1.ak=(1:Int)))) with
 | true =>
  rw [hc] at F;obtain rfl:=oJ F;refine wpIn_cond_true (by rw [a5,hc]) ?_;refine ah.lE (an:=an) aF fun K p=>?_;refine region ?_;refine Sf ?_;refine nil ⟨rfl,p _ fun br bs bt aG ao aH=>?_⟩;refine wpIn_ret ?_;have bu:aG.defers=[]:=ao.defers;show LeavesInM _ _ _ _ _ _ aG.defers _ _;rw [bu];exact FZ (an:=an) Tryz.bq ao (rs:=[.cell 4 4]) rfl (xs:=[.d (.bool false)]) rfl (a4.trans aH) ⟨rfl,rfl⟩
 | false =>
  rw [hc] at F;obtain⟨xs,hx,F⟩:=bO F
  split at F
  case isFalse=>cases F
  rename_i cq
  refine wpIn_cond_false (by rw [a5,hc]) ?_;refine wpIn_skip ?_;show Code.wpIn _ _ _ _ _ _ _;refine ah.lE (an:=an) aF fun K p=>?_;refine region ?_;refine Sl ?_;refine Sf ?_;refine nil ⟨rfl,p _ fun br bs bt aG ao aH=>?_⟩;clear p K;refine wpIn_seq ?_;refine ah.lE (an:=an) ao fun K p=>?_;refine region ?_;refine S Fv (S Ld ?_);refine s0 (fh rfl rfl (fun H=>H_ G.aK 1 H)) rfl ?_
  refine nil ⟨rfl,p _ fun g u aI z E bv=>?_⟩;clear p K;have ap:=(a4.trans aH).trans bv;refine wpIn_block ?_;obtain⟨m,bw,bx,au,aL,aM,bz,cr⟩:=E.loc (t:=4) (i:=0) rfl rfl;obtain⟨s,cs,bA,av,bB,a6,bD,Q⟩:=E.loc (t:=8) (i:=1) rfl rfl;have bE:cs=[.int .i64 0]:=by
   cases bD with
   | cons h ht=>cases ht; cases h; rfl
  have bG:bw=[.bool false]:=by
   cases bz with
   | cons h ht=>cases ht; cases h; rfl
  subst bE bG;have bH:aI.length=2:=by have:=E.hl.2.each.length; simpa using this.symm
  obtain rfl:aI=[m,s]:=by
   match aI,bH,au,av with
   | [x,y],_,au,av=>simp at au av; rw [au,av]
  have aN:m≠s:=by have:=E.hl.2.nodup; simp at this; exact this
  have bI:s<u.heap.size:=fN a6;have bJ:m<u.heap.size:=fN aM;have bL:∃c1 c2,z.eval (.tmp 32)=.func (.func 59) #[] #[c1,c2]/\aA g u (.view [Sl.d 9 aj.c none G.aK]) c1/\aA g u (.view [.int .i64 1]) c2:=by
   have h1:aZ g u [m,s] (.a (.d (.func 59 [.view [Sl.d 9 aj.c none G.aK],.view [.int .i64 1]]))) (z.eval (.tmp 32)):=E.tmps 32;generalize z.eval (.tmp 32)=x at h1;have ad:aA g u (.func 59 [.view [Sl.d 9 aj.c none G.aK],.view [.int .i64 1]]) x:=h1;cases ad with
   | func _ _ gz hl hr =>
    match gz,hl with
    | [c1,c2],_=>exact⟨c1,c2,rfl,hr 0 (by simp) (by simp),hr 1 (by simp) (by simp)⟩
  obtain⟨c1,c2,bP,bQ,bR⟩:=bL;have R:z.tmps.size=48:=E.size;have aO:z.defers=[]:=E.defers;have aw:HL g u [m] [[.bool false]] H:=(HL.trim (an:=an) E.hl 1).1;have ct:bC g u (Ab.Own g H [m,s]) g u (Ab.Own g H [m]):=(HL.trim (an:=an) E.hl 1).2;have a7:¬Ab.Own g H [m] s:=by
   rintro (h|h)
   ·simp at h; exact aN h.symm
   exact E.hl.2.apart s (by simp) (.inr h)
  refine wpIn_rangeFunc_ownF (I:=fun pre W=>(W.heap[s]?=some (.cells #[.int .i64 ((pre.length:Nat):Int)] bA (0,0)))/\fT [s] u W/\qg (pre.map (·.1))=false)
   (Ix:=fun c pre W=>c=.ret/\fT [s] u W/\qg (pre.map (·.1))=true)
   (a₁:=fun x=>({ tmps:=(z.tmps.setIfInBounds 33 (.int .i64 x.1)).setIfInBounds 34 x.2,defers:=[] }:Act).put (some 9) (.int .i64 x.1)) rfl (Nat.le_add_left 1 2) bP trivial (fun _ _=>Tryz.call59 _ _)
   (H9 (C:=[s]) E.hl.1.fresh hx bQ bR (by simp; exact⟨bI,Q⟩) 2) (fun h k=>h.trans k) (fun W l o o' _ h1 ad _=>.put W l o o' h1 ad) (RowKit.Below.refl _ _) (fun _=>rfl)
   (fun pre A B row O ax hr=>⟨(ax.block s (fN O.1) (fun e=>by have:=(hr s e.symm).1; omega)).trans O.1,O.2.1.grown ax fun r e=>(hr r e).1,O.2.2⟩)
   (fun c pre A B row O ax hr=>⟨O.1,O.2.1.grown ax fun r e=>(hr r e).1,O.2.2⟩) ⟨a6,.refl _ _,rfl⟩ ?_ ?_ ?_ ?_
  ·intro l x W K p;refine wpIn_region_lit ?_;refine jI (fun _=>trivial) rfl (by simp) (run_assign (v:=.int .i64 x.1) (fP (by simp [Array.getElem?_setIfInBounds,R]))) ?_;refine wpListIn_nil ?_;show K _ W
   simpa using p
  ·rintro l pre x W ⟨U,hu,L⟩ hlen;have aP:∀f,(Fence.wide.inRound l).fn f:=fun _=>trivial;obtain⟨Z,ae⟩:∃Z,Z=({ tmps:=(z.tmps.setIfInBounds 33 (.int .i64 x.1)).setIfInBounds 34 x.2,defers:=[] }:Act).put (some 9) (.int .i64 x.1):=⟨_,rfl⟩;have s0:Z.tmps.size=48:=by rw [ae,fR]; simp [R]
   have t9:Z.tmps[9]?=some (.int .i64 x.1):=by rw [ae,ic _ (by simp [R]),if_pos rfl]
   have t8:Z.tmps[8]?=some (.pointer (some ⟨s,0,none⟩)):=by rw [ae,ic _ (by simp [R]),if_neg (by decide)]; simp [Array.getElem?_setIfInBounds]; exact bB
   have t4:Z.tmps[4]?=some (.pointer (some ⟨m,0,none⟩)):=by rw [ae,ic _ (by simp [R]),if_neg (by decide)]; simp [Array.getElem?_setIfInBounds]; exact aL
   rw [<- ae];refine wpIn_block (wpIn_seq (wpIn_region_lit ?_));refine N6 aP (TK rfl) rfl rfl (fun _=>rfl) t8 ⟨rfl,rfl⟩ (by rw [s0]; decide) (by rw [s0]; decide) U (by omega) fun ay bS aQ bW af=>?_;refine wpListIn_nil ?_;show Code.wpIn _ _ _ _ _ _ _;have a8:=af.here;have a9:(bS.heap[m]?=some (.cells #[.bool false] bx (0,0))):=((af.other m aN).trans (hu.other m bJ (by simpa using aN))).trans aM
   have bX:ay.tmps[8]?=some (.pointer (some ⟨s,0,none⟩)):=(aQ 8 (by decide) (by decide)).trans t8;have bY:ay.tmps[9]?=some (.int .i64 x.1):=(aQ 9 (by decide) (by decide)).trans t9;have bZ:ay.tmps[4]?=some (.pointer (some ⟨m,0,none⟩)):=(aQ 4 (by decide) (by decide)).trans t4;have b0:ay.tmps.size=48:=bW.trans s0;have aa:=hu.FX af (by simp);have b1:=af.keep (C:=[s]) (by simp);have a_:=af.zz U rfl
   refine wpIn_seq (wpIn_region_lit ?_);refine N7 (gi:=2) aP (TK rfl) rfl (fun _=>rfl) bX bY a8 rfl (by rw [b0]; decide) ⟨rfl,rfl,rfl,rfl,rfl⟩ fun a' b2 az=>?_;have b3:a'.tmps[4]?=some (.pointer (some ⟨m,0,none⟩)):=(b2 4 (by decide) (by decide) (by decide) (by decide) (by decide) (by decide)).trans bZ;refine wpListIn_nil ?_;show Code.wpIn _ _ _ _ _ _ _;have aB:qg ((pre++[x]).map (·.1))=(decide ((2048:Int)<((pre.length:Nat):Int)+1)||decide (24<x.1)):=by
    unfold qg at L ⊢;simp only [Bool.or_eq_false_iff] at L;have h1:decide (2048<((pre++[x]).map (·.1)).length)=decide ((2048:Int)<((pre.length:Nat):Int)+1):=decide_eq_decide.2 (by simp; omega);rw [h1,List.map_append,List.any_append,L.2]; simp
   cases ba:(decide ((2048:Int)<((pre.length:Nat):Int)+1)||decide (24<x.1)) with
   | true =>
    rw [ba] at az aB;refine wpIn_cond_true (fP az) ?_;refine wpIn_seq (wpIn_region_lit ?_);obtain⟨b4,b5,X⟩:=zy (P:=Tryz.prog) (t:=4) (a:=a') (x:=.tmp 4) (y:=.const (.bool false)) (v:=.bool false) (d:=.bool false) (TK rfl) rfl (fP b3) rfl a9 (.bool _);refine zx aP rfl (by simp) b5 ?_;refine wpListIn_nil ?_;show Code.wpIn _ _ _ _ _ _ _;refine wpIn_ret ?_;have b6:fT [s] u b4:=⟨by rw [X.size]; exact aa.size,X.os.trans aa.os,X.tape.trans aa.tape,X.output.trans aa.output,fun k hk hn=>by
     by_cases e:k=m
     ·subst e; rw [X.here,aM]
     rw [X.other k e]; exact aa.other k hk hn⟩
    exact⟨a_.trans (X.zz a9 rfl),rfl,b6,aB⟩
   | false =>
    rw [ba] at az aB;refine wpIn_cond_false (fP az) ?_;refine wpIn_skip ?_;refine⟨a_,b1, ?_,aa,aB⟩;rw [a8]; simp
  ·rintro D cu W b7 b8 ⟨U,hu,L⟩ p;have hle:Le g u g W:=hu.le (by simp; exact Q) E.hl.1.fresh;have aR:HL g W [m] [[.bool false]] H:=hu.hl (by simp; exact Q) aw (by simp; exact a7);have aS:aZ g u [m,s] (.a (.d (.view (ar.c N)))) (z.tmps.getD 2 undef):=E.tmps 2;have aT:aZ g u [m,s] (.a (.d (.view (bU.c G)))) (z.tmps.getD 3 undef):=E.tmps 3;have aV:aZ g u [m,s] (.a (.d (.str M))) (z.tmps.getD 5 undef):=E.tmps 5
   have aW:bC g u (Ab.Own g H [m,s]) g W (Ab.Own g H [m]):=fT.F2 (an:=an) hu (by simp; exact Q) E.hl.1.fresh (by simp; exact .inl (by simp)) (fun b U=>U.elim (fun h=>.inl (by simp at h; simp [h])) .inr);have aC:¬Ab.Own g H [m] D:=fun h=>by have:=h.lt aw; omega
   have aX:w.heap.size<=D:=by have:=ap.size; omega
   obtain⟨J,aD⟩:∃x:eN,x.ds=[{ target:=.collected D,args:=#[] }]:=⟨⟨[{ target:=.collected D,args:=#[] }]⟩,rfl⟩;have aY:@dD J g W [m] ⟨48,[(2,.a (.d (.view (ar.c N)))),(3,.a (.d (.view (bU.c G)))),(5,.a (.d (.str M))),(4,.dI 0 0)],[[.bool false]],H⟩ { z with defers:={ target:=.collected D,args:=#[] }::z.defers }:=by
    refine @dD.mk J _ _ _ _ _ (show ({ target:=.collected D,args:=#[] }::z.defers:List Deferred)=J.ds by rw [aO,aD]) R (fun k=>?_) aR;by_cases k2:k=2
    ·subst k2; exact aS.mono hle (Ext.refl _)
    by_cases ai:k=3
    ·subst ai; exact aT.mono hle (Ext.refl _)
    by_cases al:k=5
    ·subst al; exact aV.mono hle (Ext.refl _)
    by_cases am:k=4
    ·subst am; exact⟨m,rfl,by show z.tmps.getD 4 undef=_; rw [Array.getD_eq_getD_getElem?,aL]; rfl⟩
    have:get [(2,V.a (.d (.view (ar.c N)))),(3,.a (.d (.view (bU.c G)))),(5,.a (.d (.str M))),(4,.dI 0 0)] k=.any:=by
     rw [fe _ _ (Ne.symm k2),fe _ _ (Ne.symm ai),fe _ _ (Ne.symm al),fe _ _ (Ne.symm am)]; rfl
    show aZ _ _ _ (get _ k) _;rw [this]; trivial
   rw [b8] at L;rw [L] at F;show Code.wpIn _ _ _ _ _ _ _;refine ah.N9 (an:=an) (gv:=J) aY fun K b9=>?_;refine region ?_;refine S Ld (S Fv (S Ld (S Mv ?_)));refine s0 (gD rfl rfl (QX F _)) rfl ?_;refine Sf ?_;refine nil ⟨rfl,b9 _ fun cv cw cx bb bc a0=>?_⟩;refine wpIn_ret ?_;have b_:bb.defers=[{ target:=.collected D,args:=#[] }]:=(@dD.defers J _ _ _ _ _ bc).trans aD
   show LeavesInM _ _ _ _ _ _ bb.defers _ _;rw [b_];have bd:=fN p;refine F1 (an:=an) (gv:=J) Tryz.bq bc (rs:=[.cell 4 4]) rfl (xs:=[.d (.bool r)]) rfl ((ap.trans aW).trans a0) ⟨rfl,rfl⟩ ((a0.frame D bd aC).1.trans p) aX (fun h=>aC (a0.own D bd h))
  rintro D c pre W b7 b' ⟨rfl,hu,L⟩ p;have hle:Le g u g W:=hu.le (by simp; exact Q) E.hl.1.fresh;have aR:HL g W [m] [[.bool false]] H:=hu.hl (by simp; exact Q) aw (by simp; exact a7);have aS:aZ g u [m,s] (.a (.d (.view (ar.c N)))) (z.tmps.getD 2 undef):=E.tmps 2;have aT:aZ g u [m,s] (.a (.d (.view (bU.c G)))) (z.tmps.getD 3 undef):=E.tmps 3;have aV:aZ g u [m,s] (.a (.d (.str M))) (z.tmps.getD 5 undef):=E.tmps 5
  have aW:bC g u (Ab.Own g H [m,s]) g W (Ab.Own g H [m]):=fT.F2 (an:=an) hu (by simp; exact Q) E.hl.1.fresh (by simp; exact .inl (by simp)) (fun b U=>U.elim (fun h=>.inl (by simp at h; simp [h])) .inr);have aC:¬Ab.Own g H [m] D:=fun h=>by have:=h.lt aw; omega
  have aX:w.heap.size<=D:=by have:=ap.size; omega
  obtain⟨J,aD⟩:∃x:eN,x.ds=[{ target:=.collected D,args:=#[] }]:=⟨⟨[{ target:=.collected D,args:=#[] }]⟩,rfl⟩;have aY:@dD J g W [m] ⟨48,[(2,.a (.d (.view (ar.c N)))),(3,.a (.d (.view (bU.c G)))),(5,.a (.d (.str M))),(4,.dI 0 0)],[[.bool false]],H⟩ { z with defers:={ target:=.collected D,args:=#[] }::z.defers }:=by
   refine @dD.mk J _ _ _ _ _ (show ({ target:=.collected D,args:=#[] }::z.defers:List Deferred)=J.ds by rw [aO,aD]) R (fun k=>?_) aR;by_cases k2:k=2
   ·subst k2; exact aS.mono hle (Ext.refl _)
   by_cases ai:k=3
   ·subst ai; exact aT.mono hle (Ext.refl _)
   by_cases al:k=5
   ·subst al; exact aV.mono hle (Ext.refl _)
   by_cases am:k=4
   ·subst am; exact⟨m,rfl,by show z.tmps.getD 4 undef=_; rw [Array.getD_eq_getD_getElem?,aL]; rfl⟩
   have:get [(2,V.a (.d (.view (ar.c N)))),(3,.a (.d (.view (bU.c G)))),(5,.a (.d (.str M))),(4,.dI 0 0)] k=.any:=by
    rw [fe _ _ (Ne.symm k2),fe _ _ (Ne.symm ai),fe _ _ (Ne.symm al),fe _ _ (Ne.symm am)]; rfl
   show aZ _ _ _ (get _ k) _;rw [this]; trivial
  have ca:qg xs=true:=by
   obtain⟨q,hq⟩:=b';unfold qg at L ⊢;rw [<- hq];simp only [Bool.or_eq_true,decide_eq_true_eq] at L ⊢;rcases L with h|h
   ·exact .inl (by simp at h ⊢; omega)
   exact .inr (by rw [List.any_append,h]; rfl)
  rw [ca] at F;obtain rfl:=oJ F;refine wpIn_ret ?_;show LeavesInM _ _ _ _ _ _ _ _ _;show LeavesInM _ _ _ _ _ _ ({ target:=.collected D,args:=#[] }::z.defers) _ _;rw [aO];have cb:=F1 (an:=an) (gv:=J) (P:=Tryz.prog) (fn:=Tryz.f9) (n:=3) (h:=H) (w:=w) (j:=j) (Post:=fun v h'=>v=.a (.d (.bool false))/\h'=H) Tryz.bq aY (rs:=[.cell 4 4]) rfl (xs:=[.d (.bool false)]) rfl (ap.trans aW) ⟨rfl,rfl⟩ p aX aC
  exact cb
end
def ov (b:Int) (f:Int):Int:=bif (decide (b<f)) then((-1:Int)) else(bif (decide (f<b)) then((1:Int)) else((0:Int)))
def sn (b:Int) (f:Int):Option Int:=some (ov b f)
theorem BT (a0:Int) (a1:Int):sn a0 a1=some (ov a0 a1):=rfl
theorem BW {i j r:Int}(b:sn i j=some r) (H:ag) :AC Tryz.prog 122 [.d (.int .i64 i),.d (.int .i64 j)] H fun v h'=>v=.a (.d (.int .i64 r))/\h'=H:=by
 unfold sn ov at b;refine AC.oW 11 [.tmp 4] Tryz.call122 Tryz.func122 ?_;refine aa (S As (nil ?_));refine ay fun k f=>?_;refine aa (S Mv (S Mv (S BI (nil ?_))));refine cP b (fun l b=>?_) (fun l b=>?_)
 ·refine aa (S As (nil ?_));exact rt b
 refine sk f ?_;clear f k;refine ay fun m g=>?_;refine aa (S Mv (S Mv (S BI (nil ?_))));refine cP b (fun o b=>?_) (fun o b=>?_)
 ·refine aa (S As (nil ?_));exact rt b
 refine sk g ?_;clear g m;refine aa (S As (nil ?_));exact rt b
def ow (b:Bs) (f:Bs):Int:=bif (Op.bytesLess b f) then((-1:Int)) else(bif (!(Op.bytesLess b f||b==f)) then((1:Int)) else((0:Int)))
def uj (b:Bs) (f:Bs):Option Int:=some (ow b f)
theorem Ib (a0:Bs) (a1:Bs):uj a0 a1=some (ow a0 a1):=rfl
theorem Ic {i j:Bs}{r:Int}(b:uj i j=some r) (H:ag) :AC Tryz.prog 123 [.d (.str i),.d (.str j)] H fun v h'=>v=.a (.d (.int .i64 r))/\h'=H:=by
 unfold uj ow at b;refine AC.oW 11 [.tmp 4] Tryz.call123 Tryz.func123 ?_;refine aa (S As (nil ?_));refine ay fun k f=>?_;refine aa (S Mv (S Mv (S BS (nil ?_))));refine cP b (fun l b=>?_) (fun l b=>?_)
 ·refine aa (S As (nil ?_));exact rt b
 refine sk f ?_;clear f k;refine ay fun m g=>?_;refine aa (S Mv (S Mv (S BS (nil ?_))));refine cP b (fun o b=>?_) (fun o b=>?_)
 ·refine aa (S As (nil ?_));exact rt b
 refine sk g ?_;clear g m;refine aa (S As (nil ?_));exact rt b
def BY (b:af) (f:Int):Option Bs:=bif (decide (f<((b.aF.l.length:Nat):Int))) then((cq b.aF.l f).bind fun g=>some g) else(some ([]:Bs))
def sr (b:af) (f:Int):Option Bs:=BY b f
theorem Q1 (a0:af) (a1:Int):sr a0 a1=BY a0 a1:=rfl
theorem Ie {g:af}{j:Int}{r:Bs}(b:sr g j=some r) (H:ag) :AC Tryz.prog 124 [.agg (af.c g),.d (.int .i64 j)] H fun v h'=>v=.a (.d (.str r))/\h'=H:=by
 unfold sr BY at b;refine AC.oW 15 [.tmp 4] Tryz.call124 Tryz.func124 ?_;refine aa (S BX (S As (nil ?_)));refine ay fun k i=>?_;refine aa (S Mv (S Fv (S Ld ?_)));refine sLen (f:=aM) (s:=g.aF) (TK rfl) rfl rfl rfl rfl fun o=>?_;refine S BI (nil ?_);refine cE b (fun l b=>?_) (fun l b=>?_)
 ·refine aa (S Fv (S Ld (S Mv ?_)));obtain⟨p,m,b⟩:=qT rfl b;refine s0 (fI (f:=aM) (TK rfl) rfl (TK rfl) rfl rfl rfl m) rfl ?_;refine S Ld (S As (nil ?_));exact rt b
 refine sk i ?_;clear i k;refine aa (S As (nil ?_));exact rt b
end Go.Proofs
namespace Go.Proofs
open Go Go.Ab
open aS aq ah aU dV
variable {an:bf}
def BZ  (b:Int):Option Int:=some b
def su (b:Int) (f:Int->Int->Option Int) (g:Int):Option Int:=(bY b (1:Int)).bind fun i=>f g i
def ox (f:af) (g:af) (i:af->af->Option Int):Nat->Int->Int->Option Int
 | 0,_,_=>none
 | j+1,k,b=>bif (decide (k=(0:Int))) then(bif ((decide (((f.av.l.length:Nat):Int)<=b))||(decide (((g.av.l.length:Nat):Int)<=b))) then((sn ((f.av.l.length:Nat):Int) ((g.av.l.length:Nat):Int)).bind fun o=>some o) else((sr f b).bind fun p=>(sr g b).bind fun q=>(uj p q).bind fun m=>bif (decide (m=(0:Int))) then((cq f.av.l b).bind fun r=>(cq g.av.l b).bind fun s=>(i r s).bind fun t=>su b ((ox f g i j)) t) else(su b ((ox f g i j)) m))) else(BZ   k)
def uk (g:af) (i:af) (b:af->af->Option Int) (f:Int):Option Int:=ox g i b F0 f (0:Int)
def sv (b:af) (f:af) (g:af->af->Option Int) (i:Int):Option Int:=bif (decide (i=(0:Int))) then((uj b.aV f.aV).bind fun j=>uk b f g j) else(uk b f g i)
def iG:Nat->af->af->Option Int
 | 0,_,_=>none
 | n+1,b,f=>(sn b.ak f.ak).bind fun g=>bif (decide (g=(0:Int))) then((sn b.bl f.bl).bind fun i=>sv b f (iG n) i) else(sv b f (iG n) g)
def B0 (n:Nat):Prop:=∀{a0:af}{a1:af}   {r:Int},iG n a0 a1=some r->∀(H:ag),AC Tryz.prog 70 [.agg (af.c a0),.agg (af.c a1)] H fun v h'=>v=.a (.d (.int .i64 r))/\h'=H
theorem Q2 (n:Nat) (t:B0 (an:=an) n):B0 (an:=an) (n+1):=by
 intro g i   r b H ;rw [iG] at b;refine AC.oW 70 [.tmp 4] Tryz.call70 Tryz.func70 ?_;refine aa (S BX (S BX (S As (nil ?_))));refine aa (S Fv (S Ld (S Fv (S Ld ?_))));obtain⟨u,v,b⟩:=bO b;refine Sc rfl rfl (BW v) ?_;refine S As (nil ?_);refine aP (TA 2 (TA 3 kN)) (fun(z:Int)=>[(5,.a (.d (.int .i64 z)))]) (fun z=>H) (fun z=>sv g i (iG n) z=some r) ?_ ?_
 ·intro am l;refine aa (S Mv (S BI (nil ?_)));refine cE b (fun w b=>?_) (fun w b=>?_)
  ·refine region ?_;refine S Fv (S Ld (S Fv (S Ld ?_)));obtain⟨y,B,b⟩:=bO b;refine Sc rfl rfl (BW B) ?_;refine S As (nil ?_);exact l _ y wA b
  refine ah.skip ?_;exact l _ u wA b
 rintro C b;try dsimp only at b
 unfold sv at b;refine aP (TA 2 (TA 3 kN)) (fun(z:Int)=>[(5,.a (.d (.int .i64 z)))]) (fun z=>H) (fun z=>uk g i (iG n) z=some r) ?_ ?_
 ·intro ao m;refine aa (S Mv (S BI (nil ?_)));refine cE b (fun E b=>?_) (fun E b=>?_)
  ·refine region ?_;refine S Fv (S Ld (S Fv (S Ld ?_)));obtain⟨F,G,b⟩:=bO b;refine Sc rfl rfl (Ic G) ?_;refine S As (nil ?_);exact m _ F wA b
  refine ah.skip ?_;exact m _ C wA b
 rintro I b;try dsimp only at b
 unfold uk at b;refine aP kN (fun(z:Int)=>[(5,.a (.d (.int .i64 z)))]) (fun z=>H) (fun z=>BZ z=some r) ?_ ?_
 ·intro ap J;refine aa (S As (nil ?_));refine block ?_;refine bD (TA 2 (TA 3 kN)) (fun(z:Nat×Int×Int)=>[(5,.a (.d (.int .i64 z.2.1))),(6,.a (.d (.int .i64 z.2.2)))]) (fun z=>H) (fun z=>z.1) (fun z=>ox g i (iG n) z.1 z.2.1 z.2.2=some r) (F0,I,(0:Int)) b wA ?_;rintro ⟨j,K,L⟩ b ar M;try dsimp only at b
  cases j with
  | zero=>cases b
  | succ j =>
    rw [ox] at b;refine ay fun N o=>?_;refine aa (S Mv (S BI (nil ?_)));refine cE b (fun O b=>?_) (fun O b=>?_)
    ·refine sk o ?_;clear o N;refine aP (TA 2 (TA 3 (TA 6 kN))) (fun(z:Int)=>[(5,.a (.d (.int .i64 z)))]) (fun z=>H) (fun z=>su L ((ox g i (iG n) j)) z=some r) ?_ ?_
     ·intro aw p;refine block ?_;refine ay fun P q=>?_;refine aa (S Mv (S Fv ?_));refine s0 (ck (TK rfl) rfl rfl (congrArg (fun x=>some (A.d x)) (af.di _))) rfl ?_;refine sLen (f:=af.c) (s:=g.av) (TK rfl) rfl rfl rfl rfl fun ax=>?_;refine S BI (S Mv (G0 Mv (G0 Fv ?_)));refine gC rfl rfl (fun hC=>aI (k:=37) rfl (ck (TK rfl) rfl rfl (congrArg (fun x=>some (A.d x)) (af.di _)))) rfl ?_
      refine gC rfl rfl (fun hC=>aI (k:=38) rfl (dx (f:=af.c) (s:=i.av) (TK rfl) rfl rfl rfl)) rfl ?_;refine G2 36 39 rfl rfl BI ?_;refine S PO (nil ?_);refine cE b (fun Q b=>?_) (fun Q b=>?_)
      ·refine aa (S Fv ?_);refine s0 (ck (TK rfl) rfl rfl (congrArg (fun x=>some (A.d x)) (af.di _))) rfl ?_;refine sLen (f:=af.c) (s:=g.av) (TK rfl) rfl rfl rfl rfl fun az=>?_;refine S Fv ?_;refine s0 (ck (TK rfl) rfl rfl (congrArg (fun x=>some (A.d x)) (af.di _))) rfl ?_;refine sLen (f:=af.c) (s:=i.av) (TK rfl) rfl rfl rfl rfl fun aA=>?_;obtain⟨aB,R,b⟩:=bO b
       refine Sc rfl rfl (BW R) ?_;refine S As (nil ?_);exact rt b
      refine sk q ?_;clear q P;refine ah.cH (Sd Ld (Sd Mv ?_));obtain⟨aC,U,b⟩:=bO b;refine cN rfl rfl (Ie U) ?_;refine Sd Ld (Sd Mv ?_);obtain⟨aD,W,b⟩:=bO b;refine cN rfl rfl (Ie W) ?_;obtain⟨X,Y,b⟩:=bO b;refine cN rfl rfl (Ic Y) ?_;refine Sd As ?_;refine au.nil (by decide +kernel) ?_;refine aa (S Mv (S BI (nil ?_)));refine cE b (fun Z b=>?_) (fun Z b=>?_)
      ·refine ah.draw rfl ?_;refine Sd Fv ?_;refine au.s0 (ck (TK rfl) rfl rfl (congrArg (fun x=>some (A.d x)) (af.di _))) rfl ?_;refine Sd Mv ?_;obtain⟨aE,ab,b⟩:=bO b;refine au.s0 (fI (f:=af.c) (TK rfl) rfl (TK rfl) rfl rfl rfl ab) rfl ?_;refine Sd Ld (Sd Fv ?_);refine au.s0 (ck (TK rfl) rfl rfl (congrArg (fun x=>some (A.d x)) (af.di _))) rfl ?_;refine Sd Mv ?_
       obtain⟨aF,ad,b⟩:=bO b;refine au.s0 (fI (f:=af.c) (TK rfl) rfl (TK rfl) rfl rfl rfl ad) rfl ?_;refine Sd Ld ?_;obtain⟨ae,ai,b⟩:=bO b;refine cN rfl rfl (t ai) ?_;refine Sd As ?_;refine au.nil (by decide +kernel) ?_;exact p _ ae wA b
      refine ah.skip ?_;exact p _ X wA b
     rintro aj b;try dsimp only at b
     unfold su at b;refine region ?_;refine S Mv ?_;obtain⟨ak,al,b⟩:=bO b;refine s0 (dc rfl rfl al) rfl ?_;refine S As (nil ?_);exact M _ (j,aj,ak) wA b (nS _)
    refine ah.exit ?_;exact J _ K wA b
 rintro aG b;try dsimp only at b
 unfold BZ at b;refine aa (S Mv (S As (nil ?_)));exact rt b
theorem Ig:∀(n:Nat),(B0 (an:=an) n)
 | 0=>fun b=>by first|cases b|(rw [iG] at b; cases b)
 | n+1=>Q2 n (Ig n)
def B1 (b:af) (f:af):Option Int:=iG F0 b f
theorem Q3 {b f:af}{r:Int}(g:B1 b f=some r) (H:ag) :AC Tryz.prog 70 [.agg (af.c b),.agg (af.c f)] H fun v h'=>v=.a (.d (.int .i64 r))/\h'=H:=(Ig F0) g H 
def qh (f:af) (g:af):Option Bool:=(B1 f g).bind fun b=>some (decide (b=(0:Int)))
def B2 (b:af) (f:af):Option Bool:=qh b f
theorem Ih (a0:af) (a1:af):B2 a0 a1=qh a0 a1:=rfl
theorem Ii {f g:af}{r:Bool}(b:B2 f g=some r) (H:ag) :AC Tryz.prog 34 [.agg (af.c f),.agg (af.c g)] H fun v h'=>v=.a (.d (.bool r))/\h'=H:=by
 unfold B2 qh at b;refine AC.oW 9 [.tmp 4] Tryz.call34 Tryz.func34 ?_;refine aa (S BX (S BX (S As (nil ?_))));refine aa (S Ld (S Ld ?_));obtain⟨j,i,b⟩:=qT rfl b;refine Sc rfl rfl (Q3 i) ?_;refine S BI (S As (nil ?_));exact rt b
def kY (i:aj):List ax->Nat->Option (Unit ⊕ Bool)
 | [],b=>some (Sum.inl ())
 | j::k,b=>on (j) fun f=>(i.aG.l[b]?).bind fun g=>on (bif !(!(f.ai==g.ai)) then j else ax.zero) fun m=>aQ (!(!(f.ai==g.ai))) (i.aG.l[b]?) ax.zero fun o=>aQ (!(!(f.ai==g.ai))) (qh m.cB o.cB) false fun p=>bif ((!(f.ai==g.ai))||(!p)) then(some (Sum.inr false)) else(kY i (k) (b+1) )
def jw (k:(Sl aj)) (i:(Sl aj)->(Sl aj)->Option Bool):List aj->Nat->Option (Unit ⊕ Bool)
 | [],g=>some (Sum.inl ())
 | m::o,g=>on (m) fun b=>(k.l[g]?).bind fun f=>aQ (!(((((!(b.bn==f.bn))||(!(b.bz==f.bz)))||(!(b.ai==f.ai)))||(!(b.bZ==f.bZ)))||(!decide (b.bW=f.bW)))) (kQ b.aO f.aO) false fun j=>aQ (!(((((((!(b.bn==f.bn))||(!(b.bz==f.bz)))||(!(b.ai==f.ai)))||(!(b.bZ==f.bZ)))||(!decide (b.bW=f.bW)))||(!j))||(!decide (((b.aG.l.length:Nat):Int)=((f.aG.l.length:Nat):Int))))) (i b.aK f.aK) false fun p=>bif ((((((((!(b.bn==f.bn))||(!(b.bz==f.bz)))||(!(b.ai==f.ai)))||(!(b.bZ==f.bZ)))||(!decide (b.bW=f.bW)))||(!j))||(!decide (((b.aG.l.length:Nat):Int)=((f.aG.l.length:Nat):Int))))||(!p)) then(some (Sum.inr false)) else(Option.bind (kY f b.aG.l 0 ) fun q=>match q with|Sum.inl _=>(on (()) fun _=>jw k i (o) (g+1) )|Sum.inr r=>(some (Sum.inr r)))
def iU:Nat->(Sl aj)->(Sl aj)->Option Bool
 | 0,_,_=>none
 | n+1,b,f=>bif (!decide (((b.l.length:Nat):Int)=((f.l.length:Nat):Int))) then(some false) else(Option.bind (jw f (iU n) b.l 0 ) fun g=>match g with|Sum.inl _=>(on (()) fun _=>some true)|Sum.inr i=>(some i))
def B3 (n:Nat):Prop:=∀{a0:(Sl aj)}{a1:(Sl aj)}{w0:Option Nat}{b:Option Nat}  {r:Bool},iU n a0 a1=some r->∀(H:ag),AC Tryz.prog 11 [.d (Sl.d 9 aj.c w0 a0),.d (Sl.d 9 aj.c b a1)] H fun v h'=>v=.a (.d (.bool r))/\h'=H
theorem Q4 (n:Nat) (K:B3 (an:=an) n):B3 (an:=an) (n+1):=by
 intro j o w0 av  r b H;rw [iU] at b;refine AC.oW 122 [.tmp 4] Tryz.call11 Tryz.func11 ?_;refine aa (S As (nil ?_));refine ay fun L y=>?_;refine aa (S Mv ?_);refine sLen (f:=aj.c) (s:=j) (TK rfl) rfl rfl rfl rfl fun aw=>?_;refine S Mv ?_;refine sLen (f:=aj.c) (s:=o) (TK rfl) rfl rfl rfl rfl fun az=>?_;refine S BI (nil ?_);refine cE b (fun M b=>?_) (fun M b=>?_)
 ·refine aa (S As (nil ?_));exact rt b
 refine sk y ?_;clear y L;refine aP kN (fun(z:Unit)=>[]) (fun z=>H) (fun z=>(some true)=some r) ?_ ?_
 ·intro aA N;refine aa (S As (nil ?_));refine block ?_;obtain⟨p,q,b⟩:=cG b;refine bD (TA 0 (TA 1 kN)) (fun(z:Nat)=>[(5,.a (.d (.int .i64 ((z:Nat):Int))))]) (fun z=>H) (fun z=>j.l.length-z) (fun z=>Option.bind (jw o (iU n) (j.l.drop z) z ) p=some r) 0 b wA ?_;rintro g b aB O;try dsimp only at b
  refine ay fun P B=>?_;refine aa (S Mv (S Mv ?_));refine sLen (f:=aj.c) (s:=j) (TK rfl) rfl rfl rfl rfl fun aC=>?_;refine S BI (nil ?_);refine ah.cL (fun l=>Option.bind (jw o (iU n) l g ) p=some r) b rfl (fun aD C t b=>?_) (fun t b=>?_)
  ·rw [jw] at b;try dsimp only at t
   have aE:=oD t;refine sk B ?_;clear B P;refine aP (TA 0 (TA 1 (TA 5 kN))) (fun(z:Unit)=>[]) (fun z=>H) (fun z=>Option.bind (jw o (iU n) (j.l.drop (g+1)) (g+1) ) p=some r) ?_ ?_
   ·intro aF Q;refine block ?_;refine ah.cH (Sd Mv (Sd Mv ?_));obtain⟨m,R,b⟩:=vO C b;refine Sd (ix aj.c g R) (Sd Ld (Sd Mv (Sd Mv ?_)));obtain⟨u,U,b⟩:=qO rfl b;refine Sd (ix aj.c g U) (Sd Ld ?_);refine au.sB (TK rfl) rfl rfl ?_ (by repeat (first|exact bT.nil|apply bT.cons));refine au.sB (TK rfl) rfl rfl ?_ (by repeat (first|exact bT.nil|apply bT.cons))
    refine au.dU (eA (TK rfl) rfl rfl rfl rfl rfl) ?_;refine au.dU (eA (TK rfl) rfl rfl rfl rfl rfl) ?_;refine au.nil (by decide +kernel) ?_;refine bH 7 _ rfl (KA 0 (KA 1 (KA 5 (KA 6 aU.nil)))) ?_;refine bH 6 _ rfl (KA 0 (KA 1 (KA 5 (KA 7 aU.nil)))) ?_;refine ay fun W E=>?_;refine aa (S Fv (S Ld (S Fv (S Ld (S BS (S Mv (G0 Fv ?_)))))));refine G1 34 rfl Ld ?_
    refine G0 Fv ?_;refine G1 36 rfl Ld ?_;refine G2 35 37 rfl rfl BS ?_;refine S PO (S Mv (G0 Fv ?_));refine G1 41 rfl Ld ?_;refine G0 Fv ?_;refine G1 43 rfl Ld ?_;refine G2 42 44 rfl rfl BS ?_;refine S PO (S Mv (G0 Fv ?_));refine G1 48 rfl Ld ?_;refine G0 Fv ?_;refine G1 50 rfl Ld ?_;refine G2 49 51 rfl rfl BS ?_;refine S PO (S Mv (G0 Fv ?_));refine G1 55 rfl Ld ?_;refine G0 Fv ?_;refine G1 57 rfl Ld ?_
    refine G2 56 58 rfl rfl BI ?_;refine S PO (S Mv (G0 Fv ?_));refine G1 62 rfl Ld ?_;refine G0 Fv ?_;refine G1 64 rfl Ld ?_;obtain⟨aH,X,b⟩:=eR (wz _ _) b;refine fq 63 65 rfl rfl rfl rfl rfl rfl (fun hC=>wC (X hC)) ?_;refine G1 66 rfl NB ?_;refine S PO (S Mv (G0 Fv ?_));refine G1 70 rfl Ld ?_;refine gC rfl rfl (fun hC=>aI (k:=71) rfl (dx (f:=ax.c) (s:=m.aG) (TK rfl) rfl rfl rfl)) rfl ?_
    refine G0 Fv ?_;refine G1 73 rfl Ld ?_;refine gC rfl rfl (fun hC=>aI (k:=74) rfl (dx (f:=ax.c) (s:=u.aG) (TK rfl) rfl rfl rfl)) rfl ?_;refine G2 72 75 rfl rfl BI ?_;refine S PO (S Mv (G0 Fv ?_));refine gC rfl rfl (fun hC=>aI (k:=79) rfl (ck (TK rfl) rfl rfl (congrArg (fun x=>some (A.d x)) (aj.gp _)))) rfl ?_;refine G0 Fv ?_;refine gC rfl rfl (fun hC=>aI (k:=81) rfl (ck (TK rfl) rfl rfl (congrArg (fun x=>some (A.d x)) (aj.gp _)))) rfl ?_
    obtain⟨aK,Y,b⟩:=eR rfl b;refine fq 80 82 rfl rfl rfl rfl rfl rfl (fun hC=>K (Y hC)) ?_;refine G1 83 rfl NB ?_;refine S PO (nil ?_);refine cO b (fun Z b=>?_) (fun Z b=>?_)
    ·refine aa (S As (nil ?_));refine ah.ret ?_;repeat (first|refine bM ?_|refine bN ?_)
     have b:=ku q b;obtain rfl:=oJ b;refine bF.bK H rfl ⟨rfl,rfl⟩ ?_;exact(fun _ _ h=>h)
    refine sk E ?_;clear E W;refine aa (S As (nil ?_));refine block ?_;obtain⟨F,G,b⟩:=eG b;refine bD (TA 0 (TA 1 (TA 5 (TA 6 (TA 7 kN))))) (fun(z:Nat)=>[(8,.a (.d (.int .i64 ((z:Nat):Int))))]) (fun z=>H) (fun z=>m.aG.l.length-z) (fun z=>Option.bind (kY u (m.aG.l.drop z) z ) F=some r) 0 b wA ?_;rintro i b aL ab;try dsimp only at b
    refine ay fun ad I=>?_;refine aa (S Mv (S Fv (S Ld ?_)));refine sLen (f:=ax.c) (s:=m.aG) (TK rfl) rfl rfl rfl rfl fun aM=>?_;refine S BI (nil ?_);refine ah.cL (fun l=>Option.bind (kY u l i ) F=some r) b rfl (fun aN v w b=>?_) (fun w b=>?_)
    ·rw [kY] at b;try dsimp only at w
     have aO:=oD w;refine sk I ?_;clear I ad;refine ay fun ae J=>?_;refine block ?_;refine ah.cH (Sd Fv (Sd Ld (Sd Mv ?_)));obtain⟨aQ,af,b⟩:=vO v b;refine Sd (ix ax.c i af) (Sd Fv (Sd Ld (Sd Fv (Sd Ld (Sd Mv ?_)))));obtain⟨aR,ai,b⟩:=qO rfl b;refine Sd (ix ax.c i ai) (Sd Fv (Sd Ld (Sd BS (Sd Mv (cr Fv ?_)))));refine cK 107 rfl Ld ?_
     refine cr Mv ?_;obtain⟨aS,ak,b⟩:=eV (fun _=>v) b;refine au.gC rfl rfl (fun hC=>aI (k:=108) rfl (aI (k:=109) rfl (eO (f:=ax.c) (n:=i) (TK rfl) rfl (TK rfl) rfl rfl rfl (ak hC)))) rfl ?_;refine cK 110 rfl Fv ?_;refine cK 111 rfl Ld ?_;refine cr Fv ?_;refine cK 113 rfl Ld ?_;refine cr Mv ?_;obtain⟨aT,al,b⟩:=eR rfl b;refine au.gC rfl rfl (fun hC=>aI (k:=114) rfl (aI (k:=115) rfl (eO (f:=ax.c) (n:=i) (TK rfl) rfl (TK rfl) rfl rfl rfl (al hC)))) rfl ?_
     refine cK 116 rfl Fv ?_;refine cK 117 rfl Ld ?_;obtain⟨aV,am,b⟩:=eR (Ih _ _) b;refine kG 112 118 rfl rfl rfl rfl rfl rfl (fun hC=>Ii (am hC)) ?_;refine cK 119 rfl NB ?_;refine Sd PO ?_;refine au.nil (by decide +kernel) ?_;refine cO b (fun ao b=>?_) (fun ao b=>?_)
     ·refine aa (S As (nil ?_));refine ah.ret ?_;repeat (first|refine bM ?_|refine bN ?_)
      have b:=ku G b;have b:=ku q b;obtain rfl:=oJ b;refine bF.bK H rfl ⟨rfl,rfl⟩ ?_;exact(fun _ _ h=>h)
     refine sk J ?_;clear J ae;refine region ?_;refine S Mv ?_;refine SI ?_;refine S As (nil ?_);exact ab _ (i+1) wA b (dl v)
    rw [kY] at b;have b:=ku G b;try dsimp only at b
    refine ah.exit ?_;obtain⟨aW,ap,b⟩:=gP b;have b:=ku ap b;exact Q _ () wA b
   rintro _ b;try dsimp only at b
   refine region ?_;refine S Mv ?_;refine SI ?_;refine S As (nil ?_);exact O _ (g+1) wA b (dl C)
  rw [jw] at b;have b:=ku q b;try dsimp only at b
  refine ah.exit ?_;obtain⟨aX,ar,b⟩:=cC b;have b:=ku ar b;exact N _ () wA b
 rintro _ b;try dsimp only at b
 refine aa (S As (nil ?_));exact rt b
theorem Ij:∀(n:Nat),(B3 (an:=an) n)
 | 0=>fun b=>by first|cases b|(rw [iU] at b; cases b)
 | n+1=>Q4 n (Ij n)
def B4 (b:(Sl aj)) (f:(Sl aj)):Option Bool:=iU F0 b f
theorem Ik {b f:Sl aj}{w0 g:Option Nat}{r:Bool}(i:B4 b f=some r) (H:ag) :AC Tryz.prog 11 [.d (Sl.d 9 aj.c w0 b),.d (Sl.d 9 aj.c g f)] H fun v h'=>v=.a (.d (.bool r))/\h'=H:=(Ij F0) i H 
def xf (b:(Sl aj)) (f:(Sl aj)):Option Bool:=iU F0 b f
theorem Q5 (a0:(Sl aj)) (a1:(Sl aj)):B4 a0 a1=xf a0 a1:=rfl
def Tryz.Q6:Go.Shelf.Ren:=⟨fun|171=>71|243=>125|246=>180|283=>218|284=>219|285=>220|286=>221|129=>250|317=>249|318=>251|319=>252|320=>253|337=>270|338=>271|n=>n,fun|3=>3|9=>9|2=>2|4=>4|171=>256|0=>0|53=>257|37=>128|5=>5|173=>260|212=>286|51=>266|20=>20|213=>287|46=>190|232=>308|233=>309|n=>n,fun|17=>4|18=>5|19=>6|n=>n⟩
theorem Tryz.Q7:Go.Proofs.LaysM.n171 Tryz.prog Tryz.Q6:={
 mixed:=by kernel_rfl
 f129:=Tryz.func250.trans (congrArg some (by kernel_rfl))
 f171:=Tryz.func71.trans (congrArg some (by kernel_rfl))
 f243:=Tryz.func125.trans (congrArg some (by kernel_rfl))
 f246:=Tryz.func180.trans (congrArg some (by kernel_rfl))
 f283:=Tryz.func218.trans (congrArg some (by kernel_rfl))
 f284:=Tryz.func219.trans (congrArg some (by kernel_rfl))
 f285:=Tryz.func220.trans (congrArg some (by kernel_rfl))
 f286:=Tryz.func221.trans (congrArg some (by kernel_rfl))
 f317:=Tryz.func249.trans (congrArg some (by kernel_rfl))
 f318:=Tryz.func251.trans (congrArg some (by kernel_rfl))
 f319:=Tryz.func252.trans (congrArg some (by kernel_rfl))
 f320:=Tryz.func253.trans (congrArg some (by kernel_rfl))
 f337:=Tryz.func270.trans (congrArg some (by kernel_rfl))
 f338:=Tryz.func271.trans (congrArg some (by kernel_rfl))
 t0:=Tryz.underlying0
 a0:=Tryz.isAgg0
 z0:=Tryz.sizeOf0
 v0:=Tryz.zeroValue0
 t2:=Tryz.underlying2
 a2:=Tryz.isAgg2
 z2:=Tryz.sizeOf2
 v2:=Tryz.zeroValue2
 t3:=Tryz.underlying3
 a3:=Tryz.isAgg3
 z3:=Tryz.sizeOf3
 v3:=Tryz.zeroValue3
 t4:=Tryz.underlying4
 a4:=Tryz.isAgg4
 z4:=Tryz.sizeOf4
 v4:=Tryz.zeroValue4
 t5:=Tryz.underlying5
 a5:=Tryz.isAgg5
 z5:=Tryz.sizeOf5
 v5:=Tryz.zeroValue5
 t9:=Tryz.underlying9
 a9:=Tryz.isAgg9
 z9:=Tryz.sizeOf9
 v9:=Tryz.zeroValue9
 t20:=Tryz.underlying20
 a20:=Tryz.isAgg20
 z20:=Tryz.sizeOf20
 v20:=Tryz.zeroValue20
 t37:=Tryz.underlying128
 a37:=Tryz.isAgg128
 z37:=Tryz.sizeOf128
 v37:=Tryz.zeroValue128
 t46:=Tryz.underlying190
 a46:=Tryz.isAgg190
 z46:=Tryz.sizeOf190
 v46:=Tryz.zeroValue190
 t51:=Tryz.underlying266
 a51:=Tryz.isAgg266
 z51:=Tryz.sizeOf266
 v51:=Tryz.zeroValue266
 t53:=Tryz.underlying257
 a53:=Tryz.isAgg257
 z53:=Tryz.sizeOf257
 v53:=Tryz.zeroValue257
 t171:=Tryz.underlying256
 a171:=Tryz.isAgg256
 z171:=Tryz.sizeOf256
 v171:=Tryz.zeroValue256
 t173:=Tryz.underlying260
 a173:=Tryz.isAgg260
 z173:=Tryz.sizeOf260
 v173:=Tryz.zeroValue260
 t212:=Tryz.underlying286
 a212:=Tryz.isAgg286
 z212:=Tryz.sizeOf286
 v212:=Tryz.zeroValue286
 t213:=Tryz.underlying287
 a213:=Tryz.isAgg287
 z213:=Tryz.sizeOf287
 t232:=Tryz.underlying308
 a232:=Tryz.isAgg308
 z232:=Tryz.sizeOf308
 v232:=Tryz.zeroValue308
 t233:=Tryz.underlying309
 a233:=Tryz.isAgg309
 z233:=Tryz.sizeOf309
 v233:=Tryz.zeroValue309
 g17:=by kernel_rfl
 g18:=by kernel_rfl
 g19:=by kernel_rfl
 i0:=by kernel_rfl
 i2:=by kernel_rfl
 i3:=by kernel_rfl
 i4:=by kernel_rfl
 i5:=by kernel_rfl
 i9:=by kernel_rfl
 i20:=by kernel_rfl
 i37:=by kernel_rfl
 i46:=by kernel_rfl
 i51:=by kernel_rfl
 i53:=by kernel_rfl
 i171:=by kernel_rfl
 i173:=by kernel_rfl
 i212:=by kernel_rfl
 i232:=by kernel_rfl
 i233:=by kernel_rfl
 m17:=by kernel_rfl
 m18:=by kernel_rfl
 m19:=by kernel_rfl }
def ul (n:Int):Option Bs:=if -9223372036854775808<=n/\n<=9223372036854775807/\(Lib.itoa n).length<=eH then some (Lib.itoa n) else none
def B5 (n:Int):Option Bs:=ul n
theorem Q8 (n:Int):ul n=B5 n:=rfl
theorem Q9 {f:Int}{oT:Ab.Obj}{gT:Nat}{r:Bs}(b:ul f=some r) (H:ag) (g:H gT=some oT) (i:ia Tryz.prog oT):AC Tryz.prog 71 [.d (.int .i64 f)] H fun v h'=>v=.a (.d (.str r))/\h'=H:=by
 unfold ul at b
 split at b
 ·rename_i h
  obtain rfl:=oJ b;exact NH Tryz.Q7 h.1 h.2.1 rfl g i h.2.2
 cases b
def ng (f:Int):Option Bs:=(B5 f).bind fun b=>some b
def xg (b:Int):Option Bs:=ng b
theorem B6 (a0:Int):xg a0=ng a0:=rfl
theorem B7 {f:Int}{oT:Ab.Obj}{gT:Nat}{r:Bs}(b:xg f=some r) (H:ag) (i:H gT=some oT) (j:ia Tryz.prog oT):AC Tryz.prog 35 [.d (.int .i64 f)] H fun v h'=>v=.a (.d (.str r))/\h'=H:=by
 unfold xg ng at b;refine AC.oW 5 [.tmp 2] Tryz.call35 Tryz.func35 ?_;refine aa (S As (nil ?_));refine aa (S Mv ?_);obtain⟨k,g,b⟩:=qT (Q8 _) b;refine s0 (gD rfl rfl (Q9 (gT:=gT) (oT:=oT) g _ aJ (by assumption))) rfl ?_;refine S As (nil ?_);exact rt b
section
variable [gM an]
def Tryz.Il:Go.Shelf.Ren:=⟨fun|159=>36|165=>72|166=>73|167=>74|169=>75|230=>76|204=>77|240=>126|241=>127|197=>128|118=>129|168=>130|270=>131|262=>132|276=>181|277=>182|260=>183|242=>184|313=>185|278=>222|274=>223|275=>224|n=>n,fun|9=>9|4=>4|3=>3|5=>5|72=>130|0=>0|76=>134|75=>133|107=>139|70=>127|20=>20|37=>128|127=>181|21=>21|105=>182|164=>219|162=>225|203=>223|119=>262|46=>190|139=>265|138=>264|51=>266|160=>267|208=>292|206=>290|80=>137|n=>n,fun|13=>0|3=>2|4=>3|n=>n⟩
theorem Tryz.Q_:Go.Proofs.Lays.n159 Tryz.prog Tryz.Il:={
 mixed:=by kernel_rfl
 f118:=Tryz.func129.trans (congrArg some (by kernel_rfl))
 f159:=Tryz.func36.trans (congrArg some (by kernel_rfl))
 f165:=Tryz.func72.trans (congrArg some (by kernel_rfl))
 f166:=Tryz.func73.trans (congrArg some (by kernel_rfl))
 f167:=Tryz.func74.trans (congrArg some (by kernel_rfl))
 f168:=Tryz.func130.trans (congrArg some (by kernel_rfl))
 f169:=Tryz.func75.trans (congrArg some (by kernel_rfl))
 f197:=Tryz.func128.trans (congrArg some (by kernel_rfl))
 f204:=Tryz.func77.trans (congrArg some (by kernel_rfl))
 f230:=Tryz.func76.trans (congrArg some (by kernel_rfl))
 f240:=Tryz.func126.trans (congrArg some (by kernel_rfl))
 f241:=Tryz.func127.trans (congrArg some (by kernel_rfl))
 f242:=Tryz.func184.trans (congrArg some (by kernel_rfl))
 f260:=Tryz.func183.trans (congrArg some (by kernel_rfl))
 f262:=Tryz.func132.trans (congrArg some (by kernel_rfl))
 f270:=Tryz.func131.trans (congrArg some (by kernel_rfl))
 f274:=Tryz.func223.trans (congrArg some (by kernel_rfl))
 f275:=Tryz.func224.trans (congrArg some (by kernel_rfl))
 f276:=Tryz.func181.trans (congrArg some (by kernel_rfl))
 f277:=Tryz.func182.trans (congrArg some (by kernel_rfl))
 f278:=Tryz.func222.trans (congrArg some (by kernel_rfl))
 f313:=Tryz.func185.trans (congrArg some (by kernel_rfl))
 t0:=Tryz.underlying0
 a0:=Tryz.isAgg0
 z0:=Tryz.sizeOf0
 v0:=Tryz.zeroValue0
 t3:=Tryz.underlying3
 a3:=Tryz.isAgg3
 z3:=Tryz.sizeOf3
 v3:=Tryz.zeroValue3
 t4:=Tryz.underlying4
 a4:=Tryz.isAgg4
 z4:=Tryz.sizeOf4
 v4:=Tryz.zeroValue4
 t5:=Tryz.underlying5
 a5:=Tryz.isAgg5
 z5:=Tryz.sizeOf5
 v5:=Tryz.zeroValue5
 t9:=Tryz.underlying9
 a9:=Tryz.isAgg9
 z9:=Tryz.sizeOf9
 v9:=Tryz.zeroValue9
 t20:=Tryz.underlying20
 a20:=Tryz.isAgg20
 z20:=Tryz.sizeOf20
 v20:=Tryz.zeroValue20
 t21:=Tryz.underlying21
 a21:=Tryz.isAgg21
 z21:=Tryz.sizeOf21
 v21:=Tryz.zeroValue21
 t37:=Tryz.underlying128
 a37:=Tryz.isAgg128
 z37:=Tryz.sizeOf128
 v37:=Tryz.zeroValue128
 t46:=Tryz.underlying190
 a46:=Tryz.isAgg190
 z46:=Tryz.sizeOf190
 v46:=Tryz.zeroValue190
 t51:=Tryz.underlying266
 a51:=Tryz.isAgg266
 z51:=Tryz.sizeOf266
 v51:=Tryz.zeroValue266
 t70:=Tryz.underlying127
 a70:=Tryz.isAgg127
 z70:=Tryz.sizeOf127
 v70:=Tryz.zeroValue127
 t72:=Tryz.underlying130
 a72:=Tryz.isAgg130
 z72:=Tryz.sizeOf130
 v72:=Tryz.zeroValue130
 t75:=Tryz.underlying133
 a75:=Tryz.isAgg133
 z75:=Tryz.sizeOf133
 v75:=Tryz.zeroValue133
 t76:=Tryz.underlying134
 a76:=Tryz.isAgg134
 z76:=Tryz.sizeOf134
 v76:=Tryz.zeroValue134
 t105:=Tryz.underlying182
 a105:=Tryz.isAgg182
 z105:=Tryz.sizeOf182
 v105:=Tryz.zeroValue182
 t107:=Tryz.underlying139
 a107:=Tryz.isAgg139
 z107:=Tryz.sizeOf139
 v107:=Tryz.zeroValue139
 t119:=Tryz.underlying262
 a119:=Tryz.isAgg262
 z119:=Tryz.sizeOf262
 t127:=Tryz.underlying181
 a127:=Tryz.isAgg181
 z127:=Tryz.sizeOf181
 v127:=Tryz.zeroValue181
 t138:=Tryz.underlying264
 a138:=Tryz.isAgg264
 z138:=Tryz.sizeOf264
 v138:=Tryz.zeroValue264
 t139:=Tryz.underlying265
 a139:=Tryz.isAgg265
 z139:=Tryz.sizeOf265
 v139:=Tryz.zeroValue265
 t160:=Tryz.underlying267
 a160:=Tryz.isAgg267
 z160:=Tryz.sizeOf267
 v160:=Tryz.zeroValue267
 t162:=Tryz.underlying225
 a162:=Tryz.isAgg225
 z162:=Tryz.sizeOf225
 v162:=Tryz.zeroValue225
 t164:=Tryz.underlying219
 a164:=Tryz.isAgg219
 z164:=Tryz.sizeOf219
 v164:=Tryz.zeroValue219
 t203:=Tryz.underlying223
 a203:=Tryz.isAgg223
 z203:=Tryz.sizeOf223
 v203:=Tryz.zeroValue223
 t206:=Tryz.underlying290
 a206:=Tryz.isAgg290
 z206:=Tryz.sizeOf290
 v206:=Tryz.zeroValue290
 t208:=Tryz.underlying292
 a208:=Tryz.isAgg292
 z208:=Tryz.sizeOf292
 v208:=Tryz.zeroValue292
 g3:=by kernel_rfl
 g4:=by kernel_rfl
 g13:=by kernel_rfl }
theorem Tryz.Ra:Builder.Extra Tryz.prog Tryz.Il where
 sizeBuilder:=by kernel_rfl
 liesBuilder:=by kernel_rfl
 t5:=Tryz.underlying5
 a5:=Tryz.isAgg5
 z5:=Tryz.sizeOf5
 v5:=Tryz.zeroValue5
 infoByte:=by kernel_rfl
 cellsByte:=by kernel_rfl
 sizeByte:=by kernel_rfl
 neB5:=by decide
def B8 (s:Bs):Option Bs:=zu s
def um (s:Bs):Option Bs:=B8 s
theorem Rb (s:Bs):B8 s=um s:=rfl
theorem Rc {b r:Bs}(f:B8 b=some r) (H:ag):AC Tryz.prog 36 [.d (.str b)] H fun v h'=>v=.a (.d (.str r))/\h'=H:=NY Tryz.Q_ Tryz.Ra f rfl
end
end Go.Proofs
namespace Go.Proofs
open Go Go.Ab
open aS aq ah aU dV
variable {an:bf}
def Tryz.Re:Go.Shelf.Ren:=⟨fun|240=>126|276=>181|n=>n,fun|0=>0|4=>4|9=>9|20=>20|70=>127|72=>130|164=>219|37=>128|n=>n,fun|n=>n⟩
theorem Tryz.Rf:Go.Proofs.Lays.n240 Tryz.prog Tryz.Re:={
 mixed:=by kernel_rfl
 f240:=Tryz.func126.trans (congrArg some (by kernel_rfl))
 f276:=Tryz.func181.trans (congrArg some (by kernel_rfl))
 t0:=Tryz.underlying0
 a0:=Tryz.isAgg0
 z0:=Tryz.sizeOf0
 v0:=Tryz.zeroValue0
 t4:=Tryz.underlying4
 a4:=Tryz.isAgg4
 z4:=Tryz.sizeOf4
 v4:=Tryz.zeroValue4
 t9:=Tryz.underlying9
 a9:=Tryz.isAgg9
 z9:=Tryz.sizeOf9
 v9:=Tryz.zeroValue9
 t20:=Tryz.underlying20
 a20:=Tryz.isAgg20
 z20:=Tryz.sizeOf20
 v20:=Tryz.zeroValue20
 t70:=Tryz.underlying127
 a70:=Tryz.isAgg127
 z70:=Tryz.sizeOf127
 v70:=Tryz.zeroValue127
 t72:=Tryz.underlying130
 a72:=Tryz.isAgg130
 z72:=Tryz.sizeOf130
 v72:=Tryz.zeroValue130
 t164:=Tryz.underlying219
 a164:=Tryz.isAgg219
 z164:=Tryz.sizeOf219
 v164:=Tryz.zeroValue219 }
def Im (b:bx):Option bx:=some ⟨true,b.bR⟩
def uo (b:bx):Option bx:=some ⟨true,b.bR⟩
theorem Io (a0:bx):Im a0=uo a0:=rfl
theorem Ip {g:bx}{f b:Nat}{r:bx}(i:Im g=some r) (H:ag) (j:H f=some (.b_ 130 (bx.cg f (some b) g))) (k:H b=some (.tok 1 g.bR.l.length (some 5))):AC Tryz.prog 126 [.d (.ptr f 0)] H fun v h'=>v=.dM []/\h'=((H.set b (some (.tok 1 r.bR.l.length (some 5)))).set f (some (.b_ 130 (bx.cg f (some b) r)))):=by
 obtain rfl:=oJ i;refine(NL (T:=130) Tryz.Rf ⟨by kernel_rfl,by kernel_rfl⟩ rfl rfl j).mono fun v h' e=>⟨e.1, ?_⟩;rw [e.2];show _=ag.set (ag.set H b _) _ _;rw [ag.nB H b _ k]
def fW (i:bx) (f:Bs):Option (Int×Unit×bx):=(uo i).bind fun b=>(bp 1 b.bR (pO f)).bind fun g=>some (((f.length:Nat):Int),(),(bx.mk b.qZ g))
def B9 (b:bx) (f:Bs):Option (Int×Unit×bx):=fW b f
theorem kZ (a0:bx) (a1:Bs):B9 a0 a1=fW a0 a1:=rfl
theorem k7 {i:bx}{m:Bs}{b f:Nat}{r:Int×Unit×bx}(g:B9 i m=some r) (H:ag) (s:H b=some (.b_ 130 (bx.cg b (some f) i))) (t:H f=some (.tok 1 i.bR.l.length (some 5))):AC Tryz.prog 73 [.d (.ptr b 0),.d (.str m)] H fun v h'=>v=.dM [.d (.int .i64 r.1),.d (.nilIface)]/\h'=((H.set f (some (.tok 1 r.2.2.bR.l.length (some 5)))).set b (some (.b_ 130 (bx.cg b (some f) r.2.2)))):=by
 unfold B9 fW at g;refine AC.oW 19 [.tmp 4,.tmp 5] Tryz.call73 Tryz.func73 ?_;have u:b≠f:=fun o=>by subst o; simp_all
 refine ah.ga (h':=((H.set f (some (.tok 1 i.bR.l.length (some 5)))).set b (some (.b_ 130 (bx.cg b (some f) i))))) (by funext n_; simp only [ag.set]; (repeat' split)<;>simp_all) ?_;refine aa (S As (S As (nil ?_)));refine aa (S Mv ?_);obtain⟨j,p,g⟩:=qT (Io _) g;refine sH (cU rfl rfl (Ip p _ aJ aJ)) rfl ?_;refine hq ((H.set f (some (.tok 1 j.bR.l.length (some 5)))).set b (some (.b_ 130 (bx.cg b (some f) j)))) ?_
 refine nil ?_;refine aa (S Mv (S Mv (S NP ?_)));refine s0 (dr (TK rfl) rfl rfl (TK rfl) rfl rfl) rfl ?_;refine s0 (FN (TK rfl) rfl rfl aJ rfl) rfl ?_;refine S Mv ?_;obtain⟨k,q,g⟩:=qT rfl g;refine sH (NT (TK rfl) rfl (TK rfl) (TK rfl) rfl rfl rfl rfl rfl rfl rfl aJ rfl rfl q) rfl ?_;refine hq ((H.set f (some (.tok 1 k.l.length (some 5)))).set b (some (.b_ 130 (bx.cg b (some f) j)))) ?_
 refine S NP ?_;refine s0 (dr (TK rfl) rfl rfl (TK rfl) rfl rfl) rfl ?_;refine iK (FO (TK rfl) rfl rfl aJ rfl (by repeat (first|exact dG.zero|apply dG.succ))) rfl rfl ?_;refine hq ((H.set f (some (.tok 1 k.l.length (some 5)))).set b (some (.b_ 130 (bx.cg b (some f) (bx.mk j.qZ k))))) ?_;refine nil ?_;refine aa (S Mv ?_);refine kE (TK rfl) rfl rfl rfl rfl fun w=>?_
 refine S As (S As (nil ?_));exact rt g
def Tryz.Iq:Go.Shelf.Ren:=⟨fun|169=>75|n=>n,fun|70=>127|9=>9|0=>0|72=>130|37=>128|127=>181|3=>3|5=>5|n=>n,fun|n=>n⟩
theorem Tryz.Rg:Go.Proofs.Lays.n169 Tryz.prog Tryz.Iq:={
 mixed:=by kernel_rfl
 f169:=Tryz.func75.trans (congrArg some (by kernel_rfl))
 t0:=Tryz.underlying0
 a0:=Tryz.isAgg0
 z0:=Tryz.sizeOf0
 v0:=Tryz.zeroValue0
 t3:=Tryz.underlying3
 a3:=Tryz.isAgg3
 z3:=Tryz.sizeOf3
 v3:=Tryz.zeroValue3
 t9:=Tryz.underlying9
 a9:=Tryz.isAgg9
 z9:=Tryz.sizeOf9
 v9:=Tryz.zeroValue9
 t37:=Tryz.underlying128
 a37:=Tryz.isAgg128
 z37:=Tryz.sizeOf128
 v37:=Tryz.zeroValue128
 t70:=Tryz.underlying127
 a70:=Tryz.isAgg127
 z70:=Tryz.sizeOf127
 v70:=Tryz.zeroValue127
 t72:=Tryz.underlying130
 a72:=Tryz.isAgg130
 z72:=Tryz.sizeOf130
 v72:=Tryz.zeroValue130
 t127:=Tryz.underlying181
 a127:=Tryz.isAgg181
 z127:=Tryz.sizeOf181
 v127:=Tryz.zeroValue181 }
theorem Tryz.Rh:Builder.Extra Tryz.prog Tryz.Iq where
 sizeBuilder:=by kernel_rfl
 liesBuilder:=by kernel_rfl
 t5:=Tryz.underlying5
 a5:=Tryz.isAgg5
 z5:=Tryz.sizeOf5
 v5:=Tryz.zeroValue5
 infoByte:=by kernel_rfl
 cellsByte:=by kernel_rfl
 sizeByte:=by kernel_rfl
 neB5:=by decide
def Ir (b:bx):Option Bs:=tJ b
def qi (b:bx):Option Bs:=tJ b
theorem Is (a0:bx):Ir a0=qi a0:=rfl
theorem It {f:bx}{b t0:Nat}{r:Bs}(g:Ir f=some r) (H:ag) (i:H b=some (.b_ 130 (bx.cg b (some t0) f))) (j:H t0=some (.tok 1 f.bR.l.length (some 5))):AC Tryz.prog 75 [.d (.ptr b 0)] H fun v h'=>v=.a (.d (.str r))/\h'=(H.set t0 none).set b none:=NQ Tryz.Rg Tryz.Rh rfl rfl rfl g i j
def iV (g:bx) (i:Int):Option (Unit×bx):=(uo g).bind fun b=>(bp 1 b.bR (⟨false,[i]⟩:Sl Int)).bind fun f=>some ((),(bx.mk b.qZ f))
def B_ (b:bx) (f:Int):Option (Unit×bx):=iV b f
theorem qj (a0:bx) (a1:Int):B_ a0 a1=iV a0 a1:=rfl
theorem qk {i:bx}{m:Int}{b f:Nat}{r:Unit×bx}(g:B_ i m=some r) (H:ag) (s:H b=some (.b_ 130 (bx.cg b (some f) i))) (t:H f=some (.tok 1 i.bR.l.length (some 5))):AC Tryz.prog 74 [.d (.ptr b 0),.d (.int .u8 m)] H fun v h'=>v=.a (.d (.nilIface))/\h'=((H.set f (some (.tok 1 r.2.bR.l.length (some 5)))).set b (some (.b_ 130 (bx.cg b (some f) r.2)))):=by
 unfold B_ iV at g;refine AC.oW 17 [.tmp 4] Tryz.call74 Tryz.func74 ?_;have u:b≠f:=fun o=>by subst o; simp_all
 refine ah.ga (h':=((H.set f (some (.tok 1 i.bR.l.length (some 5)))).set b (some (.b_ 130 (bx.cg b (some f) i))))) (by funext n_; simp only [ag.set]; (repeat' split)<;>simp_all) ?_;refine aa (S As (nil ?_));refine aa (S Mv ?_);obtain⟨j,p,g⟩:=qT (Io _) g;refine sH (cU rfl rfl (Ip p _ aJ aJ)) rfl ?_;refine hq ((H.set f (some (.tok 1 j.bR.l.length (some 5)))).set b (some (.b_ 130 (bx.cg b (some f) j)))) ?_
 refine nil ?_;refine aa (S Mv (S Mv (S NP ?_)));refine s0 (dr (TK rfl) rfl rfl (TK rfl) rfl rfl) rfl ?_;refine s0 (FN (TK rfl) rfl rfl aJ rfl) rfl ?_;refine S Mv (S BV ?_);obtain⟨k,q,g⟩:=qT rfl g;refine sH (NS (TK rfl) rfl (TK rfl) (TK rfl) ⟨_,rfl⟩ rfl rfl (by decide) rfl rfl rfl rfl aJ rfl rfl q) rfl ?_;refine hq ((H.set f (some (.tok 1 k.l.length (some 5)))).set b (some (.b_ 130 (bx.cg b (some f) j)))) ?_
 refine S NP ?_;refine s0 (dr (TK rfl) rfl rfl (TK rfl) rfl rfl) rfl ?_;refine iK (FO (TK rfl) rfl rfl aJ rfl (by repeat (first|exact dG.zero|apply dG.succ))) rfl rfl ?_;refine hq ((H.set f (some (.tok 1 k.l.length (some 5)))).set b (some (.b_ 130 (bx.cg b (some f) (bx.mk j.qZ k))))) ?_;refine nil ?_;refine aa (S As (nil ?_));exact rt g
def k8 :List UInt8->bx->Option (bx)
 | [],f=>some f
 | g::i,f=>on (g) fun b=>on (bif (decide (((b.toNat:Nat):Int)=(34:Int))) then((decide (((b.toNat:Nat):Int)=(34:Int)))) else((decide (((b.toNat:Nat):Int)=(92:Int))))) fun j=>Option.bind (bif j then((iV f (92:Int)).bind fun k=>(iV k.2 ((b.toNat:Nat):Int)).bind fun l=>some l.2) else(bif (decide (((b.toNat:Nat):Int)=(10:Int))) then((fW f ([92,110]:Bs)).bind fun m=>some m.2.2) else(bif (decide (((b.toNat:Nat):Int)=(13:Int))) then((fW f ([92,114]:Bs)).bind fun o=>some o.2.2) else(bif (decide (((b.toNat:Nat):Int)=(9:Int))) then((fW f ([92,116]:Bs)).bind fun p=>some p.2.2) else(bif ((decide ((32:Int)<=((b.toNat:Nat):Int)))&&(decide (((b.toNat:Nat):Int)<=(126:Int)))) then((iV f ((b.toNat:Nat):Int)).bind fun q=>some q.2) else((fW f ([92,117,48,48]:Bs)).bind fun r=>(cq ([48,49,50,51,52,53,54,55,56,57,97,98,99,100,101,102]:Bs) (Int.fdiv ((b.toNat:Nat):Int) (2 ^ (min (Int.toNat 4) (IntKind.bits .u8))))).bind fun s=>(iV r.2.2 ((s.toNat:Nat):Int)).bind fun t=>(cq ([48,49,50,51,52,53,54,55,56,57,97,98,99,100,101,102]:Bs) (IntKind.wrap .u8 ((BitVec.ofInt (IntKind.bits .u8) ((b.toNat:Nat):Int) &&& BitVec.ofInt (IntKind.bits .u8) (15:Int)).toNat:Int))).bind fun u=>(iV t.2 ((u.toNat:Nat):Int)).bind fun v=>some v.2)))))) fun w=>k8  (i) w
def oy (k:Bs):Option Bs:=(iV bx.zero (34:Int)).bind fun b=>Option.bind (k8  k b.2) fun f=>on (f) fun g=>(iV g (34:Int)).bind fun i=>(qi i.2).bind fun j=>some j
def xh (b:Bs):Option Bs:=oy b
theorem Iu (a0:Bs):xh a0=oy a0:=rfl
theorem Iv {m r:Bs}(b:xh m=some r) (H:ag) :AC Tryz.prog 79 [.d (.str m)] H fun v h'=>v=.a (.d (.str r))/\h'=H:=by
 unfold xh oy at b;refine AC.oW 51 [.tmp 2] Tryz.call79 Tryz.func79 ?_;refine aa (S As (nil ?_));refine aa ?_;refine aS.tokE 1 5 fun f aL=>?_;refine sE (dZ.FP (TK rfl) rfl) rfl (fun _ _ _ ⟨g,I,U,W,X⟩=>?_); subst U W X;obtain⟨aM,I⟩:=ag.hG I;refine aS.FQ g _ aJ (fun j w cs hh hx=>tok_cell 1 1 1 hh (t:=f) aJ hx rfl) ?_
 refine hq ((H.set f (some (.tok 1 0 (some 5)))).set g (some (.b_ 130 (bx.cg g (some f) bx.zero)))) ?_;refine nil ?_;refine aa ?_;obtain⟨q,Y,b⟩:=qT (qj _ _) b;refine sH (cU rfl rfl (qk Y _ aJ aJ)) rfl ?_;refine hq ((H.set f (some (.tok 1 q.2.bR.l.length (some 5)))).set g (some (.b_ 130 (bx.cg g (some f) q.2)))) ?_
 refine nil ?_;refine aP (TA 3 kN) (fun(z:bx)=>[]) (fun z=>((H.set f (some (.tok 1 z.bR.l.length (some 5)))).set g (some (.b_ 130 (bx.cg g (some f) z))))) (fun z=>((iV z (34:Int)).bind fun o=>(qi o.2).bind fun J=>some J)=some r) ?_ ?_
 ·intro aN Z;refine aa (S Mv ?_);refine kE (TK rfl) rfl rfl rfl rfl fun aO=>?_;refine S Mv (nil ?_);refine block ?_;obtain⟨s,ab,b⟩:=cG b;refine bD (TA 0 (TA 3 (TA 8 kN))) (fun(z:Nat×bx)=>[(9,.a (.d (.int .i64 ((z.1:Nat):Int))))]) (fun z=>((H.set f (some (.tok 1 z.2.bR.l.length (some 5)))).set g (some (.b_ 130 (bx.cg g (some f) z.2))))) (fun z=>m.length-z.1) (fun z=>Option.bind (k8  (m.drop z.1) z.2) s=some r) (0,q.2) b wA ?_
  rintro ⟨u,p⟩ b aQ ad;try dsimp only at b
  refine aa (S BI (nil ?_));refine ay fun ae K=>?_;refine ah.cL (fun l=>Option.bind (k8  l p) s=some r) b rfl (fun aR L x b=>?_) (fun x b=>?_)
  ·rw [k8] at b;try dsimp only at x
   have aT:=oD x;refine sk K ?_;clear K ae;refine aP (TA 0 (TA 3 (TA 8 (TA 9 kN)))) (fun(z:bx)=>[]) (fun z=>((H.set f (some (.tok 1 z.bR.l.length (some 5)))).set g (some (.b_ 130 (bx.cg g (some f) z))))) (fun z=>Option.bind (k8  (m.drop (u+1)) z) s=some r) ?_ ?_
   ·intro aV i;refine block ?_;refine aa (S Mv (S As (nil ?_)));refine aa (S Mv (S Mv ?_));obtain⟨M,af,b⟩:=vO L b;refine s0 (mm (n:=u) (TK rfl) rfl rfl rfl af) rfl ?_;refine S As (nil ?_);refine aa (S Mv (nil ?_));refine block ?_;obtain⟨ai,aj,b⟩:=gP b;refine aP (TA 0 (TA 3 (TA 5 (TA 8 (TA 9 (TA 15 kN)))))) (fun(z:Bool)=>[(33,.a (.d (.bool z)))]) (fun z=>((H.set f (some (.tok 1 p.bR.l.length (some 5)))).set g (some (.b_ 130 (bx.cg g (some f) p))))) (fun z=>ai z=some r) ?_ ?_
    ·intro aW N;refine aa (S BI (S As (nil ?_)));refine cP b (fun ak b=>?_) (fun ak b=>?_)
     ·refine ah.skip ?_;exact N _ (decide (((M.toNat:Nat):Int)=(34:Int))) wA b
     refine region ?_;refine S BI (S As (nil ?_));exact N _ (decide (((M.toNat:Nat):Int)=(92:Int))) wA b
    rintro aX b;try dsimp only at b
    have b:=ku aj b;obtain⟨aY,k,b⟩:=eG b;refine cO b (fun al b=>?_) (fun al b=>?_)
    ·refine aa ?_;obtain⟨O,am,b⟩:=qO (qj _ _) b;refine sH (cU rfl rfl (qk am _ aJ aJ)) rfl ?_;refine hq ((H.set f (some (.tok 1 O.2.bR.l.length (some 5)))).set g (some (.b_ 130 (bx.cg g (some f) O.2)))) ?_;refine nil ?_;refine region ?_;refine S Mv ?_;obtain⟨y,an,b⟩:=qO (qj _ _) b;refine sH (cU rfl rfl (qk an _ aJ aJ)) rfl ?_
     refine hq ((H.set f (some (.tok 1 y.2.bR.l.length (some 5)))).set g (some (.b_ 130 (bx.cg g (some f) y.2)))) ?_;refine nil ?_;have b:=ku k b;exact i _ y.2 wA b
    refine aa (S BI (S As (nil ?_)));refine cO b (fun ao b=>?_) (fun ao b=>?_)
    ·refine region ?_;obtain⟨B,ap,b⟩:=qO (kZ _ _) b;refine sH (cU rfl rfl (k7 ap _ aJ aJ)) rfl ?_;refine hq ((H.set f (some (.tok 1 B.2.2.bR.l.length (some 5)))).set g (some (.b_ 130 (bx.cg g (some f) B.2.2)))) ?_;refine nil ?_;have b:=ku k b;exact i _ B.2.2 wA b
    refine aa (S BI (S As (nil ?_)));refine cO b (fun ar b=>?_) (fun ar b=>?_)
    ·refine region ?_;obtain⟨C,au,b⟩:=qO (kZ _ _) b;refine sH (cU rfl rfl (k7 au _ aJ aJ)) rfl ?_;refine hq ((H.set f (some (.tok 1 C.2.2.bR.l.length (some 5)))).set g (some (.b_ 130 (bx.cg g (some f) C.2.2)))) ?_;refine nil ?_;have b:=ku k b;exact i _ C.2.2 wA b
    refine aa (S BI (S As (nil ?_)));refine cO b (fun av b=>?_) (fun av b=>?_)
    ·refine region ?_;obtain⟨E,aw,b⟩:=qO (kZ _ _) b;refine sH (cU rfl rfl (k7 aw _ aJ aJ)) rfl ?_;refine hq ((H.set f (some (.tok 1 E.2.2.bR.l.length (some 5)))).set g (some (.b_ 130 (bx.cg g (some f) E.2.2)))) ?_;refine nil ?_;have b:=ku k b;exact i _ E.2.2 wA b
    refine ay fun ax P=>?_;refine aa (S Mv (S BI (S Mv (G0 Mv ?_))));refine G1 19 rfl BI ?_;refine S PA (nil ?_);refine cO b (fun az b=>?_) (fun az b=>?_)
    ·refine aa (S Mv ?_);obtain⟨F,aA,b⟩:=qO (qj _ _) b;refine sH (cU rfl rfl (qk aA _ aJ aJ)) rfl ?_;refine hq ((H.set f (some (.tok 1 F.2.bR.l.length (some 5)))).set g (some (.b_ 130 (bx.cg g (some f) F.2)))) ?_;refine nil ?_;refine ah.exit ?_;have b:=ku k b;exact i _ F.2 wA b
    refine sk P ?_;clear P ax;refine aa ?_;obtain⟨Q,aB,b⟩:=qO (kZ _ _) b;refine sH (cU rfl rfl (k7 aB _ aJ aJ)) rfl ?_;refine hq ((H.set f (some (.tok 1 Q.2.2.bR.l.length (some 5)))).set g (some (.b_ 130 (bx.cg g (some f) Q.2.2)))) ?_;refine nil ?_;refine aa (S Mv ?_);refine s0 (NU rfl rfl (by decide)) rfl ?_;obtain⟨aZ,aC,b⟩:=qO rfl b
    refine s0 (Fi (TK rfl) rfl rfl rfl aC) rfl ?_;obtain⟨R,aD,b⟩:=qO (qj _ _) b;refine sH (cU rfl rfl (qk aD _ aJ aJ)) rfl ?_;refine hq ((H.set f (some (.tok 1 R.2.bR.l.length (some 5)))).set g (some (.b_ 130 (bx.cg g (some f) R.2)))) ?_;refine nil ?_;refine region ?_;refine S Mv ?_;refine s0 (qV rfl rfl) rfl ?_;obtain⟨a0,aE,b⟩:=qO rfl b
    refine s0 (Fi (TK rfl) rfl rfl rfl aE) rfl ?_;obtain⟨G,aF,b⟩:=qO (qj _ _) b;refine sH (cU rfl rfl (qk aF _ aJ aJ)) rfl ?_;refine hq ((H.set f (some (.tok 1 G.2.bR.l.length (some 5)))).set g (some (.b_ 130 (bx.cg g (some f) G.2)))) ?_;refine nil ?_;have b:=ku k b;exact i _ G.2 wA b
   rintro aG b;try dsimp only at b
   refine region ?_;refine SI ?_;refine S Mv (nil ?_);exact ad _ ((u+1),aG) wA b (dl L)
  rw [k8] at b;have b:=ku ab b;refine ah.exit ?_;obtain⟨a1,aH,b⟩:=cC b;have b:=ku aH b;exact Z _ p wA b
 rintro a2 b;try dsimp only at b
 refine aa ?_;obtain⟨o,aI,b⟩:=qT (qj _ _) b;refine sH (cU rfl rfl (qk aI _ aJ aJ)) rfl ?_;refine hq ((H.set f (some (.tok 1 o.2.bR.l.length (some 5)))).set g (some (.b_ 130 (bx.cg g (some f) o.2)))) ?_;refine nil ?_;refine aa ?_;obtain⟨J,aK,b⟩:=qT (Is _) b;refine sH (cU rfl rfl (It aK _ aJ aJ)) rfl ?_;refine hq H ?_
 refine S As (nil ?_);exact rt b
section
variable [gM an]
def Tryz.Iw:Go.Shelf.Ren:=⟨fun|156=>134|165=>72|166=>73|169=>75|240=>126|241=>127|276=>181|277=>182|n=>n,fun|31=>56|9=>9|3=>3|4=>4|0=>0|20=>20|72=>130|76=>134|70=>127|37=>128|75=>133|127=>181|164=>219|5=>5|80=>137|n=>n,fun|n=>n⟩
theorem Tryz.Ri:Go.Proofs.Lays.n156 Tryz.prog Tryz.Iw:={
 mixed:=by kernel_rfl
 f156:=Tryz.func134.trans (congrArg some (by kernel_rfl))
 f165:=Tryz.func72.trans (congrArg some (by kernel_rfl))
 f166:=Tryz.func73.trans (congrArg some (by kernel_rfl))
 f169:=Tryz.func75.trans (congrArg some (by kernel_rfl))
 f240:=Tryz.func126.trans (congrArg some (by kernel_rfl))
 f241:=Tryz.func127.trans (congrArg some (by kernel_rfl))
 f276:=Tryz.func181.trans (congrArg some (by kernel_rfl))
 f277:=Tryz.func182.trans (congrArg some (by kernel_rfl))
 t0:=Tryz.underlying0
 a0:=Tryz.isAgg0
 z0:=Tryz.sizeOf0
 v0:=Tryz.zeroValue0
 t3:=Tryz.underlying3
 a3:=Tryz.isAgg3
 z3:=Tryz.sizeOf3
 v3:=Tryz.zeroValue3
 t4:=Tryz.underlying4
 a4:=Tryz.isAgg4
 z4:=Tryz.sizeOf4
 v4:=Tryz.zeroValue4
 t9:=Tryz.underlying9
 a9:=Tryz.isAgg9
 z9:=Tryz.sizeOf9
 v9:=Tryz.zeroValue9
 t20:=Tryz.underlying20
 a20:=Tryz.isAgg20
 z20:=Tryz.sizeOf20
 v20:=Tryz.zeroValue20
 t31:=Tryz.underlying56
 a31:=Tryz.isAgg56
 z31:=Tryz.sizeOf56
 v31:=Tryz.zeroValue56
 t37:=Tryz.underlying128
 a37:=Tryz.isAgg128
 z37:=Tryz.sizeOf128
 v37:=Tryz.zeroValue128
 t70:=Tryz.underlying127
 a70:=Tryz.isAgg127
 z70:=Tryz.sizeOf127
 v70:=Tryz.zeroValue127
 t72:=Tryz.underlying130
 a72:=Tryz.isAgg130
 z72:=Tryz.sizeOf130
 v72:=Tryz.zeroValue130
 t75:=Tryz.underlying133
 a75:=Tryz.isAgg133
 z75:=Tryz.sizeOf133
 v75:=Tryz.zeroValue133
 t76:=Tryz.underlying134
 a76:=Tryz.isAgg134
 z76:=Tryz.sizeOf134
 v76:=Tryz.zeroValue134
 t127:=Tryz.underlying181
 a127:=Tryz.isAgg181
 z127:=Tryz.sizeOf181
 v127:=Tryz.zeroValue181
 t164:=Tryz.underlying219
 a164:=Tryz.isAgg219
 z164:=Tryz.sizeOf219
 v164:=Tryz.zeroValue219 }
theorem Tryz.Rj:Builder.Extra Tryz.prog Tryz.Iw where
 sizeBuilder:=by kernel_rfl
 liesBuilder:=by kernel_rfl
 t5:=Tryz.underlying5
 a5:=Tryz.isAgg5
 z5:=Tryz.sizeOf5
 v5:=Tryz.zeroValue5
 infoByte:=by kernel_rfl
 cellsByte:=by kernel_rfl
 sizeByte:=by kernel_rfl
 neB5:=by decide
def ql (s:Sl Bs) (sep:Bs):Option Bs:=tK s sep
def xk (s:Sl Bs) (sep:Bs):Option Bs:=ql s sep
theorem Rk (s:Sl Bs) (sep:Bs):ql s sep=xk s sep:=rfl
theorem Ca {b:Sl Bs}{f:Bs}{w0:Option Nat}{r:Bs}(g:ql b f=some r) (H:ag):AC Tryz.prog 134 [.d (Sl.d 1 aM w0 b),.d (.str f)] H fun v h'=>v=.a (.d (.str r))/\h'=H:=NV Tryz.Ri Tryz.Rj g rfl
end
end Go.Proofs
namespace Go.Proofs
open Go Go.Ab
open aS aq ah aU dV
variable {an:bf}
section
variable [gM an]
def sw  (b:(Sl Bs)):Option Bs:=(ql b ([44,32]:Bs)).bind fun f=>(a_ ([91]:Bs) f).bind fun g=>(a_ g ([93]:Bs)).bind fun i=>some i
def sx (f:af) (g:af->Option Bs):Nat->(Sl Bs)->Nat->Option Bs
 | 0,_,_=>none
 | j+1,i,b=>bif (decide (((b:Nat):Int)<((f.av.l.length:Nat):Int))) then((f.av.l[b]?).bind fun k=>(g k).bind fun m=>(bp 16 i (⟨false,[m]⟩:Sl Bs)).bind fun o=>(sx f g j) o (b+1)) else(sw   i)
def sy  (b:(Sl Bs)):Option Bs:=(ql b ([44,32]:Bs)).bind fun f=>(a_ ([123]:Bs) f).bind fun g=>(a_ g ([125]:Bs)).bind fun i=>some i
def sA (b:af) (g:af->Option Bs):Nat->(Sl Bs)->Int->Option Bs
 | 0,_,_=>none
 | j+1,i,f=>bif (decide (f<(if ((b.av.l.length:Nat):Int)<((b.aF.l.length:Nat):Int) then((b.av.l.length:Nat):Int) else((b.aF.l.length:Nat):Int)))) then((cq b.aF.l f).bind fun k=>(a_ k ([58,32]:Bs)).bind fun m=>(cq b.av.l f).bind fun o=>(g o).bind fun p=>(a_ m p).bind fun q=>(bp 16 i (⟨false,[q]⟩:Sl Bs)).bind fun r=>(bY f (1:Int)).bind fun s=>(sA b g j) r s) else(sy   i)
def k9:Nat->af->Option Bs
 | 0,_=>none
 | n+1,b=>bif (decide (b.ak=(0:Int))) then(some ([110,117,108,108]:Bs)) else(bif (decide (b.ak=(1:Int))) then(bif (decide (b.bl=(0:Int))) then(some ([102,97,108,115,101]:Bs)) else(some ([116,114,117,101]:Bs))) else(bif (decide (b.ak=(2:Int))) then((xg b.bl).bind fun f=>some f) else(bif (decide (b.ak=(3:Int))) then((xh b.aV).bind fun g=>some g) else(bif (decide (b.ak=(4:Int))) then(some b.aV) else(bif (decide (b.ak=(7:Int))) then((a_ ([36]:Bs) b.aV).bind fun i=>some i) else(bif (decide (b.ak=(5:Int))) then(sx b (k9 n) (b.av.l.length+1) (Sl.nil:Sl Bs) 0) else(bif (decide (b.ak=(6:Int))) then(sA b (k9 n) F0 (Sl.nil:Sl Bs) (0:Int)) else(some ([]:Bs)))))))))
def Cb (n:Nat):Prop:=∀{a0:af}{oT:Ab.Obj}{gT:Nat}{r:Bs},k9 n a0=some r->∀(H:ag) (b:H gT=some oT) (f:ia Tryz.prog oT),AC Tryz.prog 133 [.agg (af.c a0)] H fun v h'=>v=.a (.d (.str r))/\h'=H
theorem Rl (n:Nat) (p:Cb (an:=an) n):Cb (an:=an) (n+1):=by
 intro j oT gT r b H aR aS;rw [k9] at b;refine AC.oW 87 [.tmp 2] Tryz.call133 Tryz.func133 ?_;refine ah.tok 1 fun i g=>?_;have aT:i≠gT:=fun F=>by subst F; simp_all
 refine aa (S BX (S As (nil ?_)));refine aa (S As (nil ?_));refine ah.fH 3 1 i rfl aJ ?_;refine ay fun G q=>?_;refine aa (S Fv (S Ld (nil ?_)));refine block ?_;refine aa (S BI (S As (nil ?_)));refine cE b (fun I b=>?_) (fun I b=>?_)
 ·refine aa (S As (nil ?_));refine ah.ret ?_;repeat (first|refine bM ?_|refine bN ?_)
  obtain rfl:=oJ b;refine bF.bK H rfl ⟨rfl,rfl⟩ ?_
  first|exact ag.bX g|(simp only [ag.set_set]; exact ag.bX g)
 refine aa (S BI (S As (nil ?_)));refine cE b (fun J b=>?_) (fun J b=>?_)
 ·refine ay fun K t=>?_;refine aa (S Fv (S Ld (S BI (nil ?_))));refine cE b (fun L b=>?_) (fun L b=>?_)
  ·refine aa (S As (nil ?_));refine ah.ret ?_;repeat (first|refine bM ?_|refine bN ?_)
   obtain rfl:=oJ b;refine bF.bK H rfl ⟨rfl,rfl⟩ ?_
   first|exact ag.bX g|(simp only [ag.set_set]; exact ag.bX g)
  refine sk t ?_;clear t K;refine aa (S As (nil ?_));refine ah.ret ?_;repeat (first|refine bM ?_|refine bN ?_)
  obtain rfl:=oJ b;refine bF.bK H rfl ⟨rfl,rfl⟩ ?_
  first|exact ag.bX g|(simp only [ag.set_set]; exact ag.bX g)
 refine aa (S BI (S As (nil ?_)));refine cE b (fun M b=>?_) (fun M b=>?_)
 ·refine aa (S Fv (S Ld ?_));obtain⟨aV,N,b⟩:=bO b;refine s0 (gD rfl rfl (B7 (gT:=gT) (oT:=oT) N _ aJ (by assumption))) rfl ?_;refine S As (nil ?_);refine ah.ret ?_;repeat (first|refine bM ?_|refine bN ?_)
  obtain rfl:=oJ b;refine bF.bK H rfl ⟨rfl,rfl⟩ ?_
  first|exact ag.bX g|(simp only [ag.set_set]; exact ag.bX g)
 refine aa (S BI (S As (nil ?_)));refine cE b (fun O b=>?_) (fun O b=>?_)
 ·refine aa (S Fv (S Ld ?_));obtain⟨aW,P,b⟩:=bO b;refine Sc rfl rfl (Iv P) ?_;refine S As (nil ?_);refine ah.ret ?_;repeat (first|refine bM ?_|refine bN ?_)
  obtain rfl:=oJ b;refine bF.bK H rfl ⟨rfl,rfl⟩ ?_
  first|exact ag.bX g|(simp only [ag.set_set]; exact ag.bX g)
 refine aa (S BI (S As (nil ?_)));refine cE b (fun Q b=>?_) (fun Q b=>?_)
 ·refine aa (S Fv (S Ld (S As (nil ?_))));refine ah.ret ?_;repeat (first|refine bM ?_|refine bN ?_)
  obtain rfl:=oJ b;refine bF.bK H rfl ⟨rfl,rfl⟩ ?_
  first|exact ag.bX g|(simp only [ag.set_set]; exact ag.bX g)
 refine aa (S BI (S As (nil ?_)));refine cE b (fun R b=>?_) (fun R b=>?_)
 ·refine aa (S Fv (S Ld ?_));obtain⟨aX,U,b⟩:=bO b;refine s0 (bL rfl rfl U) rfl ?_;refine S As (nil ?_);refine ah.ret ?_;repeat (first|refine bM ?_|refine bN ?_)
  obtain rfl:=oJ b;refine bF.bK H rfl ⟨rfl,rfl⟩ ?_
  first|exact ag.bX g|(simp only [ag.set_set]; exact ag.bX g)
 refine aa (S BI (S As (nil ?_)));refine cE b (fun W b=>?_) (fun W b=>?_)
 ·refine aP kN (fun(z:(Sl Bs))=>[(3,.a (.d (Sl.d 1 aM (some i) z)))]) (fun z=>(H.set i (some (.tok 1 z.l.length)))) (fun z=>sw z=some r) ?_ ?_
  ·intro aY X;refine aa (S Fv ?_);refine s0 (ck (TK rfl) rfl rfl (congrArg (fun x=>some (A.d x)) (af.di _))) rfl ?_;refine sLen (f:=af.c) (s:=j.av) (TK rfl) rfl rfl rfl rfl fun aZ=>?_;refine S Mv (nil ?_);refine block ?_;refine bD (TA 38 (TA 39 kN)) (fun(z:Nat×(Sl Bs)×Nat)=>[(3,.a (.d (Sl.d 1 aM (some i) z.2.1))),(40,.a (.d (.int .i64 ((z.2.2:Nat):Int))))]) (fun z=>(H.set i (some (.tok 1 z.2.1.l.length)))) (fun z=>z.1) (fun z=>sx j (k9 n) z.1 z.2.1 z.2.2=some r) ((j.av.l.length+1),(Sl.nil:Sl Bs),0) b wA ?_
   rintro ⟨k,Y,u⟩ b a0 Z;try dsimp only at b
   cases k with
   | zero=>cases b
   | succ k =>
     rw [sx] at b;refine aa (S BI (nil ?_));refine ay fun ab v=>?_;refine cE b (fun m b=>?_) (fun m b=>?_)
     ·try dsimp only at m
      have a1:=oD m;refine sk v ?_;clear v ab;refine ay fun ad w=>?_;refine block ?_;refine aa ?_;obtain⟨a2,ae,b⟩:=bO b;refine S (ix af.c u ae) (S Ld ?_);refine Sl ?_;refine Sf ?_;refine nil ?_;refine bH 5 _ rfl (KA 3 (KA 38 (KA 39 (KA 40 aU.nil)))) ?_;refine region ?_;refine S Mv (S Ld ?_);obtain⟨a3,ai,b⟩:=bO b;refine s0 (gD rfl rfl (p (gT:=gT) (oT:=oT) ai _ aJ (by assumption))) rfl ?_
      refine S BV ?_;obtain⟨y,aj,b⟩:=bO b;refine SH (am aM (TK rfl) rfl (TK rfl) (TK rfl) aj) ?_;refine hq (H.set i (some (.tok 1 y.l.length))) ?_;refine S As (nil ?_);refine w _ ?_;clear w ad;refine region ?_;refine SI ?_;refine S Mv (nil ?_);exact Z _ (k,y,(u+1)) wA b (nS _)
     refine ah.exit ?_;exact X _ Y wA b
  rintro a4 b;try dsimp only at b
  unfold sw at b;refine aa (S Mv ?_);obtain⟨a5,ak,b⟩:=bO b;refine Sc rfl rfl (Ca ak) ?_;obtain⟨a6,al,b⟩:=bO b;refine s0 (bL rfl rfl al) rfl ?_;obtain⟨a7,ao,b⟩:=bO b;refine s0 (bL rfl rfl ao) rfl ?_;refine S As (nil ?_);refine ah.ret ?_;repeat (first|refine bM ?_|refine bN ?_)
  obtain rfl:=oJ b;refine bF.bK H rfl ⟨rfl,rfl⟩ ?_
  first|exact ag.bX g|(simp only [ag.set_set]; exact ag.bX g)
 refine aa (S BI (S As (nil ?_)));refine cE b (fun ap b=>?_) (fun ap b=>?_)
 ·refine aP kN (fun(z:(Sl Bs))=>[(3,.a (.d (Sl.d 1 aM (some i) z)))]) (fun z=>(H.set i (some (.tok 1 z.l.length)))) (fun z=>sy z=some r) ?_ ?_
  ·intro a8 ar;refine aa (S Fv (S Ld ?_));refine sLen (f:=aM) (s:=j.aF) (TK rfl) rfl rfl rfl rfl fun a9=>?_;refine S Fv ?_;refine s0 (ck (TK rfl) rfl rfl (congrArg (fun x=>some (A.d x)) (af.di _))) rfl ?_;refine sLen (f:=af.c) (s:=j.av) (TK rfl) rfl rfl rfl rfl fun a_=>?_;refine s0 (Fl rfl rfl) rfl ?_;refine S Mv (nil ?_);refine block ?_;refine bD (TA 1 (TA 62 kN)) (fun(z:Nat×(Sl Bs)×Int)=>[(3,.a (.d (Sl.d 1 aM (some i) z.2.1))),(63,.a (.d (.int .i64 z.2.2)))]) (fun z=>(H.set i (some (.tok 1 z.2.1.l.length)))) (fun z=>z.1) (fun z=>sA j (k9 n) z.1 z.2.1 z.2.2=some r) (F0,(Sl.nil:Sl Bs),(0:Int)) b wA ?_
   rintro ⟨o,aw,a'⟩ b ba ax;try dsimp only at b
   cases o with
   | zero=>cases b
   | succ o =>
     rw [sA] at b;refine aa (S BI (nil ?_));refine ay fun az B=>?_;refine cE b (fun aA b=>?_) (fun aA b=>?_)
     ·refine sk B ?_;clear B az;refine ay fun aB C=>?_;refine block ?_;refine aa (S Mv (S As (nil ?_)));refine ah.draw rfl ?_;refine Sd Mv (Sd Fv (Sd Ld (Sd Mv ?_)));obtain⟨bb,aC,b⟩:=bO b;refine au.s0 (fI (f:=aM) (TK rfl) rfl (TK rfl) rfl rfl rfl aC) rfl ?_;refine Sd Ld ?_;obtain⟨bc,aD,b⟩:=bO b;refine au.s0 (bL rfl rfl aD) rfl ?_;refine Sd Fv ?_;refine au.s0 (ck (TK rfl) rfl rfl (congrArg (fun x=>some (A.d x)) (af.di _))) rfl ?_
      refine Sd Mv ?_;obtain⟨bd,aE,b⟩:=bO b;refine au.s0 (fI (f:=af.c) (TK rfl) rfl (TK rfl) rfl rfl rfl aE) rfl ?_;refine Sd Ld ?_;obtain⟨be,aG,b⟩:=bO b;refine au.s0 (gD rfl rfl (p (gT:=gT) (oT:=oT) aG _ aJ (by assumption))) rfl ?_;obtain⟨bf,aH,b⟩:=bO b;refine au.s0 (bL rfl rfl aH) rfl ?_;refine Sd BV ?_;obtain⟨E,aI,b⟩:=bO b;refine au.sH (pL (f:=aM) (TK rfl) rfl (TK rfl) (TK rfl) ⟨_,rfl⟩ rfl rfl (by decide) rfl rfl rfl rfl aJ rfl aI) rfl ?_
      refine au.Dh (H.set i (some (.tok 1 E.l.length))) ?_;refine Sd As ?_;refine au.nil (by decide +kernel) ?_;refine C _ ?_;clear C aB;refine region ?_;obtain⟨aK,aL,b⟩:=bO b;refine s0 (dc rfl rfl aL) rfl ?_;refine S Mv (nil ?_);exact ax _ (o,E,aK) wA b (nS _)
     refine ah.exit ?_;exact ar _ aw wA b
  rintro bg b;try dsimp only at b
  unfold sy at b;refine aa (S Mv ?_);obtain⟨bh,aN,b⟩:=bO b;refine Sc rfl rfl (Ca aN) ?_;obtain⟨bi,aO,b⟩:=bO b;refine s0 (bL rfl rfl aO) rfl ?_;obtain⟨bj,aQ,b⟩:=bO b;refine s0 (bL rfl rfl aQ) rfl ?_;refine S As (nil ?_);refine ah.ret ?_;repeat (first|refine bM ?_|refine bN ?_)
  obtain rfl:=oJ b;refine bF.bK H rfl ⟨rfl,rfl⟩ ?_
  first|exact ag.bX g|(simp only [ag.set_set]; exact ag.bX g)
 refine sk q ?_;clear q G;refine aa (S As (nil ?_));refine ah.ret ?_;repeat (first|refine bM ?_|refine bN ?_)
 obtain rfl:=oJ b;refine bF.bK H rfl ⟨rfl,rfl⟩ ?_
 first|exact ag.bX g|(simp only [ag.set_set]; exact ag.bX g)
theorem Iy:∀(n:Nat),(Cb (an:=an) n)
 | 0=>fun b=>by first|cases b|(rw [k9] at b; cases b)
 | n+1=>Rl n (Iy n)
def Cc (b:af):Option Bs:=k9 F0 b
theorem Rm {b:af}{oT:Ab.Obj}{gT:Nat}{r:Bs}(f:Cc b=some r) (H:ag) (g:H gT=some oT) (i:ia Tryz.prog oT):AC Tryz.prog 133 [.agg (af.c b)] H fun v h'=>v=.a (.d (.str r))/\h'=H:=(Iy F0) f H g i
end
section
variable [gM an]
def oz :List ax->(Sl Bs)->Option ((Sl Bs))
 | [],b=>some b
 | g::i,b=>on (g) fun f=>(a_ f.ai ([58,32]:Bs)).bind fun j=>(Cc f.cB).bind fun k=>(a_ j k).bind fun l=>(bp 16 b (⟨false,[l]⟩:Sl Bs)).bind fun m=>oz  (i) m
def qm (i:(Sl ax)):Option Bs:=Option.bind (oz  i.l (Sl.nil:Sl Bs)) fun b=>on (b) fun f=>(xk f ([44,32]:Bs)).bind fun g=>some g
def xl (b:(Sl ax)):Option Bs:=qm b
theorem Cd (a0:(Sl ax)):xl a0=qm a0:=rfl
theorem Rn {i:Sl ax}{w0:Option Nat}{oT:Ab.Obj}{gT:Nat}{r:Bs}(b:xl i=some r) (H:ag) (P:H gT=some oT) (Q:ia Tryz.prog oT):AC Tryz.prog 78 [.d (Sl.d 6 ax.c w0 i)] H fun v h'=>v=.a (.d (.str r))/\h'=H:=by
 unfold xl qm at b;refine AC.oW 25 [.tmp 2] Tryz.call78 Tryz.func78 ?_;refine ah.tok 1 fun g k=>?_;have R:g≠gT:=fun y=>by subst y; simp_all
 refine aa (S As (nil ?_));refine aa (S As (nil ?_));refine ah.fH 3 1 g rfl aJ ?_;refine aP kN (fun(z:(Sl Bs))=>[(3,.a (.d (Sl.d 1 aM (some g) z)))]) (fun z=>(H.set g (some (.tok 1 z.l.length)))) (fun z=>((xk z ([44,32]:Bs)).bind fun m=>some m)=some r) ?_ ?_
 ·intro U B;refine aa (S Mv ?_);refine sLen (f:=ax.c) (s:=i) (TK rfl) rfl rfl rfl rfl fun W=>?_;refine S Mv (nil ?_);refine block ?_;obtain⟨o,C,b⟩:=cG b;refine bD (TA 6 (TA 7 kN)) (fun(z:(Sl Bs)×Nat)=>[(3,.a (.d (Sl.d 1 aM (some g) z.1))),(8,.a (.d (.int .i64 ((z.2:Nat):Int))))]) (fun z=>(H.set g (some (.tok 1 z.1.l.length)))) (fun z=>i.l.length-z.2) (fun z=>Option.bind (oz  (i.l.drop z.2) z.1) o=some r) ((Sl.nil:Sl Bs),0) b wA ?_
  rintro ⟨p,q⟩ b X E;try dsimp only at b
  refine aa (S BI (nil ?_));refine ay fun F t=>?_;refine ah.cL (fun l=>Option.bind (oz  l p) o=some r) b rfl (fun Y u j b=>?_) (fun j b=>?_)
  ·rw [oz] at b;try dsimp only at j
   have Z:=oD j;refine sk t ?_;clear t F;refine ay fun G w=>?_;refine block ?_;refine aa ?_;obtain⟨ab,I,b⟩:=vO u b;refine S (ix ax.c q I) (S Ld ?_);refine Sl ?_;refine Sf ?_;refine nil ?_;refine bH 5 _ rfl (KA 3 (KA 6 (KA 7 (KA 8 aU.nil)))) ?_;refine ah.draw rfl ?_;refine Sd Mv (Sd Fv (Sd Ld ?_));obtain⟨ad,J,b⟩:=qO rfl b;refine au.s0 (bL rfl rfl J) rfl ?_
   refine Sd Fv (Sd Ld ?_);obtain⟨ae,K,b⟩:=qO rfl b;refine au.s0 (gD rfl rfl (Rm (gT:=gT) (oT:=oT) K _ aJ (by assumption))) rfl ?_;obtain⟨af,L,b⟩:=qO rfl b;refine au.s0 (bL rfl rfl L) rfl ?_;refine Sd BV ?_;obtain⟨x,M,b⟩:=qO rfl b;refine au.sH (pL (f:=aM) (TK rfl) rfl (TK rfl) (TK rfl) ⟨_,rfl⟩ rfl rfl (by decide) rfl rfl rfl rfl aJ rfl M) rfl ?_;refine au.Dh (H.set g (some (.tok 1 x.l.length))) ?_
   refine Sd As ?_;refine au.nil (by decide +kernel) ?_;refine w _ ?_;clear w G;refine region ?_;refine SI ?_;refine S Mv (nil ?_);exact E _ (x,(q+1)) wA b (dl u)
  rw [oz] at b;have b:=ku C b;refine ah.exit ?_;obtain⟨ai,N,b⟩:=cC b;have b:=ku N b;exact B _ p wA b
 rintro aj b;try dsimp only at b
 refine aa (S Mv ?_);obtain⟨m,O,b⟩:=qT (Rk _ _) b;refine Sc rfl rfl (Ca O) ?_;refine S As (nil ?_);refine ah.ret ?_;repeat (first|refine bM ?_|refine bN ?_)
 obtain rfl:=oJ b;refine bF.bK H rfl ⟨rfl,rfl⟩ ?_
 first|exact ag.bX k|(simp only [ag.set_set]; exact ag.bX k)
end
section
variable [gM an]
def k_ (g:(Sl aj)->Option Bs):List aj->bx->Option (bx)
 | [],f=>some f
 | o::p,f=>on (o) fun b=>(a_ ([32]:Bs) b.bz).bind fun q=>(a_ q ([46]:Bs)).bind fun r=>(a_ r b.bn).bind fun s=>(a_ s ([58,32]:Bs)).bind fun t=>(a_ t b.ai).bind fun u=>(fW f u).bind fun i=>Option.bind (bif (decide ((0:Int)<((b.aG.l.length:Nat):Int))) then((qm b.aG).bind fun v=>(a_ ([40]:Bs) v).bind fun w=>(a_ w ([41]:Bs)).bind fun x=>(fW i.2.2 x).bind fun y=>some y.2.2) else(some i.2.2)) fun j=>Option.bind (bif (!(b.bZ==([]:Bs))) then((oy b.bZ).bind fun z=>(a_ ([32,64,100,101,102,101,114,40]:Bs) z).bind fun B=>(a_ B ([41]:Bs)).bind fun C=>(fW j C).bind fun E=>some E.2.2) else(some j)) fun k=>Option.bind (bif (!decide (b.bW=(-1:Int))) then((ng b.bW).bind fun F=>(a_ ([32,64,115,116,114,101,97,109,40]:Bs) F).bind fun G=>(a_ G ([41]:Bs)).bind fun H=>(fW k H).bind fun I=>some I.2.2) else(some k)) fun m=>Option.bind (bif (decide ((0:Int)<((b.aK.l.length:Nat):Int))) then((g b.aK).bind fun J=>(a_ ([32]:Bs) J).bind fun K=>(fW m K).bind fun L=>some L.2.2) else(some m)) fun M=>k_ g (p) M
def jZ:Nat->(Sl aj)->Option Bs
 | 0,_=>none
 | n+1,k=>(fW bx.zero ([123]:Bs)).bind fun b=>Option.bind (k_ (jZ n) k.l b.2.2) fun f=>on (f) fun g=>(fW g ([32,125]:Bs)).bind fun i=>(qi i.2.2).bind fun j=>some j
def Ce (n:Nat):Prop:=∀{a0:(Sl aj)}{w0:Option Nat}{oT:Ab.Obj}{gT:Nat}{r:Bs},jZ n a0=some r->∀(H:ag) (b:H gT=some oT) (f:ia Tryz.prog oT),AC Tryz.prog 37 [.d (Sl.d 9 aj.c w0 a0)] H fun v h'=>v=.a (.d (.str r))/\h'=H
theorem Ro (n:Nat) (U:Ce (an:=an) n):Ce (an:=an) (n+1):=by
 intro m w0 oT gT r b H a8 a9;rw [jZ] at b;refine AC.oW 65 [.tmp 2] Tryz.call37 Tryz.func37 ?_;refine aa (S As (nil ?_));refine aa ?_;refine aS.tokE 1 5 fun g a_=>?_;have a':g≠gT:=fun o=>by subst o; simp_all
 refine sE (dZ.FP (TK rfl) rfl) rfl (fun _ _ _ ⟨i,G,W,X,Y⟩=>?_); subst W X Y;obtain⟨ba,G⟩:=ag.hG G;have bb:i≠gT:=fun o=>by subst o; simp_all
 refine aS.FQ i _ aJ (fun j w cs hh hx=>tok_cell 1 1 1 hh (t:=g) aJ hx rfl) ?_;refine hq ((H.set g (some (.tok 1 0 (some 5)))).set i (some (.b_ 130 (bx.cg i (some g) bx.zero)))) ?_;refine nil ?_;refine aa ?_;obtain⟨p,Z,b⟩:=qT (kZ _ _) b;refine sH (cU rfl rfl (k7 Z _ aJ aJ)) rfl ?_;refine hq ((H.set g (some (.tok 1 p.2.2.bR.l.length (some 5)))).set i (some (.b_ 130 (bx.cg i (some g) p.2.2)))) ?_
 refine nil ?_;refine aP (TA 3 kN) (fun(z:bx)=>[]) (fun z=>((H.set g (some (.tok 1 z.bR.l.length (some 5)))).set i (some (.b_ 130 (bx.cg i (some g) z))))) (fun z=>((fW z ([32,125]:Bs)).bind fun k=>(qi k.2.2).bind fun I=>some I)=some r) ?_ ?_
 ·intro bc ab;refine aa (S Mv ?_);refine sLen (f:=aj.c) (s:=m) (TK rfl) rfl rfl rfl rfl fun bd=>?_;refine S Mv (nil ?_);refine block ?_;obtain⟨q,ad,b⟩:=cG b;refine bD (TA 3 (TA 7 (TA 8 kN))) (fun(z:Nat×bx)=>[(9,.a (.d (.int .i64 ((z.1:Nat):Int))))]) (fun z=>((H.set g (some (.tok 1 z.2.bR.l.length (some 5)))).set i (some (.b_ 130 (bx.cg i (some g) z.2))))) (fun z=>m.l.length-z.1) (fun z=>Option.bind (k_ (jZ n) (m.l.drop z.1) z.2) q=some r) (0,p.2.2) b wA ?_
  rintro ⟨u,J⟩ b be ae;try dsimp only at b
  refine aa (S BI (nil ?_));refine ay fun af K=>?_;refine ah.cL (fun l=>Option.bind (k_ (jZ n) l J) q=some r) b rfl (fun bf L v b=>?_) (fun v b=>?_)
  ·rw [k_] at b;try dsimp only at v
   have bg:=oD v;refine sk K ?_;clear K af;refine aP (TA 3 (TA 7 (TA 8 (TA 9 kN)))) (fun(z:bx)=>[]) (fun z=>((H.set g (some (.tok 1 z.bR.l.length (some 5)))).set i (some (.b_ 130 (bx.cg i (some g) z))))) (fun z=>Option.bind (k_ (jZ n) (m.l.drop (u+1)) z) q=some r) ?_ ?_
   ·intro bh M;refine block ?_;refine aa ?_;obtain⟨N,ai,b⟩:=vO L b;refine S (ix aj.c u ai) (S Ld ?_);refine Sl ?_;refine Sf ?_;refine nil ?_;refine bH 5 _ rfl (KA 3 (KA 7 (KA 8 (KA 9 aU.nil)))) ?_;refine aa (S Fv (S Ld ?_));obtain⟨bi,ak,b⟩:=qO rfl b;refine s0 (bL rfl rfl ak) rfl ?_;obtain⟨bj,al,b⟩:=qO rfl b;refine s0 (bL rfl rfl al) rfl ?_;refine S Fv (S Ld ?_)
    obtain⟨bk,am,b⟩:=qO rfl b;refine s0 (bL rfl rfl am) rfl ?_;obtain⟨bl,ao,b⟩:=qO rfl b;refine s0 (bL rfl rfl ao) rfl ?_;refine S Fv (S Ld ?_);obtain⟨bm,ap,b⟩:=qO rfl b;refine s0 (bL rfl rfl ap) rfl ?_;obtain⟨y,ar,b⟩:=qO (kZ _ _) b;refine sH (cU rfl rfl (k7 ar _ aJ aJ)) rfl ?_;refine hq ((H.set g (some (.tok 1 y.2.2.bR.l.length (some 5)))).set i (some (.b_ 130 (bx.cg i (some g) y.2.2)))) ?_
    refine nil ?_;obtain⟨au,av,b⟩:=eG b;refine aP (TA 3 (TA 5 (TA 7 (TA 8 (TA 9 kN))))) (fun(z:bx)=>[]) (fun z=>((H.set g (some (.tok 1 z.bR.l.length (some 5)))).set i (some (.b_ 130 (bx.cg i (some g) z))))) (fun z=>au z=some r) ?_ ?_
    ·intro bn O;refine aa (S Fv (S Ld ?_));refine sLen (f:=ax.c) (s:=N.aG) (TK rfl) rfl rfl rfl rfl fun bo=>?_;refine S BI (nil ?_);refine cO b (fun aw b=>?_) (fun aw b=>?_)
     ·refine region ?_;refine S Fv (S Ld ?_);obtain⟨bp,az,b⟩:=qO (Cd _) b;refine s0 (gD rfl rfl (Rn (gT:=gT) (oT:=oT) az _ aJ (by assumption))) rfl ?_;obtain⟨bq,aA,b⟩:=qO rfl b;refine s0 (bL rfl rfl aA) rfl ?_;obtain⟨br,aB,b⟩:=qO rfl b;refine s0 (bL rfl rfl aB) rfl ?_;obtain⟨B,aC,b⟩:=qO (kZ _ _) b;refine sH (cU rfl rfl (k7 aC _ aJ aJ)) rfl ?_
      refine hq ((H.set g (some (.tok 1 B.2.2.bR.l.length (some 5)))).set i (some (.b_ 130 (bx.cg i (some g) B.2.2)))) ?_;refine nil ?_;exact O _ B.2.2 wA b
     refine ah.skip ?_;exact O _ y.2.2 wA b
    rintro aD b;try dsimp only at b
    have b:=ku av b;obtain⟨aE,aF,b⟩:=eG b;refine aP (TA 3 (TA 5 (TA 7 (TA 8 (TA 9 kN))))) (fun(z:bx)=>[]) (fun z=>((H.set g (some (.tok 1 z.bR.l.length (some 5)))).set i (some (.b_ 130 (bx.cg i (some g) z))))) (fun z=>aE z=some r) ?_ ?_
    ·intro bs P;refine aa (S Fv (S Ld (S BS (nil ?_))));refine cO b (fun aH b=>?_) (fun aH b=>?_)
     ·refine region ?_;refine S Fv (S Ld ?_);obtain⟨bt,aI,b⟩:=qO (Iu _) b;refine Sc rfl rfl (Iv aI) ?_;obtain⟨bu,aL,b⟩:=qO rfl b;refine s0 (bL rfl rfl aL) rfl ?_;obtain⟨bv,aM,b⟩:=qO rfl b;refine s0 (bL rfl rfl aM) rfl ?_;obtain⟨C,aN,b⟩:=qO (kZ _ _) b;refine sH (cU rfl rfl (k7 aN _ aJ aJ)) rfl ?_;refine hq ((H.set g (some (.tok 1 C.2.2.bR.l.length (some 5)))).set i (some (.b_ 130 (bx.cg i (some g) C.2.2)))) ?_
      refine nil ?_;exact P _ C.2.2 wA b
     refine ah.skip ?_;exact P _ aD wA b
    rintro aO b;try dsimp only at b
    have b:=ku aF b;obtain⟨aQ,aR,b⟩:=eG b;refine aP (TA 3 (TA 5 (TA 7 (TA 8 (TA 9 kN))))) (fun(z:bx)=>[]) (fun z=>((H.set g (some (.tok 1 z.bR.l.length (some 5)))).set i (some (.b_ 130 (bx.cg i (some g) z))))) (fun z=>aQ z=some r) ?_ ?_
    ·intro bw Q;refine aa (S Fv (S Ld (S BI (nil ?_))));refine cO b (fun aT b=>?_) (fun aT b=>?_)
     ·refine region ?_;refine S Fv (S Ld ?_);obtain⟨bz,aV,b⟩:=qO (B6 _) b;refine s0 (gD rfl rfl (B7 (gT:=gT) (oT:=oT) aV _ aJ (by assumption))) rfl ?_;obtain⟨bA,aW,b⟩:=qO rfl b;refine s0 (bL rfl rfl aW) rfl ?_;obtain⟨bB,aX,b⟩:=qO rfl b;refine s0 (bL rfl rfl aX) rfl ?_;obtain⟨E,aY,b⟩:=qO (kZ _ _) b;refine sH (cU rfl rfl (k7 aY _ aJ aJ)) rfl ?_
      refine hq ((H.set g (some (.tok 1 E.2.2.bR.l.length (some 5)))).set i (some (.b_ 130 (bx.cg i (some g) E.2.2)))) ?_;refine nil ?_;exact Q _ E.2.2 wA b
     refine ah.skip ?_;exact Q _ aO wA b
    rintro aZ b;try dsimp only at b
    have b:=ku aR b;refine aa (S Fv ?_);refine s0 (ck (TK rfl) rfl rfl (congrArg (fun x=>some (A.d x)) (aj.gp _))) rfl ?_;refine sLen (f:=aj.c) (s:=N.aK) (TK rfl) rfl rfl rfl rfl fun bC=>?_;refine S BI (nil ?_);obtain⟨bE,R,b⟩:=eG b;refine cO b (fun a0 b=>?_) (fun a0 b=>?_)
    ·refine region ?_;refine S Fv ?_;refine s0 (ck (TK rfl) rfl rfl (congrArg (fun x=>some (A.d x)) (aj.gp _))) rfl ?_;obtain⟨bG,a1,b⟩:=qO rfl b;refine s0 (gD rfl rfl (U (gT:=gT) (oT:=oT) a1 _ aJ (by assumption))) rfl ?_;obtain⟨bI,a2,b⟩:=qO rfl b;refine s0 (bL rfl rfl a2) rfl ?_;obtain⟨F,a3,b⟩:=qO (kZ _ _) b;refine sH (cU rfl rfl (k7 a3 _ aJ aJ)) rfl ?_
     refine hq ((H.set g (some (.tok 1 F.2.2.bR.l.length (some 5)))).set i (some (.b_ 130 (bx.cg i (some g) F.2.2)))) ?_;refine nil ?_;have b:=ku R b;exact M _ F.2.2 wA b
    refine ah.skip ?_;have b:=ku R b;exact M _ aZ wA b
   rintro a4 b;try dsimp only at b
   refine region ?_;refine SI ?_;refine S Mv (nil ?_);exact ae _ ((u+1),a4) wA b (dl L)
  rw [k_] at b;have b:=ku ad b;refine ah.exit ?_;obtain⟨bJ,a5,b⟩:=cC b;have b:=ku a5 b;exact ab _ J wA b
 rintro bO b;try dsimp only at b
 refine aa ?_;obtain⟨k,a6,b⟩:=qT (kZ _ _) b;refine sH (cU rfl rfl (k7 a6 _ aJ aJ)) rfl ?_;refine hq ((H.set g (some (.tok 1 k.2.2.bR.l.length (some 5)))).set i (some (.b_ 130 (bx.cg i (some g) k.2.2)))) ?_;refine nil ?_;refine aa ?_;obtain⟨I,a7,b⟩:=qT (Is _) b;refine sH (cU rfl rfl (It a7 _ aJ aJ)) rfl ?_;refine hq H ?_
 refine S As (nil ?_);exact rt b
theorem Iz:∀(n:Nat),(Ce (an:=an) n)
 | 0=>fun b=>by first|cases b|(rw [jZ] at b; cases b)
 | n+1=>Ro n (Iz n)
def IA (b:(Sl aj)):Option Bs:=jZ F0 b
theorem Rp {b:Sl aj}{w0:Option Nat}{oT:Ab.Obj}{gT:Nat}{r:Bs}(f:IA b=some r) (H:ag) (g:H gT=some oT) (i:ia Tryz.prog oT):AC Tryz.prog 37 [.d (Sl.d 9 aj.c w0 b)] H fun v h'=>v=.a (.d (.str r))/\h'=H:=(Iz F0) f H g i
def xm (b:(Sl aj)):Option Bs:=jZ F0 b
theorem Rq (a0:(Sl aj)):IA a0=xm a0:=rfl
end
section
variable [gM an]
def qn (b:bU):Option Bs:=(ng b.ak).bind fun g=>on (ue b.ak) fun f=>Option.bind (bif (!(f==([]:Bs))) then((um f).bind fun i=>some i) else(some g)) fun j=>(a_ j ([32]:Bs)).bind fun k=>(xm b.aK).bind fun l=>(a_ k l).bind fun m=>some m
def xo (b:bU):Option Bs:=qn b
theorem IB (a0:bU):xo a0=qn a0:=rfl
theorem Cf {f:bU}{oT:Ab.Obj}{gT:Nat}{r:Bs}(b:xo f=some r) (H:ag) (y:H gT=some oT) (B:ia Tryz.prog oT):AC Tryz.prog 12 [.agg (bU.c f)] H fun v h'=>v=.a (.d (.str r))/\h'=H:=by
 unfold xo qn at b;refine AC.oW 21 [.tmp 2] Tryz.call12 Tryz.func12 ?_;refine aa (S BX (S As (nil ?_)));refine aa (S Fv (S Ld ?_));obtain⟨m,o,b⟩:=qT (B6 _) b;refine s0 (gD rfl rfl (B7 (gT:=gT) (oT:=oT) o _ aJ (by assumption))) rfl ?_;refine S As (nil ?_);refine aP (TA 1 kN) (fun(z:Bs)=>[(3,.a (.d (.str z)))]) (fun z=>H) (fun z=>((a_ z ([32]:Bs)).bind fun g=>(xm f.aK).bind fun i=>(a_ g i).bind fun j=>some j)=some r) ?_ ?_
 ·intro C k;refine aa (S Fv (S Ld ?_));obtain⟨E,p,b⟩:=vT (Qn _) b;refine Sc rfl rfl (wK p) ?_;refine S As (nil ?_);refine aa (S Mv (S BS (nil ?_)));obtain⟨F,l,b⟩:=cG b;refine cO b (fun q b=>?_) (fun q b=>?_)
  ·refine region ?_;refine S Mv ?_;obtain⟨s,t,b⟩:=qO (Rb _) b;refine Sc rfl rfl (Rc t) ?_;refine S As (nil ?_);have b:=ku l b;exact k _ s wA b
  refine ah.skip ?_;have b:=ku l b;exact k _ m wA b
 rintro G b;try dsimp only at b
 refine aa (S Mv ?_);obtain⟨g,u,b⟩:=qT rfl b;refine s0 (bL rfl rfl u) rfl ?_;refine S Fv (S Ld ?_);obtain⟨i,w,b⟩:=qT (Rq _) b;refine s0 (gD rfl rfl (Rp (gT:=gT) (oT:=oT) w _ aJ (by assumption))) rfl ?_;obtain⟨j,x,b⟩:=qT rfl b;refine s0 (bL rfl rfl x) rfl ?_;refine S As (nil ?_);exact rt b
end
end Go.Proofs
