import Derived.Test.YtbghdiaepdaaeaaGreatDoorV7
set_option maxRecDepth 100000
set_option maxHeartbeats 2000000
set_option linter.unusedVariables false
set_option linter.unusedSimpArgs false
namespace Go.Proofs
open Go Go.Ab
open aS aq ah aU dV
variable {an:bf}
def uH (b:Int):Option Bs:=bif (decide (b=(1:Int))) then(some ([113,117,101,114,121]:Bs)) else(bif (decide (b=(2:Int))) then(some ([109,117,116,97,116,105,111,110]:Bs)) else(bif (decide (b=(3:Int))) then(some ([115,117,98,115,99,114,105,112,116,105,111,110]:Bs)) else((jW b).bind fun f=>some f)))
def Dp (b:Int):Option Bs:=uH b
theorem SY (a0:Int):Dp a0=uH a0:=rfl
theorem SZ {g:Int}{r:Bs}(b:Dp g=some r) (H:ag) :AC Tryz.prog 38 [.d (.int .i64 g)] H fun v h'=>v=.a (.d (.str r))/\h'=H:=by
 unfold Dp uH at b;refine AC.oW 12 [.tmp 2] Tryz.call38 Tryz.func38 ?_;refine aa (S As (nil ?_));refine ay fun i f=>?_;refine aa (S Mv (nil ?_));refine block ?_;refine aa (S BI (S As (nil ?_)));refine cE b (fun j b=>?_) (fun j b=>?_)
 ·refine aa (S As (nil ?_));exact rt b
 refine aa (S BI (S As (nil ?_)));refine cE b (fun k b=>?_) (fun k b=>?_)
 ·refine aa (S As (nil ?_));exact rt b
 refine aa (S BI (S As (nil ?_)));refine cE b (fun l b=>?_) (fun l b=>?_)
 ·refine aa (S As (nil ?_));exact rt b
 refine sk f ?_;clear f i;refine aa (S Mv ?_);obtain⟨o,m,b⟩:=qT (wG _) b;refine Sc rfl rfl (wH m) ?_;refine S As (nil ?_);exact rt b
def uI (b:Int):Int:=bif (decide (b<(10:Int))) then((IntKind.wrap .u8 ((48:Int)+b))) else((IntKind.wrap .u8 ((87:Int)+b)))
def Dq (b:Int):Option Int:=some (uI b)
theorem Jc (a0:Int):Dq a0=some (uI a0):=rfl
theorem Jd {g r:Int}(b:Dq g=some r) (H:ag) :AC Tryz.prog 186 [.d (.int .u8 g)] H fun v h'=>v=.a (.d (.int .u8 r))/\h'=H:=by
 unfold Dq uI at b;refine AC.oW 9 [.tmp 2] Tryz.call186 Tryz.func186 ?_;refine aa (S As (nil ?_));refine ay fun i f=>?_;refine aa (S Mv (S BI (nil ?_)));refine cP b (fun j b=>?_) (fun j b=>?_)
 ·refine aa (S Mv (S BI (S As (nil ?_))));exact rt b
 refine sk f ?_;clear f i;refine aa (S Mv (S BI (S As (nil ?_))));exact rt b
def uJ (b:Int):Option Bs:=bif (decide (b=(34:Int))) then(some ([92,34]:Bs)) else(bif (decide (b=(92:Int))) then(some ([92,92]:Bs)) else(bif (decide (b=(10:Int))) then(some ([92,110]:Bs)) else(bif (decide (b=(13:Int))) then(some ([92,114]:Bs)) else(bif (decide (b=(9:Int))) then(some ([92,116]:Bs)) else(bif ((decide (b<(32:Int)))||(decide ((126:Int)<b))) then(on (uI (IntKind.wrap .u8 (Int.tdiv b (16:Int)))) fun f=>on (uI (Int.tmod b (16:Int))) fun g=>(a_ ([92,117,48,48]:Bs) (fK (⟨false,[f,g]⟩:Sl Int))).bind fun i=>some i) else(some (fK (⟨false,[b]⟩:Sl Int))))))))
def Dr (b:Int):Option Bs:=uJ b
theorem S0 (a0:Int):Dr a0=uJ a0:=rfl
theorem S1 {f:Int}{r:Bs}(b:Dr f=some r) (H:ag) :AC Tryz.prog 137 [.d (.int .u8 f)] H fun v h'=>v=.a (.d (.str r))/\h'=H:=by
 unfold Dr uJ at b;refine AC.oW 32 [.tmp 2] Tryz.call137 Tryz.func137 ?_;refine aa (S As (nil ?_));refine ay fun j g=>?_;refine aa (S Mv (nil ?_));refine block ?_;refine aa (S BI (S As (nil ?_)));refine cE b (fun k b=>?_) (fun k b=>?_)
 ·refine aa (S As (nil ?_));exact rt b
 refine aa (S BI (S As (nil ?_)));refine cE b (fun l b=>?_) (fun l b=>?_)
 ·refine aa (S As (nil ?_));exact rt b
 refine aa (S BI (S As (nil ?_)));refine cE b (fun m b=>?_) (fun m b=>?_)
 ·refine aa (S As (nil ?_));exact rt b
 refine aa (S BI (S As (nil ?_)));refine cE b (fun o b=>?_) (fun o b=>?_)
 ·refine aa (S As (nil ?_));exact rt b
 refine aa (S BI (S As (nil ?_)));refine cE b (fun p b=>?_) (fun p b=>?_)
 ·refine aa (S As (nil ?_));exact rt b
 refine sk g ?_;clear g j;refine ay fun q i=>?_;refine aa (S Mv (S BI (S Mv (G0 Mv ?_))));refine G1 17 rfl BI ?_;refine S PO (nil ?_);refine cE b (fun s b=>?_) (fun s b=>?_)
 ·refine aa (S Mv ?_);refine s0 (FH rfl rfl (by decide)) rfl ?_;obtain⟨t,u,b⟩:=vT (Jc _) b;refine Sc rfl rfl (Jd u) ?_;refine S Mv ?_;refine s0 (FI rfl rfl (by decide)) rfl ?_;obtain⟨w,x,b⟩:=vT (Jc _) b;refine Sc rfl rfl (Jd x) ?_;refine S BV ?_;refine s0 (zo (y:=(⟨false,[t,w]⟩:Sl Int)) (TK rfl) rfl (TK rfl) rfl (TK rfl) rfl rfl) rfl ?_;obtain⟨B,z,b⟩:=qT rfl b
  refine s0 (bL rfl rfl z) rfl ?_;refine S As (nil ?_);exact rt b
 refine sk i ?_;clear i q;refine aa (S Mv (S BV ?_));refine s0 (zo (y:=(⟨false,[f]⟩:Sl Int)) (TK rfl) rfl (TK rfl) rfl (TK rfl) rfl rfl) rfl ?_;refine S As (nil ?_);exact rt b
def nk :List UInt8->Bs->Option (Bs)
 | [],b=>some b
 | f::g,b=>on (f) fun i=>(uJ ((i.toNat:Nat):Int)).bind fun j=>(a_ b j).bind fun k=>nk  (g) k
def nq (i:Bs):Option Bs:=Option.bind (nk  i ([34]:Bs)) fun b=>on (b) fun f=>(a_ f ([34]:Bs)).bind fun g=>some g
def Ds (b:Bs):Option Bs:=nq b
theorem Je (a0:Bs):Ds a0=nq a0:=rfl
theorem Jf {f r:Bs}(b:Ds f=some r) (H:ag) :AC Tryz.prog 82 [.d (.str f)] H fun v h'=>v=.a (.d (.str r))/\h'=H:=by
 unfold Ds nq at b;refine AC.oW 19 [.tmp 2] Tryz.call82 Tryz.func82 ?_;refine aa (S As (nil ?_));refine aa (S As (nil ?_));refine aP kN (fun(z:Bs)=>[(3,.a (.d (.str z)))]) (fun z=>H) (fun z=>((a_ z ([34]:Bs)).bind fun i=>some i)=some r) ?_ ?_
 ·intro I s;refine aa (S As (nil ?_));refine block ?_;obtain⟨j,t,b⟩:=cG b;refine bD (TA 0 kN) (fun(z:Bs×Nat)=>[(3,.a (.d (.str z.1))),(4,.a (.d (.int .i64 ((z.2:Nat):Int))))]) (fun z=>H) (fun z=>f.length-z.2) (fun z=>Option.bind (nk  (f.drop z.2) z.1) j=some r) (([34]:Bs),0) b wA ?_;rintro ⟨k,m⟩ b J u;try dsimp only at b
  refine ay fun w o=>?_;refine aa (S Mv (S Mv ?_));refine kE (TK rfl) rfl rfl rfl rfl fun K=>?_;refine S BI (nil ?_);refine ah.cL (fun l=>Option.bind (nk  l k) j=some r) b rfl (fun L p g b=>?_) (fun g b=>?_)
  ·rw [nk] at b;try dsimp only at g
   have M:=oD g;refine sk o ?_;clear o w;refine ay fun x q=>?_;refine block ?_;refine region ?_;refine S Mv (S Mv (S Mv ?_));obtain⟨N,y,b⟩:=vO p b;refine s0 (mm (n:=m) (TK rfl) rfl rfl rfl y) rfl ?_;obtain⟨O,B,b⟩:=qO (S0 _) b;refine Sc rfl rfl (S1 B) ?_;obtain⟨C,E,b⟩:=qO rfl b;refine s0 (bL rfl rfl E) rfl ?_;refine S As (nil ?_)
   refine q _ ?_;clear q x;refine region ?_;refine S Mv ?_;refine SI ?_;refine S As (nil ?_);exact u _ (C,(m+1)) wA b (dl p)
  rw [nk] at b;have b:=ku t b;refine ah.exit ?_;obtain⟨P,F,b⟩:=cC b;have b:=ku F b;exact s _ k wA b
 rintro Q b;try dsimp only at b
 refine aa (S Mv ?_);obtain⟨i,G,b⟩:=qT rfl b;refine s0 (bL rfl rfl G) rfl ?_;refine S As (nil ?_);exact rt b
def lZ (g:af->Option Bs):List af->Nat->Bs->Option (Bs)
 | [],f,b=>some b
 | i::j,f,b=>Option.bind (bif (decide ((0:Int)<((f:Nat):Int))) then((a_ b ([44,32]:Bs)).bind fun k=>some k) else(some b)) fun l=>on (i) fun m=>(g m).bind fun o=>(a_ l o).bind fun p=>on (p) fun q=>lZ g (j) (f+1) q
def lg (g:af) (i:af->Option Bs):List af->Nat->Bs->Option (Bs)
 | [],b,f=>some f
 | j::k,b,f=>bif (decide (((b:Nat):Int)<((g.aF.l.length:Nat):Int))) then(Option.bind (bif (decide ((0:Int)<((b:Nat):Int))) then((a_ f ([44,32]:Bs)).bind fun m=>some m) else(some f)) fun o=>(g.aF.l[b]?).bind fun p=>(a_ o p).bind fun q=>(a_ q ([58,32]:Bs)).bind fun r=>on (j) fun s=>(i s).bind fun t=>(a_ r t).bind fun u=>on (u) fun v=>lg g i (k) (b+1) v) else(some f)
def ir:Nat->af->Option Bs
 | 0,_=>none
 | n+1,b=>bif (decide (b.ak=(0:Int))) then(some ([110,117,108,108]:Bs)) else(bif (decide (b.ak=(1:Int))) then(bif (decide (b.bl=(0:Int))) then(some ([102,97,108,115,101]:Bs)) else(some ([116,114,117,101]:Bs))) else(bif (decide (b.ak=(2:Int))) then((jW b.bl).bind fun f=>some f) else(bif (decide (b.ak=(3:Int))) then((nq b.aV).bind fun g=>some g) else(bif (decide (b.ak=(4:Int))) then(some b.aV) else(bif (decide (b.ak=(7:Int))) then((a_ ([36]:Bs) b.aV).bind fun i=>some i) else(bif (decide (b.ak=(5:Int))) then(Option.bind (lZ (ir n) b.av.l 0 ([91]:Bs)) fun j=>on (j) fun k=>(a_ k ([93]:Bs)).bind fun m=>some m) else(bif (decide (b.ak=(6:Int))) then(Option.bind (lg b (ir n) b.av.l 0 ([123]:Bs)) fun o=>on (o) fun p=>(a_ p ([125]:Bs)).bind fun q=>some q) else(some ([]:Bs)))))))))
def Dt (n:Nat):Prop:=∀{a0:af}   {r:Bs},ir n a0=some r->∀(H:ag),AC Tryz.prog 136 [.agg (af.c a0)] H fun v h'=>v=.a (.d (.str r))/\h'=H
theorem S2 (n:Nat) (v:Dt (an:=an) n):Dt (an:=an) (n+1):=by
 intro g   r b H;rw [ir] at b;refine AC.oW 95 [.tmp 2] Tryz.call136 Tryz.func136 ?_;refine aa (S BX (S As (nil ?_)));refine ay fun L w=>?_;refine aa (S Fv (S Ld (nil ?_)));refine block ?_;refine aa (S BI (S As (nil ?_)));refine cE b (fun M b=>?_) (fun M b=>?_)
 ·refine aa (S As (nil ?_));exact rt b
 refine aa (S BI (S As (nil ?_)));refine cE b (fun N b=>?_) (fun N b=>?_)
 ·refine ay fun O y=>?_;refine aa (S Fv (S Ld (S BI (nil ?_))));refine cE b (fun P b=>?_) (fun P b=>?_)
  ·refine aa (S As (nil ?_));exact rt b
  refine sk y ?_;clear y O;refine aa (S As (nil ?_));exact rt b
 refine aa (S BI (S As (nil ?_)));refine cE b (fun Q b=>?_) (fun Q b=>?_)
 ·refine aa (S Fv (S Ld ?_));obtain⟨a9,R,b⟩:=qT (wG _) b;refine Sc rfl rfl (wH R) ?_;refine S As (nil ?_);exact rt b
 refine aa (S BI (S As (nil ?_)));refine cE b (fun U b=>?_) (fun U b=>?_)
 ·refine aa (S Fv (S Ld ?_));obtain⟨a',W,b⟩:=qT (Je _) b;refine Sc rfl rfl (Jf W) ?_;refine S As (nil ?_);exact rt b
 refine aa (S BI (S As (nil ?_)));refine cE b (fun X b=>?_) (fun X b=>?_)
 ·refine aa (S Fv (S Ld (S As (nil ?_))));exact rt b
 refine aa (S BI (S As (nil ?_)));refine cE b (fun Y b=>?_) (fun Y b=>?_)
 ·refine aa (S Fv (S Ld ?_));obtain⟨ba,Z,b⟩:=qT rfl b;refine s0 (bL rfl rfl Z) rfl ?_;refine S As (nil ?_);exact rt b
 refine aa (S BI (S As (nil ?_)));refine cE b (fun ab b=>?_) (fun ab b=>?_)
 ·refine aa (S As (nil ?_));refine aP kN (fun(z:Bs)=>[(3,.a (.d (.str z)))]) (fun z=>H) (fun z=>((a_ z ([93]:Bs)).bind fun B=>some B)=some r) ?_ ?_
  ·intro bb ad;refine aa (S As (nil ?_));refine block ?_;obtain⟨p,ae,b⟩:=cG b;refine bD (TA 1 kN) (fun(z:Bs×Nat)=>[(3,.a (.d (.str z.1))),(4,.a (.d (.int .i64 ((z.2:Nat):Int))))]) (fun z=>H) (fun z=>g.av.l.length-z.2) (fun z=>Option.bind (lZ (ir n) (g.av.l.drop z.2) z.2 z.1) p=some r) (([91]:Bs),0) b wA ?_;rintro ⟨q,j⟩ b bc ai;try dsimp only at b
   refine ay fun aj C=>?_;refine aa (S Mv (S Fv ?_));refine s0 (ck (TK rfl) rfl rfl (congrArg (fun x=>some (A.d x)) (af.di _))) rfl ?_;refine sLen (f:=af.c) (s:=g.av) (TK rfl) rfl rfl rfl rfl fun bd=>?_;refine S BI (nil ?_);refine ah.cL (fun l=>Option.bind (lZ (ir n) l j q) p=some r) b rfl (fun be E t b=>?_) (fun t b=>?_)
   ·rw [lZ] at b;try dsimp only at t
    have bf:=oD t;refine sk C ?_;clear C aj;refine aP (TA 1 (TA 4 kN)) (fun(z:Bs)=>[(3,.a (.d (.str z)))]) (fun z=>H) (fun z=>Option.bind (lZ (ir n) (g.av.l.drop (j+1)) (j+1) z) p=some r) ?_ ?_
    ·intro bg ak;refine block ?_;obtain⟨al,am,b⟩:=eG b;refine aP (TA 1 (TA 4 kN)) (fun(z:Bs)=>[(3,.a (.d (.str z)))]) (fun z=>H) (fun z=>al z=some r) ?_ ?_
     ·intro bh F;refine aa (S Mv (S BI (nil ?_)));refine cO b (fun ao b=>?_) (fun ao b=>?_)
      ·refine region ?_;refine S Mv ?_;obtain⟨ap,ar,b⟩:=qO rfl b;refine s0 (bL rfl rfl ar) rfl ?_;refine S As (nil ?_);exact F _ ap wA b
      refine ah.skip ?_;exact F _ q wA b
     rintro bi b;try dsimp only at b
     have b:=ku am b;refine region ?_;refine S Mv (S Fv ?_);refine s0 (ck (TK rfl) rfl rfl (congrArg (fun x=>some (A.d x)) (af.di _))) rfl ?_;refine S Mv ?_;obtain⟨bj,aw,b⟩:=vO E b;refine S (ix af.c j aw) (S Ld ?_);obtain⟨bk,ax,b⟩:=qO rfl b;refine Sc rfl rfl (v ax) ?_;obtain⟨az,aA,b⟩:=qO rfl b;refine s0 (bL rfl rfl aA) rfl ?_;refine S As (nil ?_)
     obtain⟨bl,aB,b⟩:=gP b;have b:=ku aB b;exact ak _ az wA b
    rintro aC b;try dsimp only at b
    refine region ?_;refine S Mv ?_;refine SI ?_;refine S As (nil ?_);exact ai _ (aC,(j+1)) wA b (dl E)
   rw [lZ] at b;have b:=ku ae b;refine ah.exit ?_;obtain⟨bm,aD,b⟩:=cC b;have b:=ku aD b;exact ad _ q wA b
  rintro bn b;try dsimp only at b
  refine aa (S Mv ?_);obtain⟨B,aE,b⟩:=qT rfl b;refine s0 (bL rfl rfl aE) rfl ?_;refine S As (nil ?_);exact rt b
 refine aa (S BI (S As (nil ?_)));refine cE b (fun aG b=>?_) (fun aG b=>?_)
 ·refine aa (S As (nil ?_));refine aP kN (fun(z:Bs)=>[(5,.a (.d (.str z)))]) (fun z=>H) (fun z=>((a_ z ([125]:Bs)).bind fun G=>some G)=some r) ?_ ?_
  ·intro bo aH;refine aa (S As (nil ?_));refine block ?_;obtain⟨m,aK,b⟩:=cG b;refine bD (TA 1 kN) (fun(z:Bs×Nat)=>[(5,.a (.d (.str z.1))),(6,.a (.d (.int .i64 ((z.2:Nat):Int))))]) (fun z=>H) (fun z=>g.av.l.length-z.2) (fun z=>Option.bind (lg g (ir n) (g.av.l.drop z.2) z.2 z.1) m=some r) (([123]:Bs),0) b wA ?_;rintro ⟨o,i⟩ b bp aL
   try dsimp only at b
   refine ay fun aN I=>?_;refine aa (S Mv (S Fv ?_));refine s0 (ck (TK rfl) rfl rfl (congrArg (fun x=>some (A.d x)) (af.di _))) rfl ?_;refine sLen (f:=af.c) (s:=g.av) (TK rfl) rfl rfl rfl rfl fun bq=>?_;refine S BI (S Mv (G0 Mv (G0 Fv ?_)));refine G1 67 rfl Ld ?_;refine gC rfl rfl (fun hC=>aI (k:=68) rfl (dx (f:=aM) (s:=g.aF) (TK rfl) rfl rfl rfl)) rfl ?_;refine G2 66 69 rfl rfl BI ?_
   refine S PA (nil ?_);refine ah.iM (fun l=>Option.bind (lg g (ir n) l i o) m=some r) (Option.bind (some o) m=some r) b (fun b=>by rw [lg] at b; exact b) (fun _ aO b=>by rw [lg] at b; rw [aO] at b; exact b) rfl rfl (fun br J u aQ b=>?_) (fun u b=>?_)
   ·rw [lg] at b;rw [aQ,cond_true] at b;try dsimp only at u
    have bs:=oD (and_left u);refine sk I ?_;clear I aN;refine aP (TA 1 (TA 6 kN)) (fun(z:Bs)=>[(5,.a (.d (.str z)))]) (fun z=>H) (fun z=>Option.bind (lg g (ir n) (g.av.l.drop (i+1)) (i+1) z) m=some r) ?_ ?_
    ·intro bt aR;refine block ?_;obtain⟨aS,aT,b⟩:=eG b;refine aP (TA 1 (TA 6 kN)) (fun(z:Bs)=>[(5,.a (.d (.str z)))]) (fun z=>H) (fun z=>aS z=some r) ?_ ?_
     ·intro bu K;refine aa (S Mv (S BI (nil ?_)));refine cO b (fun aV b=>?_) (fun aV b=>?_)
      ·refine region ?_;refine S Mv ?_;obtain⟨aW,aX,b⟩:=qO rfl b;refine s0 (bL rfl rfl aX) rfl ?_;refine S As (nil ?_);exact K _ aW wA b
      refine ah.skip ?_;exact K _ o wA b
     rintro bv b;try dsimp only at b
     have b:=ku aT b;refine ah.draw rfl ?_;refine Sd Mv (Sd Fv (Sd Ld (Sd Mv ?_)));obtain⟨bw,aY,b⟩:=qO rfl b;refine Sd (ix aM i aY) (Sd Ld ?_);obtain⟨bx,aZ,b⟩:=qO rfl b;refine au.s0 (bL rfl rfl aZ) rfl ?_;obtain⟨bz,a0,b⟩:=qO rfl b;refine au.s0 (bL rfl rfl a0) rfl ?_;refine Sd Fv ?_;refine au.s0 (ck (TK rfl) rfl rfl (congrArg (fun x=>some (A.d x)) (af.di _))) rfl ?_
     refine Sd Mv ?_;obtain⟨bA,a1,b⟩:=vO J b;refine Sd (ix af.c i a1) (Sd Ld ?_);obtain⟨bB,a2,b⟩:=qO rfl b;refine cN rfl rfl (v a2) ?_;obtain⟨a3,a4,b⟩:=qO rfl b;refine au.s0 (bL rfl rfl a4) rfl ?_;refine Sd As ?_;refine au.nil (by decide +kernel) ?_;obtain⟨bC,a5,b⟩:=gP b;have b:=ku a5 b;exact aR _ a3 wA b
    rintro a6 b;try dsimp only at b
    refine region ?_;refine S Mv ?_;refine SI ?_;refine S As (nil ?_);exact aL _ (a6,(i+1)) wA b (dl J)
   have b:=ku aK b;refine ah.exit ?_;obtain⟨bE,a7,b⟩:=cC b;have b:=ku a7 b;exact aH _ o wA b
  rintro bG b;try dsimp only at b
  refine aa (S Mv ?_);obtain⟨G,a8,b⟩:=qT rfl b;refine s0 (bL rfl rfl a8) rfl ?_;refine S As (nil ?_);exact rt b
 refine sk w ?_;clear w L;refine aa (S As (nil ?_));exact rt b
theorem Jg:∀(n:Nat),(Dt (an:=an) n)
 | 0=>fun b=>by first|cases b|(rw [ir] at b; cases b)
 | n+1=>S2 n (Jg n)
def Jh (b:af):Option Bs:=ir F0 b
theorem S3 {b:af}{r:Bs}(f:Jh b=some r) (H:ag) :AC Tryz.prog 136 [.agg (af.c b)] H fun v h'=>v=.a (.d (.str r))/\h'=H:=(Jg F0) f H 
def Du (b:af):Option Bs:=ir F0 b
theorem S4 (a0:af):Jh a0=Du a0:=rfl
def l5 :List ax->Nat->Bs->Option (Bs)
 | [],f,b=>some b
 | g::i,f,b=>Option.bind (bif (decide ((0:Int)<((f:Nat):Int))) then((a_ b ([44,32]:Bs)).bind fun j=>some j) else(some b)) fun k=>on (g) fun l=>(a_ k l.ai).bind fun m=>(a_ m ([58,32]:Bs)).bind fun o=>on (g) fun p=>(Du p.cB).bind fun q=>(a_ o q).bind fun r=>on (r) fun s=>l5  (i) (f+1) s
def qu (g:(Sl ax)):Option Bs:=Option.bind (l5  g.l 0 ([]:Bs)) fun b=>on (b) fun f=>some f
def xW (b:(Sl ax)):Option Bs:=qu b
theorem Ji (a0:(Sl ax)):xW a0=qu a0:=rfl
theorem S5 {i:Sl ax}{w0:Option Nat}{r:Bs}(b:xW i=some r) (H:ag) :AC Tryz.prog 81 [.d (Sl.d 6 ax.c w0 i)] H fun v h'=>v=.a (.d (.str r))/\h'=H:=by
 unfold xW qu at b;refine AC.oW 31 [.tmp 2] Tryz.call81 Tryz.func81 ?_;refine aa (S As (nil ?_));refine aa (S As (nil ?_));refine aP kN (fun(z:Bs)=>[(3,.a (.d (.str z)))]) (fun z=>H) (fun z=>(some z)=some r) ?_ ?_
 ·intro U t;refine aa (S As (nil ?_));refine block ?_;obtain⟨j,u,b⟩:=cG b;refine bD (TA 0 kN) (fun(z:Bs×Nat)=>[(3,.a (.d (.str z.1))),(4,.a (.d (.int .i64 ((z.2:Nat):Int))))]) (fun z=>H) (fun z=>i.l.length-z.2) (fun z=>Option.bind (l5  (i.l.drop z.2) z.2 z.1) j=some r) (([]:Bs),0) b wA ?_;rintro ⟨k,g⟩ b W w;try dsimp only at b
  refine ay fun x p=>?_;refine aa (S Mv (S Mv ?_));refine sLen (f:=ax.c) (s:=i) (TK rfl) rfl rfl rfl rfl fun X=>?_;refine S BI (nil ?_);refine ah.cL (fun l=>Option.bind (l5  l g k) j=some r) b rfl (fun Y m o b=>?_) (fun o b=>?_)
  ·rw [l5] at b;try dsimp only at o
   have Z:=oD o;refine sk p ?_;clear p x;refine aP (TA 0 (TA 4 kN)) (fun(z:Bs)=>[(3,.a (.d (.str z)))]) (fun z=>H) (fun z=>Option.bind (l5  (i.l.drop (g+1)) (g+1) z) j=some r) ?_ ?_
   ·intro ab y;refine block ?_;obtain⟨B,C,b⟩:=eG b;refine aP (TA 0 (TA 4 kN)) (fun(z:Bs)=>[(3,.a (.d (.str z)))]) (fun z=>H) (fun z=>B z=some r) ?_ ?_
    ·intro ad q;refine aa (S Mv (S BI (nil ?_)));refine cO b (fun E b=>?_) (fun E b=>?_)
     ·refine region ?_;refine S Mv ?_;obtain⟨F,G,b⟩:=qO rfl b;refine s0 (bL rfl rfl G) rfl ?_;refine S As (nil ?_);exact q _ F wA b
     refine ah.skip ?_;exact q _ k wA b
    rintro ae b;try dsimp only at b
    have b:=ku C b;refine ah.draw rfl ?_;refine Sd Mv (Sd Mv (Sd Mv ?_));obtain⟨af,I,b⟩:=vO m b;refine Sd (ix ax.c g I) (Sd Fv (Sd Ld ?_));obtain⟨ai,J,b⟩:=qO rfl b;refine au.s0 (bL rfl rfl J) rfl ?_;obtain⟨aj,K,b⟩:=qO rfl b;refine au.s0 (bL rfl rfl K) rfl ?_;refine Sd Mv (Sd Mv ?_);obtain⟨ak,L,b⟩:=vO m b;refine Sd (ix ax.c g L) (Sd Fv (Sd Ld ?_))
    obtain⟨al,M,b⟩:=qO (S4 _) b;refine cN rfl rfl (S3 M) ?_;obtain⟨N,O,b⟩:=qO rfl b;refine au.s0 (bL rfl rfl O) rfl ?_;refine Sd As ?_;refine au.nil (by decide +kernel) ?_;obtain⟨am,P,b⟩:=gP b;have b:=ku P b;exact y _ N wA b
   rintro Q b;try dsimp only at b
   refine region ?_;refine S Mv ?_;refine SI ?_;refine S As (nil ?_);exact w _ (Q,(g+1)) wA b (dl m)
  rw [l5] at b;have b:=ku u b;refine ah.exit ?_;obtain⟨an,R,b⟩:=cC b;have b:=ku R b;exact t _ k wA b
 rintro ao b;try dsimp only at b
 refine aa (S Mv (S As (nil ?_)));exact rt b
def lm (g:(Sl aj)->Option Bs):List aj->Bs->Option (Bs)
 | [],f=>some f
 | o::p,f=>on (o) fun b=>(a_ f ([32]:Bs)).bind fun q=>(a_ q b.bz).bind fun r=>(a_ r ([46]:Bs)).bind fun s=>(a_ s b.bn).bind fun t=>(a_ t ([58,32]:Bs)).bind fun u=>(a_ u b.ai).bind fun i=>Option.bind (bif (decide ((0:Int)<((b.aG.l.length:Nat):Int))) then((a_ i ([40]:Bs)).bind fun v=>(qu b.aG).bind fun w=>(a_ v w).bind fun x=>(a_ x ([41]:Bs)).bind fun y=>some y) else(some i)) fun j=>Option.bind (bif (!(b.bZ==([]:Bs))) then((a_ j ([32,64,100,101,102,101,114,40]:Bs)).bind fun z=>(nq b.bZ).bind fun B=>(a_ z B).bind fun C=>(a_ C ([41]:Bs)).bind fun E=>some E) else(some j)) fun k=>Option.bind (bif (!decide (b.bW=(-1:Int))) then((a_ k ([32,64,115,116,114,101,97,109,40]:Bs)).bind fun F=>(jW b.bW).bind fun G=>(a_ F G).bind fun H=>(a_ H ([41]:Bs)).bind fun I=>some I) else(some k)) fun m=>Option.bind (bif (decide ((0:Int)<((b.aK.l.length:Nat):Int))) then((a_ m ([32]:Bs)).bind fun J=>(g b.aK).bind fun K=>(a_ J K).bind fun L=>some L) else(some m)) fun M=>lm g (p) M
def kf:Nat->(Sl aj)->Option Bs
 | 0,_=>none
 | n+1,i=>Option.bind (lm (kf n) i.l ([123]:Bs)) fun b=>on (b) fun f=>(a_ f ([32,125]:Bs)).bind fun g=>some g
def Dv (n:Nat):Prop:=∀{a0:(Sl aj)}{w0:Option Nat}  {r:Bs},kf n a0=some r->∀(H:ag),AC Tryz.prog 39 [.d (Sl.d 9 aj.c w0 a0)] H fun v h'=>v=.a (.d (.str r))/\h'=H
theorem S6 (n:Nat) (C:Dv (an:=an) n):Dv (an:=an) (n+1):=by
 intro g w0  r b H;rw [kf] at b;refine AC.oW 72 [.tmp 2] Tryz.call39 Tryz.func39 ?_;refine aa (S As (nil ?_));refine aa (S As (nil ?_));refine aP kN (fun(z:Bs)=>[(3,.a (.d (.str z)))]) (fun z=>H) (fun z=>((a_ z ([32,125]:Bs)).bind fun m=>some m)=some r) ?_ ?_
 ·intro aS E;refine aa (S As (nil ?_));refine block ?_;obtain⟨i,F,b⟩:=cG b;refine bD (TA 0 kN) (fun(z:Bs×Nat)=>[(3,.a (.d (.str z.1))),(4,.a (.d (.int .i64 ((z.2:Nat):Int))))]) (fun z=>H) (fun z=>g.l.length-z.2) (fun z=>Option.bind (lm (kf n) (g.l.drop z.2) z.1) i=some r) (([123]:Bs),0) b wA ?_;rintro ⟨o,j⟩ b aT G;try dsimp only at b
  refine ay fun I p=>?_;refine aa (S Mv (S Mv ?_));refine sLen (f:=aj.c) (s:=g) (TK rfl) rfl rfl rfl rfl fun aV=>?_;refine S BI (nil ?_);refine ah.cL (fun l=>Option.bind (lm (kf n) l o) i=some r) b rfl (fun aW q k b=>?_) (fun k b=>?_)
  ·rw [lm] at b;try dsimp only at k
   have aX:=oD k;refine sk p ?_;clear p I;refine aP (TA 0 (TA 4 kN)) (fun(z:Bs)=>[(3,.a (.d (.str z)))]) (fun z=>H) (fun z=>Option.bind (lm (kf n) (g.l.drop (j+1)) z) i=some r) ?_ ?_
   ·intro aY t;refine block ?_;refine aa (S Mv (S Mv ?_));obtain⟨u,J,b⟩:=vO q b;refine S (ix aj.c j J) (S Ld ?_);refine Sl ?_;refine Sf ?_;refine nil ?_;refine bH 5 _ rfl (KA 0 (KA 3 (KA 4 aU.nil))) ?_;refine aa (S Mv ?_);obtain⟨aZ,K,b⟩:=qO rfl b;refine s0 (bL rfl rfl K) rfl ?_;refine S Fv (S Ld ?_);obtain⟨a0,L,b⟩:=qO rfl b;refine s0 (bL rfl rfl L) rfl ?_
    obtain⟨a1,M,b⟩:=qO rfl b;refine s0 (bL rfl rfl M) rfl ?_;refine S Fv (S Ld ?_);obtain⟨a2,N,b⟩:=qO rfl b;refine s0 (bL rfl rfl N) rfl ?_;obtain⟨a3,O,b⟩:=qO rfl b;refine s0 (bL rfl rfl O) rfl ?_;refine S Fv (S Ld ?_);obtain⟨P,Q,b⟩:=qO rfl b;refine s0 (bL rfl rfl Q) rfl ?_;refine S As (nil ?_);obtain⟨R,U,b⟩:=eG b;refine aP (TA 0 (TA 4 (TA 5 kN))) (fun(z:Bs)=>[(3,.a (.d (.str z)))]) (fun z=>H) (fun z=>R z=some r) ?_ ?_
    ·intro a4 v;refine aa (S Fv (S Ld ?_));refine sLen (f:=ax.c) (s:=u.aG) (TK rfl) rfl rfl rfl rfl fun a5=>?_;refine S BI (nil ?_);refine cO b (fun W b=>?_) (fun W b=>?_)
     ·refine region ?_;refine S Mv ?_;obtain⟨a6,X,b⟩:=qO rfl b;refine s0 (bL rfl rfl X) rfl ?_;refine S Fv (S Ld ?_);obtain⟨a7,Y,b⟩:=qO (Ji _) b;refine Sc rfl rfl (S5 Y) ?_;obtain⟨a8,Z,b⟩:=qO rfl b;refine s0 (bL rfl rfl Z) rfl ?_;obtain⟨ab,ad,b⟩:=qO rfl b;refine s0 (bL rfl rfl ad) rfl ?_;refine S As (nil ?_);exact v _ ab wA b
     refine ah.skip ?_;exact v _ P wA b
    rintro ae b;try dsimp only at b
    have b:=ku U b;obtain⟨af,ai,b⟩:=eG b;refine aP (TA 0 (TA 4 (TA 5 kN))) (fun(z:Bs)=>[(3,.a (.d (.str z)))]) (fun z=>H) (fun z=>af z=some r) ?_ ?_
    ·intro a9 w;refine aa (S Fv (S Ld (S BS (nil ?_))));refine cO b (fun ak b=>?_) (fun ak b=>?_)
     ·refine region ?_;refine S Mv ?_;obtain⟨a',al,b⟩:=qO rfl b;refine s0 (bL rfl rfl al) rfl ?_;refine S Fv (S Ld ?_);obtain⟨ba,am,b⟩:=qO (Je _) b;refine Sc rfl rfl (Jf am) ?_;obtain⟨bb,ao,b⟩:=qO rfl b;refine s0 (bL rfl rfl ao) rfl ?_;obtain⟨ap,ar,b⟩:=qO rfl b;refine s0 (bL rfl rfl ar) rfl ?_;refine S As (nil ?_);exact w _ ap wA b
     refine ah.skip ?_;exact w _ ae wA b
    rintro au b;try dsimp only at b
    have b:=ku ai b;obtain⟨av,aw,b⟩:=eG b;refine aP (TA 0 (TA 4 (TA 5 kN))) (fun(z:Bs)=>[(3,.a (.d (.str z)))]) (fun z=>H) (fun z=>av z=some r) ?_ ?_
    ·intro bc y;refine aa (S Fv (S Ld (S BI (nil ?_))));refine cO b (fun az b=>?_) (fun az b=>?_)
     ·refine region ?_;refine S Mv ?_;obtain⟨bd,aA,b⟩:=qO rfl b;refine s0 (bL rfl rfl aA) rfl ?_;refine S Fv (S Ld ?_);obtain⟨be,aB,b⟩:=qO (wG _) b;refine Sc rfl rfl (wH aB) ?_;obtain⟨bf,aC,b⟩:=qO rfl b;refine s0 (bL rfl rfl aC) rfl ?_;obtain⟨aD,aE,b⟩:=qO rfl b;refine s0 (bL rfl rfl aE) rfl ?_;refine S As (nil ?_);exact y _ aD wA b
     refine ah.skip ?_;exact y _ au wA b
    rintro aF b;try dsimp only at b
    have b:=ku aw b;refine aa (S Fv ?_);refine s0 (ck (TK rfl) rfl rfl (congrArg (fun x=>some (A.d x)) (aj.gp _))) rfl ?_;refine sLen (f:=aj.c) (s:=u.aK) (TK rfl) rfl rfl rfl rfl fun bg=>?_;refine S BI (nil ?_);obtain⟨bh,B,b⟩:=eG b;refine cO b (fun aH b=>?_) (fun aH b=>?_)
    ·refine region ?_;refine S Mv ?_;obtain⟨bi,aI,b⟩:=qO rfl b;refine s0 (bL rfl rfl aI) rfl ?_;refine S Fv ?_;refine s0 (ck (TK rfl) rfl rfl (congrArg (fun x=>some (A.d x)) (aj.gp _))) rfl ?_;obtain⟨bj,aL,b⟩:=qO rfl b;refine Sc rfl rfl (C aL) ?_;obtain⟨aM,aN,b⟩:=qO rfl b;refine s0 (bL rfl rfl aN) rfl ?_;refine S As (nil ?_);have b:=ku B b;exact t _ aM wA b
    refine ah.skip ?_;have b:=ku B b;exact t _ aF wA b
   rintro aO b;try dsimp only at b
   refine region ?_;refine S Mv ?_;refine SI ?_;refine S As (nil ?_);exact G _ (aO,(j+1)) wA b (dl q)
  rw [lm] at b;have b:=ku F b;refine ah.exit ?_;obtain⟨bk,aQ,b⟩:=cC b;have b:=ku aQ b;exact E _ o wA b
 rintro bl b;try dsimp only at b
 refine aa (S Mv ?_);obtain⟨m,aR,b⟩:=qT rfl b;refine s0 (bL rfl rfl aR) rfl ?_;refine S As (nil ?_);exact rt b
theorem Jj:∀(n:Nat),(Dv (an:=an) n)
 | 0=>fun b=>by first|cases b|(rw [kf] at b; cases b)
 | n+1=>S6 n (Jj n)
def Jk (b:(Sl aj)):Option Bs:=kf F0 b
theorem S7 {b:Sl aj}{w0:Option Nat}{r:Bs}(f:Jk b=some r) (H:ag) :AC Tryz.prog 39 [.d (Sl.d 9 aj.c w0 b)] H fun v h'=>v=.a (.d (.str r))/\h'=H:=(Jj F0) f H 
def Dw (b:(Sl aj)):Option Bs:=kf F0 b
theorem S8 (a0:(Sl aj)):Jk a0=Dw a0:=rfl
def qv (b:bU):Option Bs:=(uH b.ak).bind fun f=>(a_ f ([32]:Bs)).bind fun g=>(Dw b.aK).bind fun i=>(a_ g i).bind fun j=>some j
def Dx (b:bU):Option Bs:=qv b
theorem Jl (a0:bU):Dx a0=qv a0:=rfl
theorem Jm {f:bU}{r:Bs}(b:Dx f=some r) (H:ag) :AC Tryz.prog 13 [.agg (bU.c f)] H fun v h'=>v=.a (.d (.str r))/\h'=H:=by
 unfold Dx qv at b;refine AC.oW 11 [.tmp 2] Tryz.call13 Tryz.func13 ?_;refine aa (S BX (S As (nil ?_)));refine ah.cH (Sd Fv (Sd Ld ?_));obtain⟨l,g,b⟩:=qT (SY _) b;refine cN rfl rfl (SZ g) ?_;obtain⟨m,i,b⟩:=qT rfl b;refine au.s0 (bL rfl rfl i) rfl ?_;refine Sd Fv (Sd Ld ?_);obtain⟨o,j,b⟩:=qT (S8 _) b;refine cN rfl rfl (S7 j) ?_;obtain⟨p,k,b⟩:=qT rfl b
 refine au.s0 (bL rfl rfl k) rfl ?_;refine Sd As ?_;refine au.nil (by decide +kernel) ?_;exact rt b
section
variable [gM an]
def uK (p:ar) (b:bU) (i:bU):Option Bool:=(rV p).bind fun m=>aQ (!(!m)) (qd b.aK) false fun q=>aQ (!((!m)||q)) (qd i.aK) false fun s=>bif (((!m)||q)||s) then((uE).bind fun t=>some t) else((xf b.aK i.aK).bind fun k=>(qn b).bind fun f=>(qn i).bind fun g=>(qv b).bind fun j=>aQ (!(!(f==j))) (qv i) ([]:Bs) fun l=>aQ (!((!(f==j))||(!(g==l)))) (Cm b.aK i.aK) false fun o=>aQ (!(((!(f==j))||(!(g==l)))||(!(o==k)))) (xB b.aK) (0:Int) fun u=>aQ (!(((!(f==j))||(!(g==l)))||(!(o==k)))) (uF b.aK) (0:Int) fun v=>bif ((((!(f==j))||(!(g==l)))||(!(o==k)))||(!decide (u=v))) then(some false) else(aQ (((f==g))) (qs p b) false fun r=>aQ ((((f==g))&&r)) (qs p i) false fun w=>bif (((((f==g))&&r)&&w)&&((!decide (b.ak=i.ak))||(!k))) then(some false) else((uE).bind fun x=>some x)))
def Dy (b:ar) (f:bU) (g:bU):Option Bool:=uK b f g
theorem S9 (a0:ar) (a1:bU) (a2:bU):Dy a0 a1 a2=uK a0 a1 a2:=rfl
theorem S_ {j:ar}{l m:bU}{oT:Ab.Obj}{gT:Nat}{r:Bool}(b:Dy j l m=some r) (H:ag) (O:H gT=some oT) (P:ia Tryz.prog oT):AC Tryz.prog 4 [.agg (ar.c j),.agg (bU.c l),.agg (bU.c m)] H fun v h'=>v=.a (.d (.bool r))/\h'=H:=by
 unfold Dy uK at b;refine AC.oW 86 [.tmp 6] Tryz.call4 Tryz.func4 ?_;refine aa (S BX (S BX (S BX (S As (nil ?_)))));refine ay fun o f=>?_;refine aa (S Ld ?_);obtain⟨Q,p,b⟩:=qT (Qi _) b;refine Sc rfl rfl (Qj p) ?_;refine S NB (S Mv (G0 Fv ?_));refine G1 14 rfl Ld ?_;obtain⟨R,q,b⟩:=dB (HK _) b;refine dH 15 rfl rfl rfl rfl rfl (fun hC=>HM (q hC)) ?_
 refine S PO (S Mv (G0 Fv ?_));refine G1 19 rfl Ld ?_;obtain⟨U,s,b⟩:=dB (HK _) b;refine dH 20 rfl rfl rfl rfl rfl (fun hC=>HM (s hC)) ?_;refine S PO (nil ?_);refine cE b (fun t b=>?_) (fun t b=>?_)
 ·refine aa ?_;obtain⟨W,u,b⟩:=qT rfl b;refine s0 (gD rfl rfl (I3 (gT:=gT) (oT:=oT) u _ aJ (by assumption))) rfl ?_;refine S As (nil ?_);exact rt b
 refine sk f ?_;clear f o;refine aa (S Fv (S Ld (S Fv (S Ld ?_))));obtain⟨X,w,b⟩:=qT (Q5 _ _) b;refine Sc rfl rfl (Ik w) ?_;refine S As (nil ?_);refine ah.cH (Sd Ld ?_);obtain⟨Y,x,b⟩:=qT (IB _) b;refine au.s0 (gD rfl rfl (Cf (gT:=gT) (oT:=oT) x _ aJ (by assumption))) rfl ?_;refine Sd Ld ?_;obtain⟨Z,y,b⟩:=qT (IB _) b;refine au.s0 (gD rfl rfl (Cf (gT:=gT) (oT:=oT) y _ aJ (by assumption))) rfl ?_
 refine Sd As (Sd As ?_);refine au.nil (by decide +kernel) ?_;refine ay fun z g=>?_;refine ah.cH (Sd Mv (Sd Ld ?_));obtain⟨ab,B,b⟩:=qT (Jl _) b;refine cN rfl rfl (Jm B) ?_;refine Sd BS (Sd Mv (cr Mv (cr Ld ?_)));obtain⟨ad,C,b⟩:=dB (Jl _) b;refine nN 39 rfl rfl rfl rfl rfl (fun hC=>Jm (C hC)) ?_;refine q_ 38 40 rfl rfl BS ?_;refine Sd PO (Sd Mv (cr Fv ?_))
 refine cK 44 rfl Ld ?_;refine cr Fv ?_;refine cK 46 rfl Ld ?_;obtain⟨ae,E,b⟩:=dB (RL _ _) b;refine kG 45 47 rfl rfl rfl rfl rfl rfl (fun hC=>II (E hC)) ?_;refine cr Mv ?_;refine au.gC rfl rfl (fun hC=>aI (k:=48) rfl (aI (k:=49) rfl (Mp (TK rfl) rfl rfl rfl))) rfl ?_;refine Sd PO (Sd Mv (cr Fv ?_));refine cK 53 rfl Ld ?_;obtain⟨af,F,b⟩:=dB (RM _) b
 refine nN 54 rfl rfl rfl rfl rfl (fun hC=>IJ (F hC)) ?_;refine cr Fv ?_;refine cK 56 rfl Ld ?_;obtain⟨ai,G,b⟩:=dB (I7 _) b;refine nN 57 rfl rfl rfl rfl rfl (fun hC=>I6 (G hC)) ?_;refine q_ 55 58 rfl rfl BI ?_;refine Sd PO ?_;refine au.nil (by decide +kernel) ?_;refine cE b (fun I b=>?_) (fun I b=>?_)
 ·refine aa (S As (nil ?_));exact rt b
 refine sk g ?_;clear g z;refine ay fun J i=>?_;refine aa (S Mv (S Mv (S BS (S Mv (G0 Ld (G0 Ld ?_))))));obtain⟨aj,K,b⟩:=dB (I_ _ _) b;refine fq 65 66 rfl rfl rfl rfl rfl rfl (fun hC=>Jb (K hC)) ?_;refine S PA (S Mv (G0 Ld (G0 Ld ?_)));obtain⟨ak,L,b⟩:=dB (I_ _ _) b;refine fq 70 71 rfl rfl rfl rfl rfl rfl (fun hC=>Jb (L hC)) ?_;refine S PA (S Mv (G0 Fv ?_))
 refine G1 75 rfl Ld ?_;refine G0 Fv ?_;refine G1 77 rfl Ld ?_;refine G2 76 78 rfl rfl BI ?_;refine G1 79 rfl Mv ?_;refine G0 Mv ?_;refine G1 81 rfl NB ?_;refine gC rfl rfl (fun hC=>aI (k:=80) rfl (pM rfl rfl rfl)) rfl ?_;refine S PA (nil ?_);refine cE b (fun M b=>?_) (fun M b=>?_)
 ·refine aa (S As (nil ?_));exact rt b
 refine sk i ?_;clear i J;refine aa ?_;obtain⟨al,N,b⟩:=qT rfl b;refine s0 (gD rfl rfl (I3 (gT:=gT) (oT:=oT) N _ aJ (by assumption))) rfl ?_;refine S As (nil ?_);exact rt b
end
end Go.Proofs
namespace Go.Proofs
open Go Go.Ab
theorem Ta (a:aB) (g:a.aX.l.length<=1048576) (l:List Int) (i:Nat) (h:i+l.length=a.aX.l.length):Ok (nW a l i):=by
 induction l generalizing i with
 | nil=>exact aW.some _
 | cons x r f =>
  simp only [List.length_cons] at h;have hr:=f (i+1) (by omega);rw [nW];simp only [on];refine aW.cond (fun _=>aW.some _) fun _=>?_;by_cases hi:0<i
  ·have h1:decide ((0:Int)<((i:Nat):Int))=true:=by simpa using hi
   obtain⟨v,hv⟩:=Og (l:=a.aX.l) (n:=(i:Int)-1) (by omega);simp only [h1,cond_true,Bool.true_and,F7 (a:=(i:Int)) (b:=1) (by omega)];cases decide (x=1)<;>simp only [aQ,hv,if_true,oB,Bool.false_eq_true,if_false,Bool.false_and,cond_false]
   ·exact hr
   ·(repeat' (first|exact aW.some _|assumption|(with_reducible refine aW.bind ?_ fun _ _=>?_)|(with_reducible refine aW.guard (fun _=>?_) fun _ _ _=>?_)|(with_reducible refine aW.cond (fun _=>?_) fun _=>?_)|(with_reducible refine aW.on fun _ _=>?_)|split))
  ·have h1:decide ((0:Int)<((i:Nat):Int))=false:=by simpa using hi
   simp only [h1,Bool.false_and,aQ,Bool.false_eq_true,if_false,cond_false];exact hr
theorem Jn (a:aB) (b:a.aX.l.length<=1048576):Ok (pZ a):=by
 unfold pZ
 (repeat' (first|exact aW.some _|assumption|(with_reducible refine aW.bind ?_ fun _ _=>?_)|(with_reducible refine aW.guard (fun _=>?_) fun _ _ _=>?_)|(with_reducible refine aW.cond (fun _=>?_) fun _=>?_)|(with_reducible refine aW.on fun _ _=>?_)|split))
 exact Ta a b _ _ (by simp)
theorem Tb (k:af->Option Int) (l:List af) (s:Int) (hk:∀x∈l,∃r,k x=some r/\1<=r/\r<=x.sz) (j:0<=s) (b:s+((l.map af.sz).sum:Nat)<=1152921504606846976):∃r,nQ k l s=some r/\s<=r/\r<=s+((l.map af.sz).sum:Nat):=by
 induction l generalizing s with
 | nil=>exact⟨s,rfl,by simp,by simp⟩
 | cons x r f =>
  obtain⟨v,h1,m,o⟩:=hk x List.mem_cons_self;simp only [List.map_cons,List.sum_cons] at b ⊢;rw [nQ];simp only [on,h1,oB];rw [fU (by omega)];simp only [oB];obtain⟨w,g,p,q⟩:=f (s+v) (fun y i=>hk y (List.mem_cons_of_mem _ i)) (by omega) (by omega);exact⟨w,g,by omega,by omega⟩
theorem af.gW {v x:af}(h:x∈v.av.l):x.sz<v.sz:=by
 have h1:=v.bI; have b:=Sl.dy (f:=af.sz) h; omega
theorem af.Jo (v:af):2+(v.av.l.map af.sz).sum<=v.sz:=by
 have h1:=v.bI; have b:Sl.sz af.sz v.av=1+(v.av.l.map af.sz).sum:=rfl; omega
theorem Tc (n:Nat):∀v:af,v.sz<n->v.sz<=1073741824->∃r,kI n v=some r/\1<=r/\r<=v.sz:=by
 induction n with
 | zero=>intro v h; omega
 | succ n b =>
  intro v h g;have h0:=v.Jo;obtain⟨w,f,i,j⟩:=Tb (kI n) v.av.l 1 (fun x hx=>by have:=af.gW hx; exact b x (by omega) (by omega)) (by omega) (by omega);rw [kI,f];exact⟨w,rfl,by omega,by omega⟩
theorem Jp (v:af) (h:v.sz<=1048576):∃r,vY v=some r/\1<=r/\r<=v.sz:=Tc F0 v (by rw [eD]; omega) (by omega)
theorem Td (k:af->Option Int) (l:List af) (s b:Int) (hk:∀x∈l,∃r,k x=some r/\1<=r/\r<=b) (i:0<=s/\s<=b):∃r,nR k l s=some r/\0<=r/\r<=b:=by
 induction l generalizing s with
 | nil=>exact⟨s,rfl,by omega,by omega⟩
 | cons x r f =>
  obtain⟨v,h1,j,m⟩:=hk x List.mem_cons_self;rw [nR];simp only [on,h1,oB];exact f _ (fun y g=>hk y (List.mem_cons_of_mem _ g)) (by split<;>omega)
theorem Te (n:Nat):∀v:af,v.sz<n->v.sz<=1073741824->∃r,kJ n v=some r/\1<=r/\r<=v.sz:=by
 induction n with
 | zero=>intro v h; omega
 | succ n b =>
  intro v h j;have h0:=v.Jo;obtain⟨w,f,k,m⟩:=Td (kJ n) v.av.l 0 (v.sz-1:Nat) (fun x hx=>by have:=af.gW hx; obtain⟨r,g,i,o⟩:=b x (by omega) (by omega); exact⟨r,g,i,by omega⟩) (by omega);rw [kJ,f];simp only [on,oB];rw [fU (by omega)];exact⟨w+1,rfl,by omega,by omega⟩
theorem Jq (v:af) (h:v.sz<=1048576):Ok (vZ v):=by
 obtain⟨r,hr,_⟩:=Te F0 v (by rw [eD]; omega) (by omega); exact⟨r,hr⟩
theorem Tf (a:Sl Bs) (x:Bs) (m i:Nat) (h:i+m<=a.l.length):Ok (nT a x m i):=by
 induction m generalizing i with
 | zero=>exact aW.some _
 | succ m b =>
  rw [nT]
  (repeat' (first|exact aW.some _|assumption|(with_reducible refine aW.bind ?_ fun _ _=>?_)|(with_reducible refine aW.guard (fun _=>?_) fun _ _ _=>?_)|(with_reducible refine aW.cond (fun _=>?_) fun _=>?_)|(with_reducible refine aW.on fun _ _=>?_)|split))
  ·exact Oh (by omega)
  ·exact b _ (by omega)
theorem Tg (a:Sl Bs) (l:List Bs) (i:Nat) (h:i+l.length=a.l.length):Ok (mG a l i):=by
 induction l generalizing i with
 | nil=>exact aW.some _
 | cons x r b =>
  simp only [List.length_cons] at h;rw [mG]
  (repeat' (first|exact aW.some _|assumption|(with_reducible refine aW.bind ?_ fun _ _=>?_)|(with_reducible refine aW.guard (fun _=>?_) fun _ _ _=>?_)|(with_reducible refine aW.cond (fun _=>?_) fun _=>?_)|(with_reducible refine aW.on fun _ _=>?_)|split))
  ·exact Tf a x _ _ (by omega)
  ·exact b _ (by omega)
theorem Th (a:Sl Bs):Ok (ru a):=by
 unfold ru
 (repeat' (first|exact aW.some _|assumption|(with_reducible refine aW.bind ?_ fun _ _=>?_)|(with_reducible refine aW.guard (fun _=>?_) fun _ _ _=>?_)|(with_reducible refine aW.cond (fun _=>?_) fun _=>?_)|(with_reducible refine aW.on fun _ _=>?_)|split))
 exact Tg a _ _ (by simp)
theorem Ti (v:af) (b:Bool):Ok (kK v b):=by
 unfold kK
 (repeat' (first|exact aW.some _|assumption|(with_reducible refine aW.bind ?_ fun _ _=>?_)|(with_reducible refine aW.guard (fun _=>?_) fun _ _ _=>?_)|(with_reducible refine aW.cond (fun _=>?_) fun _=>?_)|(with_reducible refine aW.on fun _ _=>?_)|split))
 exact Th _
theorem Tj (b:Bool) (k:af->Bool->Option Bool) (l:List af) (hk:∀x∈l,Ok (k x b)):Ok (jM b k l):=by
 induction l with
 | nil=>exact aW.some _
 | cons x r f =>
  rw [jM]
  (repeat' (first|exact aW.some _|assumption|(with_reducible refine aW.bind ?_ fun _ _=>?_)|(with_reducible refine aW.guard (fun _=>?_) fun _ _ _=>?_)|(with_reducible refine aW.cond (fun _=>?_) fun _=>?_)|(with_reducible refine aW.on fun _ _=>?_)|split))
  ·rename_i h; rw [h]; exact hk x List.mem_cons_self
  ·exact f fun y g=>hk y (List.mem_cons_of_mem _ g)
theorem Jr (n:Nat):∀(v:af) (b:Bool),v.sz<n->Ok (gJ n v b):=by
 induction n with
 | zero=>intro v b h; omega
 | succ n f =>
  intro v b h;rw [gJ]
  (repeat' (first|exact aW.some _|assumption|(with_reducible refine aW.bind ?_ fun _ _=>?_)|(with_reducible refine aW.guard (fun _=>?_) fun _ _ _=>?_)|(with_reducible refine aW.cond (fun _=>?_) fun _=>?_)|(with_reducible refine aW.on fun _ _=>?_)|split))
  ·exact Ti _ _
  ·exact Tj b _ _ fun x hx=>f x b (by have:=af.gW hx; omega)
theorem Js (v:af) (h:v.sz<=1048576):Ok (iB v):=by
 unfold iB;obtain⟨r,hr,_⟩:=Jp v h
 (repeat' (first|exact aW.some _|assumption|(with_reducible refine aW.bind ?_ fun _ _=>?_)|(with_reducible refine aW.guard (fun _=>?_) fun _ _ _=>?_)|(with_reducible refine aW.cond (fun _=>?_) fun _=>?_)|(with_reducible refine aW.on fun _ _=>?_)|split))
 ·exact⟨r,hr⟩
 ·exact Jq v h
 ·exact Jr F0 v true (by rw [eD]; omega)
theorem Tm (k:af->Option Bool) (l:List af) (hk:∀x∈l,Ok (k x)):Ok (nU k l):=by
 induction l with
 | nil=>exact aW.some _
 | cons x r b =>
  rw [nU]
  (repeat' (first|exact aW.some _|assumption|(with_reducible refine aW.bind ?_ fun _ _=>?_)|(with_reducible refine aW.guard (fun _=>?_) fun _ _ _=>?_)|(with_reducible refine aW.cond (fun _=>?_) fun _=>?_)|(with_reducible refine aW.on fun _ _=>?_)|split))
  ·rename_i h; rw [h]; exact hk x List.mem_cons_self
  ·exact b fun y f=>hk y (List.mem_cons_of_mem _ f)
theorem Tn (n:Nat):∀(v:af),v.sz<n->Ok (lI n v):=by
 induction n with
 | zero=>intro v h; omega
 | succ n b =>
  intro v h;rw [lI]
  (repeat' (first|exact aW.some _|assumption|(with_reducible refine aW.bind ?_ fun _ _=>?_)|(with_reducible refine aW.guard (fun _=>?_) fun _ _ _=>?_)|(with_reducible refine aW.cond (fun _=>?_) fun _=>?_)|(with_reducible refine aW.on fun _ _=>?_)|split))
  exact Tm _ _ fun x hx=>b x (by have:=af.gW hx; omega)
theorem Jt (v:af) (h:v.sz<=1048576):Ok (we v):=Tn F0 v (by rw [eD]; omega)
theorem ax.To (a:ax):a.cB.sz<=a.sz:=by have:=a.bI; omega
theorem aN.Ju {x:aN}{a:ax}(h:a∈x.aG.l):a.sz<=x.sz:=by have:=x.bI; have:=Sl.dy (f:=ax.sz) h; omega
theorem Tp (b:aN) (l:List ax) (h:∀a∈l,a.sz<=1048576):Ok (pX b l):=by
 induction l with
 | nil=>exact aW.some _
 | cons x r f =>
  have h1:=h x List.mem_cons_self; have i:=x.To;rw [pX]
  (repeat' (first|exact aW.some _|assumption|(with_reducible refine aW.bind ?_ fun _ _=>?_)|(with_reducible refine aW.guard (fun _=>?_) fun _ _ _=>?_)|(with_reducible refine aW.cond (fun _=>?_) fun _=>?_)|(with_reducible refine aW.on fun _ _=>?_)|split))
  all_goals first|exact f fun y g=>h y (List.mem_cons_of_mem _ g)|(subst_vars; first|exact Js _ (by omega)|exact Jt _ (by omega))
theorem Tq (l:List aN) (h:∀a∈l,a.sz<=1048576):Ok (pY l):=by
 induction l with
 | nil=>exact aW.some _
 | cons x r b =>
  have h1:=h x List.mem_cons_self;rw [pY]
  (repeat' (first|exact aW.some _|assumption|(with_reducible refine aW.bind ?_ fun _ _=>?_)|(with_reducible refine aW.guard (fun _=>?_) fun _ _ _=>?_)|(with_reducible refine aW.cond (fun _=>?_) fun _=>?_)|(with_reducible refine aW.on fun _ _=>?_)|split))
  ·exact Tp x _ fun a f=>by have:=aN.Ju f; omega
  ·exact b fun y g=>h y (List.mem_cons_of_mem _ g)
theorem xX (s:Sl aN) (h:Sl.sz aN.sz s<=1048576):Ok (nV s):=by
 unfold nV
 (repeat' (first|exact aW.some _|assumption|(with_reducible refine aW.bind ?_ fun _ _=>?_)|(with_reducible refine aW.guard (fun _=>?_) fun _ _ _=>?_)|(with_reducible refine aW.cond (fun _=>?_) fun _=>?_)|(with_reducible refine aW.on fun _ _=>?_)|split))
 exact Tq _ fun a b=>by have:=Sl.dy (f:=aN.sz) b; omega
theorem aB.qw (r:aB):r.aX.l.length<=r.sz:=by have:=r.bI; have:=Sl.d_ (f:=fun _:Int=>1) r.aX (fun _=>Nat.le_refl _); omega
theorem Tr (l:List Z8) (h:∀a∈l,a.sz<=1048576):Ok (ii l):=by
 induction l with
 | nil=>exact aW.some _
 | cons x r b =>
  have h1:=h x List.mem_cons_self; have g:=x.bI; have i:=x.aO.qw;rw [ii]
  (repeat' (first|exact aW.some _|assumption|(with_reducible refine aW.bind ?_ fun _ _=>?_)|(with_reducible refine aW.guard (fun _=>?_) fun _ _ _=>?_)|(with_reducible refine aW.cond (fun _=>?_) fun _=>?_)|(with_reducible refine aW.on fun _ _=>?_)|split))
  all_goals first|exact b fun y f=>h y (List.mem_cons_of_mem _ f)|(subst_vars; first|exact Jn _ (by omega)|exact xX _ (by omega)|exact Js _ (by omega)|exact Jt _ (by omega))
theorem Jv (s:Sl Z8) (h:Sl.sz Z8.sz s<=1048576):Ok (gx s):=by
 unfold gx
 (repeat' (first|exact aW.some _|assumption|(with_reducible refine aW.bind ?_ fun _ _=>?_)|(with_reducible refine aW.guard (fun _=>?_) fun _ _ _=>?_)|(with_reducible refine aW.cond (fun _=>?_) fun _=>?_)|(with_reducible refine aW.on fun _ _=>?_)|split))
 exact Tr _ fun a b=>by have:=Sl.dy (f:=Z8.sz) b; omega
theorem Tt (l:List Z6) (h:∀a∈l,a.sz<=1048576):Ok (gK l):=by
 induction l with
 | nil=>exact aW.some _
 | cons x r b =>
  have h1:=h x List.mem_cons_self; have p:=x.bI; have q:=x.aO.qw;have s:Z6.zero.aO.aX.l.length<=1048576:=by decide
  rw [gK];simp only [on];cases bQ x.ai<;>simp only [Bool.not_true,Bool.not_false,cond_true,cond_false,Bool.or_false,Bool.or_true,Bool.true_or,Bool.false_or]
  ·simp [aQ]; exact aW.some _
  ·obtain⟨f,g⟩:=Jv x.aG (by omega);obtain⟨i,j⟩:=Jn x.aO (by omega);obtain⟨k,m⟩:=xX x.ct (by omega);have hr:=b fun y o=>h y (List.mem_cons_of_mem _ o);cases f<;>cases i<;>cases k<;>simp [aQ,g,j,m]<;>first|exact aW.some _|exact hr
theorem Tu (s:Sl Z6) (h:Sl.sz Z6.sz s<=1048576):Ok (iP s):=by
 unfold iP
 (repeat' (first|exact aW.some _|assumption|(with_reducible refine aW.bind ?_ fun _ _=>?_)|(with_reducible refine aW.guard (fun _=>?_) fun _ _ _=>?_)|(with_reducible refine aW.cond (fun _=>?_) fun _=>?_)|(with_reducible refine aW.on fun _ _=>?_)|split))
 exact Tt _ fun a b=>by have:=Sl.dy (f:=Z6.sz) b; omega
theorem Tv (b:Bool) (l:List Z9) (h:∀a∈l,a.sz<=1048576):Ok (nX b l):=by
 induction l with
 | nil=>exact aW.some _
 | cons x r f =>
  have h1:=h x List.mem_cons_self; have j:=x.bI;rw [nX];simp only [on];cases bQ x.ai<;>simp only [Bool.not_true,Bool.not_false,cond_true,cond_false,Bool.or_false,Bool.or_true,Bool.true_or,Bool.false_or]
  ·simp [aQ]; exact aW.some _
  ·obtain⟨k,g⟩:=xX x.ct (by omega);have hr:=f fun y i=>h y (List.mem_cons_of_mem _ i);simp only [aQ,g,if_true,oB]
   (repeat' (first|exact aW.some _|assumption|(with_reducible refine aW.bind ?_ fun _ _=>?_)|(with_reducible refine aW.guard (fun _=>?_) fun _ _ _=>?_)|(with_reducible refine aW.cond (fun _=>?_) fun _=>?_)|(with_reducible refine aW.on fun _ _=>?_)|split))
theorem Tw (s:Sl Z9) (b:Bool) (h:Sl.sz Z9.sz s<=1048576):Ok (kM s b):=by
 unfold kM
 (repeat' (first|exact aW.some _|assumption|(with_reducible refine aW.bind ?_ fun _ _=>?_)|(with_reducible refine aW.guard (fun _=>?_) fun _ _ _=>?_)|(with_reducible refine aW.cond (fun _=>?_) fun _=>?_)|(with_reducible refine aW.on fun _ _=>?_)|split))
 exact Tv _ _ fun a g=>by have:=Sl.dy (f:=Z9.sz) g; omega
theorem Tx (x:az) (h:x.sz<=1048576):Ok (gQ x):=by
 have b:=x.bI;unfold gQ
 (repeat' (first|exact aW.some _|assumption|(with_reducible refine aW.bind ?_ fun _ _=>?_)|(with_reducible refine aW.guard (fun _=>?_) fun _ _ _=>?_)|(with_reducible refine aW.cond (fun _=>?_) fun _=>?_)|(with_reducible refine aW.on fun _ _=>?_)|split))
 all_goals first|exact xX _ (by omega)|exact Tu _ (by omega)|exact Tw _ _ (by omega)|exact Jv _ (by omega)
theorem Ty (l:List az) (h:∀a∈l,a.sz<=1048576):Ok (kP l):=by
 induction l with
 | nil=>exact aW.some _
 | cons x r b =>
  rw [kP]
  (repeat' (first|exact aW.some _|assumption|(with_reducible refine aW.bind ?_ fun _ _=>?_)|(with_reducible refine aW.guard (fun _=>?_) fun _ _ _=>?_)|(with_reducible refine aW.cond (fun _=>?_) fun _=>?_)|(with_reducible refine aW.on fun _ _=>?_)|split))
  ·subst_vars; exact Tx _ (h _ List.mem_cons_self)
  ·exact b fun y f=>h y (List.mem_cons_of_mem _ f)
theorem ar.xY {d:ar}{x:az}(h:x∈d.aD.l):x.sz<=d.sz:=by have:=d.bI; have:=Sl.dy (f:=az.sz) h; omega
theorem Tz (d:ar) (h:d.sz<=1048576):Ok (jN d):=by
 unfold jN
 (repeat' (first|exact aW.some _|assumption|(with_reducible refine aW.bind ?_ fun _ _=>?_)|(with_reducible refine aW.guard (fun _=>?_) fun _ _ _=>?_)|(with_reducible refine aW.cond (fun _=>?_) fun _=>?_)|(with_reducible refine aW.on fun _ _=>?_)|split))
 exact Ty _ fun a b=>by have:=ar.xY b; omega
section
variable {α κ γ:Type} [BEq κ] [LawfulBEq κ]
def iW (key:α->κ) (A:List α):Prop:=A.Pairwise fun x y=>key x≠key y
end
section
variable {α κ γ:Type} [BEq κ] [LawfulBEq κ]
omit [LawfulBEq κ] in
end
end Go.Proofs
namespace Go.Proofs
open Go Go.Ab
def Pf (o:Option (Sl Z5)) (s:List Z5) (P:Prop):Prop:=∀r,o=some r->(s≠[]->r.l≠[])/\(r.l=[]->P)
theorem Pf.pure {u:Sl Z5}{P:Prop}(h:P):Pf (some u) u.l P:=fun r e=>by cases e; exact⟨fun h=>h,fun _=>h⟩
theorem Pf.imp {o:Option (Sl Z5)}{s:List Z5}{P Q:Prop}(h:Pf o s P) (hi:P->Q):Pf o s Q:=fun r e=>⟨(h r e).1,fun b=>hi ((h r e).2 b)⟩
theorem Pf.none (s:List Z5) (P:Prop):Pf Option.none s P:=fun r e=>(by cases e)
theorem Pf.bind {o:Option (Sl Z5)}{f:Sl Z5->Option (Sl Z5)}{s:List Z5}{P Q:Prop}(h:Pf o s P) (i:∀u:Sl Z5,Pf (f u) u.l Q):Pf (o.bind f) s (P/\Q):=fun r e=>by
 cases b:o with
 | none=>rw [b] at e; cases e
 | some u =>
  rw [b] at e;have h1:=h u b;have g:=i u r e;refine⟨fun j=>g.1 (h1.1 j),fun hr=>⟨h1.2 ?_,g.2 hr⟩⟩;exact Classical.byContradiction fun hc=>g.1 hc hr
theorem Pf.skip {α:Type}{o:Option α}{f:α->Option (Sl Z5)}{s:List Z5}{Q:Prop}(g:∀u,o=some u->Pf (f u) s Q):Pf (o.bind f) s Q:=fun r e=>by
 cases b:o with
 | none=>rw [b] at e; cases e
 | some u=>rw [b] at e; exact g u b r e
theorem Pf.guard {α:Type}{c:Bool}{o:Option α}{d:α}{f:α->Option (Sl Z5)}{s:List Z5}{Q:Prop}(g:∀u,(c=true->o=some u)->Pf (f u) s Q):Pf (aQ c o d f) s Q:=by
 cases c
 ·exact g d fun h=>(by cases h)
 ·intro r e;cases b:o with
  | none=>rw [b] at e; cases e
  | some u=>rw [b] at e; exact g u (fun _=>b) r e
theorem Jy {α:Type}{z:Nat}{s r u:Sl α}(h:bp z s r=some u):u.l=s.l++r.l:=by
 unfold bp at h
 split at h
 ·cases h; rfl
 ·cases h
theorem Pf.add (u:Sl Z5) (b:Bool) (x:Z5) (P:Prop):Pf (bp 24 u ⟨b,[x]⟩) u.l P:=fun r e=>by
 have:=Jy e;rw [this];exact⟨fun _=>by simp,fun h=>by simp at h⟩
theorem Pf.id {o:Option (Sl Z5)}{s:List Z5}{P:Prop}(h:Pf o s P):Pf (o.bind fun x=>some x) s P:=fun r e=>by
 cases b:o with
 | none=>rw [b] at e; cases e
 | some u=>rw [b] at e; cases e; exact h _ b
theorem Pf.xZ {o:Option (Sl Z5)}{P:Prop}(s:Sl Z5) (h:Pf o [] P):Pf (o.bind fun x=>bp 24 s x) s.l P:=fun r e=>by
 cases b:o with
 | none=>rw [b] at e; cases e
 | some u =>
  rw [b] at e;have h1:=Jy e;rw [h1];exact⟨fun f=>by simp [f],fun g=>(h u b).2 (List.append_eq_nil_iff.1 g).2⟩
theorem Pf.x_ {o:Option (Sl Z5)}{k:Sl Z5->Option (Sl Z5)}{P Q:Prop}(s:Sl Z5) (h:Pf o [] P) (hk:∀u:Sl Z5,Pf (k u) u.l Q):Pf (o.bind fun x=>(bp 24 s x).bind k) s.l (P/\Q):=by
 have:=(Pf.xZ s h).bind hk
 rwa [Option.bind_assoc] at this
def Gn {α:Type}(key:α->Bs) (l:List α) (j:Nat):Prop:=∀x,l[j]?=some x->∀m y,m<j->l[m]?=some y->key y≠key x
theorem Dz {α:Type}{key:α->Bs}{l:List α}(h:∀j,Gn key l j):iW key l:=by
 unfold iW;rw [List.pairwise_iff_getElem];intro i j hi b f;exact h j _ (List.getElem?_eq_getElem b) i _ f (List.getElem?_eq_getElem hi)
theorem Jz {α:Type}{key:α->Bs}{l:List α}{j:Nat}(h:∀x,l[j]?=some x->((l.take j).any fun y=>key y==key x)=false):Gn key l j:=fun x hx m y hm b e=>by
 have h1:=h x hx;rw [List.any_eq_false] at h1;have f:y∈l.take j:=by
  have:(l.take j)[m]?=some y:=by rw [List.getElem?_take_of_lt hm]; exact b
  exact List.mem_of_getElem? this
 exact h1 y f (beq_iff_eq.mpr e)
theorem DA (n:Bs) (bad before:Bool) (a:Bs):Pf (jO n bad before a) [] (before=false):=by
 unfold jO;refine Pf.guard fun u _=>?_;refine(Pf.bind (P:=True) (Q:=before=false) ?_ fun u=>?_).imp And.right
 ·cases (bad||!u)
  ·exact Pf.pure (u:=(Sl.nil:Sl Z5)) trivial
  ·exact(Pf.add (Sl.nil:Sl Z5) _ _ _).id
 ·refine Pf.id ?_;cases before
  ·exact Pf.pure rfl
  ·exact(Pf.add _ _ _ _).id
theorem JA (n:Bs):∀l:List Z8,(match mN n l with|.inl _=>false|.inr e=>e.2)=l.any fun y=>y.ai==n
 | []=>rfl
 | a::r=>by
  rw [mN,List.any_cons];simp only [Ab.on];cases a.ai==n
  ·exact JA n r
  ·rfl
theorem TB (s:Sl Z8) (n:Bs):(jm s n).2=s.l.any fun y=>y.ai==n:=by
 rw [<- JA];unfold jm;simp only [Ab.on];cases mN n s.l<;>rfl
theorem JB (n:Bs):∀l:List Z6,(match iC n l with|.inl _=>false|.inr e=>e.2)=l.any fun y=>y.ai==n
 | []=>rfl
 | a::r=>by
  rw [iC,List.any_cons];simp only [Ab.on];cases a.ai==n
  ·exact JB n r
  ·rfl
theorem TC (t:az) (n:Bs):(gb t n).2=t.br.l.any fun y=>y.ai==n:=by
 rw [<- JB];unfold gb;simp only [Ab.on];cases iC n t.br.l<;>rfl
theorem ya {α:Type}{l r:List α}{i:Nat}{x:α}(h:l.drop i=x::r):l[i]?=some x/\l.drop (i+1)=r:=by
 have hi:i<l.length:=by
  rcases Nat.lt_or_ge i l.length with c|c
  ·exact c
  ·rw [List.drop_of_length_le c] at h; cases h
 rw [List.drop_eq_getElem_cons hi] at h;simp only [List.cons.injEq] at h;exact⟨by rw [List.getElem?_eq_getElem hi,h.1],h.2⟩
theorem uL {α:Type}{l:List α}{i j:Nat}(h:l.drop i=[]) (b:i<=j):l[j]?=none:=List.getElem?_eq_none (by have:=congrArg List.length h; simp at this; omega)
theorem JC (d:ar) (a1:Sl Z8) (p q:Bs):∀(l:List Z8) (i:Nat) (s:Sl Z5),a1.l.drop i=l->Pf (jq d a1 p q l i s) s.l (∀j,i<=j->Gn Z8.ai a1.l j)
 | [],i,s,h=>by
  rw [jq];exact Pf.pure fun j b x hx=>by rw [uL h b] at hx; cases hx
 | a::r,i,s,h=>by
  obtain⟨h1,g⟩:=ya h;rw [jq];simp only [Ab.on];refine Pf.skip fun t _=>Pf.skip fun t _=>?_;refine(Pf.x_ (Q:=∀j,i+1<=j->Gn Z8.ai a1.l j) s (DA _ _ _ _) fun u=>?_).imp fun⟨f,z2⟩ j b=>?_
  ·refine(Pf.bind (P:=True) ?_ fun u=>JC d a1 p q r (i+1) u g).imp And.right;cases mM d a.aO.ai
   ·exact(Pf.add _ _ _ _).id
   ·cases jo d a.aO.ai
    ·exact(Pf.add _ _ _ _).id
    ·exact Pf.pure trivial
  ·rcases Nat.lt_or_ge i j with c|c
   ·exact z2 j c
   ·obtain rfl:j=i:=by omega
    rw [TB] at f;exact Jz fun x hx=>by rw [h1] at hx; cases hx; exact f
theorem JD (d:ar) (a1:Sl Z8) (p q:Bs):Pf (jP d a1 p q) [] (iW Z8.ai a1.l):=by
 unfold jP;exact((JC d a1 p q a1.l 0 Sl.nil rfl).imp fun h=>Dz fun j=>h j (Nat.zero_le j)).id
theorem JE (d:ar) (t:az):∀(l:List Z6) (i:Nat) (s:Sl Z5),t.br.l.drop i=l->Pf (iD d t l i s) s.l (∀j,i<=j->Gn Z6.ai t.br.l j/\∀x,t.br.l[j]?=some x->iW Z8.ai x.aG.l)
 | [],i,s,h=>by
  rw [iD];exact Pf.pure fun j b=>⟨fun x hx=>(by rw [uL h b] at hx; cases hx),fun x hx=>(by rw [uL h b] at hx; cases hx)⟩
 | a::r,i,s,h=>by
  obtain⟨h1,g⟩:=ya h;rw [iD];simp only [Ab.on];refine Pf.skip fun t1 _=>Pf.skip fun t2 _=>?_;refine(Pf.x_ (Q:=iW Z8.ai a.aG.l/\∀j,i+1<=j->Gn Z6.ai t.br.l j/\∀x,t.br.l[j]?=some x->iW Z8.ai x.aG.l) s (DA _ _ _ _) fun u=>?_).imp fun⟨f,z2,z3⟩ j b=>?_
  ·refine(Pf.bind (P:=True) ?_ fun u=>?_).imp And.right
   ·cases mM d a.aO.ai
    ·exact(Pf.add _ _ _ _).id
    ·rw [Bool.not_true,cond_false];generalize (((!iQ a.aO.ai)&&(cV d a.aO.ai).2)&&(decide ((cV d a.aO.ai).1.ak=(5:Int))))=c;cases c
     ·exact Pf.pure trivial
     ·exact(Pf.add _ _ _ _).id
   ·refine Pf.skip fun t3 _=>?_;exact Pf.x_ u (JD _ _ _ _) fun u=>JE d t r (i+1) u g
  ·rcases Nat.lt_or_ge i j with c|c
   ·exact z3 j c
   ·obtain rfl:j=i:=by omega
    rw [TC] at f;exact⟨Jz fun x hx=>(by rw [h1] at hx; cases hx; exact f),fun x hx=>(by rw [h1] at hx; cases hx; exact z2)⟩
theorem TD (d:ar) (t:az):Pf (oa d t) [] (iW Z6.ai t.br.l/\∀x∈t.br.l,iW Z8.ai x.aG.l):=by
 unfold oa;refine((JE d t t.br.l 0 Sl.nil rfl).imp fun h=>⟨Dz fun j=>(h j (Nat.zero_le j)).1,fun x hx=>?_⟩).id;obtain⟨j,b,rfl⟩:=List.mem_iff_getElem.1 hx;exact(h j (Nat.zero_le j)).2 _ (List.getElem?_eq_getElem b)
theorem TE {a b c:Int}(h:bY a b=some c):c=a+b:=by
 unfold bY at h
 split at h
 ·cases h; rfl
 ·cases h
theorem JF (d:ar) (t:az) (s:Sl Z5):Pf (nY d t s) s.l True:=by
 unfold nY rI;refine Pf.skip fun c _=>?_;cases c
 ·exact Pf.pure trivial
 ·exact(Pf.add _ _ _ _).id
theorem JG (d:ar) (t:az) (s:Sl Z5):Pf (nZ d t s) s.l True:=by
 unfold nZ;generalize (((((((t.ai==([81,117,101,114,121]:Bs)))||((t.ai==([77,117,116,97,116,105,111,110]:Bs))))||((t.ai==([83,117,98,115,99,114,105,112,116,105,111,110]:Bs))))&&(!decide (t.ak=(1:Int))))||(decide (t.ak<(1:Int))))||(decide ((5:Int)<t.ak)))=c;cases c
 ·exact JF d t s
 ·exact(Pf.bind (P:=True) (Pf.add _ _ _ _) fun u=>JF d t u).imp fun _=>trivial
theorem TF (d:ar) (t:az) (b:Bool):Pf (p7 d t b) [] (b=false):=by
 unfold p7;rw [tR];refine(Pf.bind (Q:=True) (DA _ _ _ _) fun u=>?_).imp And.left;refine Pf.skip fun c _=>?_;cases c
 ·exact JG d t u
 ·exact(Pf.bind (P:=True) (Pf.add _ _ _ _) fun u=>JG d t u).imp fun _=>trivial
theorem JH (d:ar) (t:az) (i:Nat):∀(n k:Nat) (b:Bool),Pf (mL d (i:Int) t n b (k:Int)) [] (b=false/\∀m y,k<=m->m<i->d.aD.l[m]?=some y->y.ai≠t.ai)
 | 0,k,b=>by rw [mL]; exact Pf.none _ _
 | n+1,k,b=>by
  rw [mL];by_cases hk:k<i
  ·rw [dT (by omega:((k:Nat):Int)<((i:Nat):Int)),cond_true];refine Pf.guard fun x hx=>Pf.skip fun k' j=>?_;have e:k'=((k+1:Nat):Int):=by rw [TE j]; omega
   rw [e];refine(JH d t i n (k+1) (b||x.ai==t.ai)).imp fun⟨h1,o⟩=>?_;rw [Bool.or_eq_false_iff] at h1;refine⟨h1.1,fun m y m1 m2 g=>?_⟩;rcases Nat.lt_or_ge k m with c|c
   ·exact o m y c m2 g
   ·obtain rfl:m=k:=by omega
    have f:=hx (by rw [h1.1]; rfl);unfold cq at f;rw [if_pos (by omega),Int.toNat_natCast,g] at f;cases f;exact beq_eq_false_iff_ne.1 h1.2
  ·rw [dF (by omega:¬((k:Nat):Int)<((i:Nat):Int)),cond_false];exact(TF d t b).imp fun h=>⟨h,fun m y m1 m2=>by omega⟩
theorem TG (d:ar) (i:Nat):Pf (tV d (i:Int)) [] (Gn az.ai d.aD.l i):=by
 unfold tV p8;refine Pf.skip fun x hx=>Pf.skip fun b _=>?_;refine(JH d x i F0 0 b).imp fun⟨_,f⟩=>?_;intro z g m y hm j;unfold cq at hx;rw [if_pos (by omega),Int.toNat_natCast,g] at hx;cases hx;exact f m y (Nat.zero_le m) hm j
def uM (t:az):Prop:=(t.ak=1\/t.ak=2->iW Z6.ai t.br.l/\∀x∈t.br.l,iW Z8.ai x.aG.l)/\(t.ak=5->iW Z8.ai t.bP.l)
theorem JI (d:ar):∀(l:List az) (i:Nat) (s:Sl Z5),d.aD.l.drop i=l->Pf (jr d l i s) s.l (∀j,i<=j->Gn az.ai d.aD.l j/\∀x,d.aD.l[j]?=some x->uM x)
 | [],i,s,h=>by
  rw [jr];exact Pf.pure fun j f=>⟨fun x hx=>(by rw [uL h f] at hx; cases hx),fun x hx=>(by rw [uL h f] at hx; cases hx)⟩
 | a::r,i,s,h=>by
  obtain⟨h1,k⟩:=ya h;rw [jr];simp only [Ab.on];refine(Pf.x_ (Q:=uM a/\∀j,i+1<=j->Gn az.ai d.aD.l j/\∀x,d.aD.l[j]?=some x->uM x) s (TG d i) fun u=>?_).imp fun⟨m,z2,z3⟩ j f=>?_
  ·refine Pf.bind ?_ fun u=>JI d r (i+1) u k;have p:(bif (decide (a.ak=(1:Int))) then((decide (a.ak=(1:Int)))) else((decide (a.ak=(2:Int)))))=decide (a.ak=1\/a.ak=2):=by
    by_cases c1:a.ak=1<;>by_cases c2:a.ak=2<;>simp [c1,c2]
   rw [p];by_cases b:a.ak=1\/a.ak=2
   ·rw [dT b,cond_true];have:=(Pf.xZ u (TD d a)).id;rw [Option.bind_assoc] at this;exact this.imp fun h=>⟨fun _=>h,fun q=>by omega⟩
   ·rw [dF b,cond_false];by_cases g:a.ak=4
    ·rw [dT g,cond_true];have:=(Pf.xZ (P:=True) u (o:=p9 a) fun r _=>⟨fun h=>absurd rfl h,fun _=>trivial⟩).id;rw [Option.bind_assoc] at this;exact this.imp fun _=>⟨fun h=>absurd h b,fun q=>by omega⟩
    ·rw [dF g,cond_false];by_cases c5:a.ak=5
     ·rw [dT c5,cond_true];refine Pf.skip fun t _=>?_;have:=(Pf.xZ u (JD d a.bP t [])).id;rw [Option.bind_assoc] at this;exact this.imp fun h=>⟨fun h=>absurd h b,fun _=>h⟩
     ·rw [dF c5,cond_false];exact Pf.pure ⟨fun h=>absurd h b,fun h=>absurd h c5⟩
  ·rcases Nat.lt_or_ge i j with c|c
   ·exact z3 j c
   ·obtain rfl:j=i:=by omega
    exact⟨m,fun x hx=>by rw [h1] at hx; cases hx; exact z2⟩
theorem TH {d:ar}{b:Bool}{r:Sl Z5}(h:mQ d b=some r) (hr:r.l=[]):iW az.ai d.aD.l/\∀t∈d.aD.l,uM t:=by
 have g:Pf (mQ d b) [] (∀j,0<=j->Gn az.ai d.aD.l j/\∀x,d.aD.l[j]?=some x->uM x):=by
  unfold mQ;simp only [Ab.on];refine(Pf.bind (Q:=True) (JI d d.aD.l 0 Sl.nil rfl) fun u=>?_).imp And.left;refine Pf.id ?_;generalize (b&&(!(cV d ([81,117,101,114,121]:Bs)).2))=c;cases c
  ·exact Pf.pure trivial
  ·exact(Pf.add _ _ _ _).id
 have f:=(g r h).2 hr;refine⟨Dz fun j=>(f j (Nat.zero_le j)).1,fun t ht=>?_⟩;obtain⟨j,i,rfl⟩:=List.mem_iff_getElem.1 ht;exact(f j (Nat.zero_le j)).2 _ (List.getElem?_eq_getElem i)
theorem eB {α:Type}{c:Bool}{a b:Option α}{z:α}(h:cond c a b=some z):(c=true/\a=some z)\/(c=false/\b=some z):=by cases c; exact .inr ⟨rfl,h⟩; exact .inl ⟨rfl,h⟩
theorem dS {α β:Type}{c:Bool}{o:Option α}{d:α}{k:α->Option β}{z:β}(h:aQ c o d k=some z):(c=true/\∃v,o=some v/\k v=some z)\/(c=false/\k d=some z):=by
  cases c
  · exact .inr ⟨rfl,h⟩
  · cases b:o with
    | none=>rw [b] at h; cases h
    | some v=>rw [b] at h; exact .inl ⟨rfl,v,rfl,h⟩
theorem DB (l:List Bs) (y:Bool) (h:kO l=Sum.inr y):y=false:=by
  induction l with
  | nil=>cases h
  | cons a r b =>
    rw [kO] at h;simp only [Ab.on] at h
    revert h
    cases (!bQ a) with
    | true=>intro h; exact(Sum.inr.inj h).symm
    | false=>exact b
theorem TJ (l:List az) (z:Unit ⊕ Bool) (h:kP l=some z):(z=Sum.inl ()/\∀x∈l,gQ x=some true)\/z=Sum.inr false:=by
  induction l generalizing z with
  | nil=>rw [kP] at h; exact .inl ⟨(oJ h).symm,fun a f=>by cases f⟩
  | cons a r i =>
    rw [kP] at h;simp only [Ab.on] at h;obtain⟨x,g,h⟩:=cS h;cases x with
    | false=>simp at h; exact .inr h.symm
    | true =>
      simp only [Bool.not_true,cond_false] at h;rcases i z h with ⟨h1,j⟩|h1
      · exact .inl ⟨h1,fun y b=>by rcases List.mem_cons.1 b with rfl|b; exact g; exact j y b⟩
      · exact .inr h1
theorem uN {d:ar}(h:jN d=some true):∀x∈d.aD.l,gQ x=some true:=by
  unfold jN at h;rcases eB h with ⟨_,h⟩|⟨_,h⟩
  · cases h
  · obtain⟨z,g,h⟩:=cS h
    rcases TJ _ _ g with ⟨_,h1⟩|rfl
    · exact h1
    · cases h
theorem TL {t:az}(h:gQ t=some true):((t.ak=1\/t.ak=2)\/t.br.l=[])/\(t.ak=5\/t.bP.l=[]):=by
  unfold gQ at h;simp only [Ab.on] at h;rcases dS h with ⟨_,f,_,h⟩|⟨_,h⟩<;>rcases eB h with ⟨_,h⟩|⟨_,h⟩;all_goals first
    | (cases h; done)
    | (cases e:kO t.cw.l with
       | inr y=>rw [e] at h; have:=DB _ _ e; subst this; cases h
       | inl _ =>
         rw [e] at h;simp only at h;rcases eB h with ⟨b,h⟩|⟨_,h⟩
         · obtain⟨g,_,h⟩:=cS h
           simp at h b;exact⟨.inl (.inl b),.inr h.2⟩
         · rcases eB h with ⟨b,h⟩|⟨_,h⟩
           · rcases dS h with ⟨_,x,_,h⟩|⟨_,h⟩
             · simp at h b; exact⟨.inl (.inr b),.inr h.2⟩
             · simp at h
           · rcases eB h with ⟨_,h⟩|⟨_,h⟩
             · rcases dS h with ⟨_,x,_,h⟩|⟨_,h⟩
               · simp at h; exact⟨.inr h.1.1.2,.inr h.2⟩
               · simp at h
             · rcases eB h with ⟨_,h⟩|⟨_,h⟩
               · rcases dS h with ⟨_,x,_,h⟩|⟨_,h⟩
                 · simp at h; exact⟨.inr h.1.1.2,.inr h.2⟩
                 · simp at h
               · rcases eB h with ⟨b,h⟩|⟨_,h⟩
                 · rcases dS h with ⟨_,x,ex,h⟩|⟨_,h⟩
                   · simp at h b; exact⟨.inr h.1.1.1.2,.inl b⟩
                   · simp at h
                 · cases h)
def Tl {α:Type}(o:Option (Sl α)) (b:Nat):Prop:=∃r,o=some r/\r.l.length<=b
theorem Tl.mono {α:Type}{o:Option (Sl α)}{a b:Nat}(h:Tl o a) (f:a<=b):Tl o b:=by obtain⟨r,h1,g⟩:=h; exact⟨r,h1,by omega⟩
theorem uO {s r:Sl Z5}(h:s.l.length+r.l.length<=1073741824):∃v,bp 24 s r=some v/\v.l.length=s.l.length+r.l.length:=⟨_,gG (by decide) (by omega),by simp⟩
theorem Tl.nr {s:Sl Z5}{x:Z5}{b:Nat}(h:s.l.length<=b) (g:b<=1000000000):Tl ((bp 24 s (⟨false,[x]⟩:Sl Z5)).bind fun y=>some y) (b+1):=by
 obtain⟨v,h1,f⟩:=uO (s:=s) (r:=⟨false,[x]⟩) (by simp; omega);exact⟨v,by rw [h1]; rfl,by rw [f]; simp; omega⟩
theorem Tl.bind {α β:Type}{o:Option (Sl α)}{k:Sl α->Option (Sl β)}{a b:Nat}(h:Tl o a) (hk:∀r:Sl α,r.l.length<=a->Tl (k r) b):Tl (o.bind k) b:=by
 obtain⟨r,h1,f⟩:=h;rw [h1]; exact hk r f
theorem Bs.d_ (s:Bs):s.length<=Bs.sz s:=Nat.le_succ _
theorem TM (s:Bs):∃v,mI s=some v:=by
 unfold mI
 match s with
 | []=>exact⟨_,rfl⟩
 | [a]=>exact⟨_,rfl⟩
 | a::b::r =>
  rw [show decide ((2:Int)<=(((a::b::r:Bs).length:Nat):Int))=true from dT (by simp only [List.length_cons]; omega)];simp only [aQ,if_true,List.getElem?_cons_zero,List.getElem?_cons_succ,oB,Bool.true_and]
  split<;>exact⟨_,rfl⟩
theorem TN (s:Bs):∃v,rD s=some v:=by
 unfold rD;simp only [Ab.on];cases bQ s
 ·exact⟨_,rfl⟩
 ·obtain⟨v,hv⟩:=TM s;simp only [aQ,if_true,hv];exact⟨_,rfl⟩
theorem yb (a:Bs) (b c:Bool) (d:Bs):Tl (jO a b c d) 2:=by
 unfold jO;obtain⟨v,hv⟩:=TN a;have h1:∀z:Bool,Tl (bif z then((bp 24 (Sl.nil:Sl Z5) (⟨false,[(Z5.mk (6:Int) d)]⟩:Sl Z5)).bind fun f=>some f) else(some (Sl.nil:Sl Z5))) 1:=by
  intro z;cases z
  ·exact⟨Sl.nil,rfl,by simp [Sl.nil]⟩
  ·exact Tl.nr (s:=Sl.nil) (b:=0) (Nat.le_refl _) (by omega)
 have g:∀z,Tl (Option.bind (bif z then((bp 24 (Sl.nil:Sl Z5) (⟨false,[(Z5.mk (6:Int) d)]⟩:Sl Z5)).bind fun f=>some f) else(some (Sl.nil:Sl Z5))) fun i=>Option.bind (bif c then((bp 24 i (⟨false,[(Z5.mk (7:Int) d)]⟩:Sl Z5)).bind fun j=>some j) else(some i)) fun k=>some k) 2:=by
  intro z;refine(h1 z).bind fun r hr=>?_;cases c
  ·exact⟨r,rfl,by omega⟩
  ·refine(Tl.nr hr (by omega)).bind fun q hq=>⟨q,rfl,by omega⟩
 cases b
 ·simp only [aQ,Bool.not_false,if_true,hv,oB]; exact g _
 ·exact g true
theorem Tl.oN {s:Sl Z5}{o:Option (Sl Z5)}{a b c:Nat}{k:Sl Z5->Option (Sl Z5)}(g:s.l.length<=a) (h:Tl o b) (i:a+b<=1000000000) (hk:∀r:Sl Z5,r.l.length<=a+b->Tl (k r) c):Tl (o.bind fun x=>(bp 24 s x).bind k) c:=by
 obtain⟨r,h1,j⟩:=h;obtain⟨v,f,m⟩:=uO (s:=s) (r:=r) (by omega);rw [h1,oB,f,oB];exact hk v (by omega)
theorem DC (d:ar) (a1:Sl Z8) (p q:Bs) (f:p.length<=10000000) (hq:q.length<=10):∀(l:List Z8) (i:Nat) (s:Sl Z5),(∀x∈l,x.ai.length<=1048576)->s.l.length+3*l.length<=900000000->Tl (jq d a1 p q l i s) (s.l.length+3*l.length)
 | [],i,s,_,_=>⟨s,rfl,by simp⟩
 | x::l,i,s,hx,g=>by
  have hn:=hx x (.head _);simp only [List.length_cons] at g;rw [jq];simp only [Ab.on];rw [cM (by omega),oB,cM (by simp; omega),oB];refine Tl.oN (Nat.le_refl _) (yb _ _ _ _) (by omega) fun r hr=>?_;have key:∀(y:Z5),Tl (Option.bind ((bp 24 r (⟨false,[y]⟩:Sl Z5)).bind fun z=>some z) fun j=>jq d a1 p q l (i+1) j) (s.l.length+3*(l.length+1)):=by
   intro y;refine(Tl.nr hr (by omega)).bind fun v hv=>?_;exact(DC d a1 p q f hq l (i+1) v (fun z b=>hx z (.tail _ b)) (by omega)).mono (by omega)
  rw [List.length_cons];cases mM d x.aO.ai
  ·exact key _
  ·cases jo d x.aO.ai
   ·exact key _
   ·exact(DC d a1 p q f hq l (i+1) r (fun z b=>hx z (.tail _ b)) (by omega)).mono (by omega)
theorem JJ (d:ar) (a1:Sl Z8) (p q:Bs) (i:p.length<=10000000) (hq:q.length<=10) (h1:Sl.sz Z8.sz a1<=1048576):Tl (jP d a1 p q) (3*a1.l.length):=by
 unfold jP;have hl:=Sl.d_ (f:=Z8.sz) a1 (fun x=>Z8.pos x);have:=DC d a1 p q i hq a1.l 0 Sl.nil (fun x hx=>by
  have b:=Sl.dy (f:=Z8.sz) hx;have g:=x.bI;have j:x.ai.length<=Bs.sz x.ai:=Bs.d_ _;omega) (by simp [Sl.nil]; omega)
 obtain⟨r,b,g⟩:=this;rw [b];exact⟨r,rfl,by simpa [Sl.nil] using g⟩
theorem JK (d:ar) (a1:az) (k:a1.ai.length<=1048576):∀(l:List Z6) (i:Nat) (s:Sl Z5),(l.map Z6.sz).sum<=1048576->s.l.length+3*(l.map Z6.sz).sum<=900000000->Tl (iD d a1 l i s) (s.l.length+3*(l.map Z6.sz).sum)
 | [],i,s,_,_=>⟨s,rfl,by simp⟩
 | x::l,i,s,hx,m=>by
  simp only [List.map_cons,List.sum_cons] at hx m;have p:=x.bI;have q:x.ai.length<=Bs.sz x.ai:=Bs.d_ _;have t:=Sl.d_ (f:=Z8.sz) x.aG (fun x=>Z8.pos x);have u:=Bs.gH x.ai;rw [iD];simp only [Ab.on];rw [cM (by simp; omega),oB,cM (by simp; omega),oB];refine Tl.oN (Nat.le_refl _) (yb _ _ _ _) (by omega) fun r hr=>?_;have rest:∀v:Sl Z5,v.l.length<=s.l.length+3->Tl ((a_ (a1.ai++[46]++x.ai) ([40]:Bs)).bind fun b=>(jP d x.aG b ([41]:Bs)).bind fun g=>(bp 24 v g).bind fun j=>iD d a1 l (i+1) j) (s.l.length+3*(x.sz+(l.map Z6.sz).sum)):=by
   intro v hv;rw [cM (by simp; omega),oB];refine Tl.oN hv (JJ d x.aG _ _ (by simp; omega) (by simp) (by omega)) (by omega) fun w hw=>?_;exact(JK d a1 k l (i+1) w (by omega) (by omega)).mono (by omega)
  have key:∀(y:Z5),Tl (Option.bind ((bp 24 r (⟨false,[y]⟩:Sl Z5)).bind fun z=>some z) fun o=>(a_ (a1.ai++[46]++x.ai) ([40]:Bs)).bind fun b=>(jP d x.aG b ([41]:Bs)).bind fun g=>(bp 24 o g).bind fun j=>iD d a1 l (i+1) j) (s.l.length+3*(x.sz+(l.map Z6.sz).sum)):=by
   intro y;exact(Tl.nr hr (by omega)).bind fun v hv=>rest v (by omega)
  simp only [List.map_cons,List.sum_cons];cases mM d x.aO.ai
  ·exact key _
  ·cases B:((!iQ x.aO.ai)&&(cV d x.aO.ai).2)&&decide ((cV d x.aO.ai).1.ak=5)
   ·exact rest r (by omega)
   ·exact key _
theorem TO (d:ar) (a1:az) (h:a1.sz<=1048576):Tl (oa d a1) (3*a1.sz):=by
 unfold oa;have f:=a1.bI;have g:a1.ai.length<=Bs.sz a1.ai:=Bs.d_ _;have i:Sl.sz Z6.sz a1.br=1+(a1.br.l.map Z6.sz).sum:=rfl;obtain⟨r,h1,b⟩:=JK d a1 (by omega) a1.br.l 0 Sl.nil (by omega) (by simp [Sl.nil]; omega);rw [h1];exact⟨r,rfl,by simp [Sl.nil] at b; omega⟩
theorem DD (a:az) (x:Z9):∀(n i:Nat) (b:Bool),i+n<=a.cm.l.length->∃v,oc a x n i b=some v
 | 0,_,b,_=>⟨b,rfl⟩
 | n+1,i,b,h=>by
  rw [oc];cases b
  ·simp only [aQ,Bool.not_false,if_true];rw [List.getElem?_eq_getElem (show i<a.cm.l.length by omega),oB];exact DD a x n (i+1) _ (by omega)
  ·simp only [aQ,Bool.not_true];exact DD a x n (i+1) _ (by omega)
theorem JL (a:az) (b:a.ai.length<=1048576):∀(l:List Z9) (i:Nat) (s:Sl Z5),(∀x∈l,x.ai.length<=1048576)->i+l.length=a.cm.l.length->s.l.length+2*l.length<=900000000->Tl (lJ a l i s) (s.l.length+2*l.length)
 | [],i,s,_,_,_=>⟨s,rfl,by simp⟩
 | x::l,i,s,hx,hi,f=>by
  have hn:=hx x (.head _);simp only [List.length_cons] at f hi;rw [lJ];simp only [Ab.on];obtain⟨v,hv⟩:=DD a x i 0 false (by omega);rw [hv,oB,cM (by simp; omega),oB,cM (by simp; omega),oB];refine Tl.oN (Nat.le_refl _) (yb _ _ _ _) (by omega) fun r hr=>?_;exact(JL a b l (i+1) r (fun z g=>hx z (.tail _ g)) (by omega) (by omega)).mono (by simp only [List.length_cons]; omega)
theorem TP (a:az) (h:a.sz<=1048576):Tl (p9 a) (3*a.sz):=by
 unfold p9;have g:=a.bI;have i:a.ai.length<=Bs.sz a.ai:=Bs.d_ _;have j:=Sl.d_ (f:=Z9.sz) a.cm (fun x=>Z9.pos x);obtain⟨r,h1,b⟩:=JL a (by omega) a.cm.l 0 Sl.nil (fun x hx=>by
  have k:=Sl.dy (f:=Z9.sz) hx;have m:=x.bI;have o:x.ai.length<=Bs.sz x.ai:=Bs.d_ _;omega) (by simp) (by simp [Sl.nil]; omega)
 rw [h1];exact⟨r,rfl,by simp [Sl.nil] at b; omega⟩
def left (b s:List Bs):Nat:=(b.filter fun x=>!s.contains x).length
theorem TQ {f s:List Bs}{x:Bs}(i:x∈f) (j:s.contains x=false):left f (s++[x])+1<=left f s:=by
 have mono:∀l:List Bs,(l.filter fun y=>!(s++[x]).contains y).length<=(l.filter fun y=>!s.contains y).length:=by
  intro l;induction l with
  | nil=>simp
  | cons a r k =>
   have m:s.contains a=true->(s++[x]).contains a=true:=by
    intro h;simp only [List.contains_eq_mem,decide_eq_true_eq,List.mem_append] at h ⊢;exact .inl h
   cases h1:s.contains a
   ·cases g:(s++[x]).contains a
    ·rw [List.filter_cons_of_pos (by rw [g]; rfl),List.filter_cons_of_pos (by rw [h1]; rfl)];simp only [List.length_cons]; omega
    ·rw [List.filter_cons_of_neg (by rw [g]; decide),List.filter_cons_of_pos (by rw [h1]; rfl)];simp only [List.length_cons]; omega
   ·rw [List.filter_cons_of_neg (by rw [m h1]; decide),List.filter_cons_of_neg (by rw [h1]; decide)]; exact k
 unfold left;obtain⟨a,b,rfl⟩:=List.append_of_mem i;rw [List.filter_append,List.filter_append,List.length_append,List.length_append];have hx:(s++[x]).contains x=true:=by simp
 rw [List.filter_cons_of_neg (by rw [hx]; decide),List.filter_cons_of_pos (by rw [j]; rfl)];have h1:=mono a;have g:=mono b;simp only [List.length_cons]; omega
def yc (d:az):List Bs:=d.bP.l.map fun x=>x.aO.ai
def iX (d:ar):List Bs:=d.aD.l.flatMap yc
theorem TR (d:ar):(iX d).length<=d.sz:=by
 have h1:=d.bI;have b:Sl.sz az.sz d.aD=1+(d.aD.l.map az.sz).sum:=rfl;have:∀l:List az,(l.flatMap yc).length<=(l.map az.sz).sum:=by
  intro l;induction l with
  | nil=>simp
  | cons a r g =>
   have i:=a.bI;have j:=Sl.d_ (f:=Z8.sz) a.bP (fun x=>Z8.pos x);simp only [List.flatMap_cons,List.length_append,List.map_cons,List.sum_cons];have:(yc a).length=a.bP.l.length:=by unfold yc; rw [List.length_map]
   omega
 have:=this d.aD.l;unfold iX; omega
theorem JM:∀(l:List Bs) (x:Bs),(match mJ x l with|Sum.inl _=>false|Sum.inr e=>e)=l.contains x
 | [],_=>rfl
 | a::r,x=>by
  rw [mJ,List.contains_cons];simp only [Ab.on];by_cases h:a=x
  ·subst h; simp
  ·have b:(a==x)=false:=by simpa using h
   have f:(x==a)=false:=by simpa using fun e=>h e.symm
   rw [b,f,cond_false,Bool.false_or]; exact JM r x
theorem TS (t:aB):∃b,rG t=some b:=by
 unfold rG;by_cases h:t.aX.l.length=1
 ·rw [show decide (((t.aX.l.length:Nat):Int)=1)=true from dT (by omega)];simp only [aQ,if_true];rw [List.getElem?_eq_getElem (show 0<t.aX.l.length by omega)];exact⟨_,rfl⟩
 ·rw [show decide (((t.aX.l.length:Nat):Int)=1)=false from dF (by omega)];exact⟨_,rfl⟩
def Vs (b:List Bs) (M:Nat) (s:Sl Bs):Prop:=s.l.length+left b s.l<=M
theorem uP (d:ar) (c:Bs) (f:List Bs) (M:Nat) (g:M<=2000000):∀(l:List Z8) (s:Sl Bs),(∀x∈l,x.aO.ai∈f)->Vs f M s->∃r,mK d c l s=some r/\Vs f M r/\s.l.length<=r.l.length
 | [],s,_,h=>⟨s,rfl,h,Nat.le_refl _⟩
 | x::l,s,hx,h=>by
  have hn:=hx x (.head _);have i:∀z∈l,z.aO.ai∈f:=fun z j=>hx z (.tail _ j);obtain⟨b,k⟩:=TS x.aO;rw [mK];simp only [Ab.on];rw [k,oB];generalize (b&&((x.aO.ai==c)||((cV d x.aO.ai).2&&decide ((cV d x.aO.ai).1.ak=5))))=w;have hq:rF s x.aO.ai=s.l.contains x.aO.ai:=by
   rw [<- JM]; unfold rF; simp only [Ab.on];all_goals (cases mJ x.aO.ai s.l<;>rfl)
  cases w
  ·exact uP d c f M g l s i h
  ·rw [cond_true,hq];cases hc:s.l.contains x.aO.ai
   ·unfold Vs at h;have hl:=TQ hn hc;simp only [Bool.not_false,Bool.and_self,cond_true];rw [gG (by decide) (by simp; omega),oB,oB];obtain⟨r,h1,m,o⟩:=uP d c f M g l ⟨s.nl&&([x.aO.ai]:List Bs).isEmpty,s.l++[x.aO.ai]⟩ i (by unfold Vs; simp only [List.length_append,List.length_cons,List.length_nil]; omega);exact⟨r,h1,m,by simp only [List.length_append,List.length_cons,List.length_nil] at o; omega⟩
   ·exact uP d c f M g l s i h
theorem JN (d:ar) (n:Bs):(cV d n).1∈d.aD.l\/(cV d n).1.bP.l=[]:=by
 unfold cV;simp only [Ab.on];have:∀l:List az,(match ij n l with|Sum.inl _=>True|Sum.inr e=>e.1∈l):=by
  intro l;induction l with
  | nil=>exact trivial
  | cons a r b =>
   rw [ij];simp only [Ab.on];cases hq:a.ai==n
   ·simp only [cond_false]
    revert b
    cases ij n r with
    | inl u=>intro _; exact trivial
    | inr e=>intro b; exact .tail _ b
   ·exact .head _
 have h:=this d.aD.l
 revert h
 cases ij n d.aD.l with
 | inl u=>intro _; exact .inr rfl
 | inr e=>intro h; exact .inl h
theorem JO {d:ar}{a:az}(h:a∈d.aD.l\/a.bP.l=[]):∀x∈a.bP.l,x.aO.ai∈iX d:=by
 intro x hx;rcases h with h|h
 ·exact List.mem_flatMap.2 ⟨a,h,List.mem_map.2 ⟨x,hx,rfl⟩⟩
 ·rw [h] at hx; cases hx
theorem JP (d:ar) (a:az) (f:(iX d).length<=1048576):∀(n i:Nat) (s:Sl Bs),Vs (iX d) (iX d).length s->i<=s.l.length->(iX d).length+1<=n+i->∃b,rH d a n s i=some b
 | 0,i,s,h,hi,hn=>by unfold Vs at h; omega
 | n+1,i,s,h,hi,hn=>by
  rw [rH];by_cases bh:i<s.l.length
  ·rw [show decide (((i:Nat):Int)<((s.l.length:Nat):Int))=true from dT (by omega),cond_true,List.getElem?_eq_getElem bh,oB,jj,oB,GY];unfold tS;obtain⟨r,h1,g,j⟩:=uP d a.ai (iX d) (iX d).length (by omega) _ s (JO (JN d s.l[i])) h;rw [h1,oB];simp only [Ab.on,oB];exact JP d a f n (i+1) r g (by omega) (by omega)
  ·rw [show decide (((i:Nat):Int)<((s.l.length:Nat):Int))=false from dF (by omega),cond_false];unfold ww;rw [GW];exact⟨_,rfl⟩
theorem TT {d:ar}(i:d.sz<=1048576){a:az}(f:a∈d.aD.l):∃b,tU d a=some b:=by
 have j:=TR d;unfold tU;cases hk:(!decide (a.ak=(5:Int)))
 ·rw [cond_false,GY];unfold tS;have h0:Vs (iX d) (iX d).length Sl.nil:=by
   unfold Vs left;have:=List.length_filter_le (fun x=>!(Sl.nil:Sl Bs).l.contains x) (iX d);simp only [Sl.nil,List.length_nil] at this ⊢; omega
  obtain⟨r,h1,g,k⟩:=uP d a.ai (iX d) (iX d).length (by omega) a.bP.l Sl.nil (JO (.inl f)) h0;rw [h1,oB];simp only [Ab.on,oB];exact JP d a (by omega) F0 0 r g (by omega) (by rw [eD]; omega)
 ·exact⟨false,rfl⟩
theorem JQ {s:Sl Z5}{b:Nat}(h:s.l.length<=b):Tl (rI s) b:=⟨s,rfl,h⟩
theorem JR {d:ar}(f:d.sz<=1048576){a:az}(g:a∈d.aD.l){s:Sl Z5}{b:Nat}(h:s.l.length<=b) (j:b<=1000):Tl (nY d a s) (b+1):=by
 unfold nY;obtain⟨v,hv⟩:=TT f g;rw [hv,oB];cases v
 ·exact(JQ h).mono (by omega)
 ·obtain⟨w,h1,i⟩:=uO (s:=s) (r:=⟨false,[Z5.mk (5:Int) a.ai]⟩) (by simp; omega);rw [cond_true,h1,oB];exact JQ (by rw [i]; simp; omega)
theorem JS {d:ar}(f:d.sz<=1048576){a:az}(g:a∈d.aD.l){s:Sl Z5}{b:Nat}(h:s.l.length<=b) (j:b<=900):Tl (nZ d a s) (b+2):=by
 unfold nZ;generalize (((((((a.ai==([81,117,101,114,121]:Bs)))||((a.ai==([77,117,116,97,116,105,111,110]:Bs))))||((a.ai==([83,117,98,115,99,114,105,112,116,105,111,110]:Bs))))&&(!decide (a.ak=(1:Int))))||(decide (a.ak<(1:Int))))||(decide ((5:Int)<a.ak)))=w;cases w
 ·exact(JR f g h (by omega)).mono (by omega)
 ·obtain⟨w,h1,i⟩:=uO (s:=s) (r:=⟨false,[Z5.mk (9:Int) a.ai]⟩) (by simp; omega);rw [cond_true,h1,oB];exact(JR (b:=b+1) f g (by rw [i]; simp; omega) (by omega)).mono (by omega)
theorem TU {d:ar}(f:d.sz<=1048576){a:az}(g:a∈d.aD.l) (t:Bool):Tl (p7 d a t) 5:=by
 unfold p7;rw [tR];refine(yb _ _ _ _).bind fun r hr=>?_;rw [Pb,oB];cases wq a
 ·exact(JS f g hr (by omega)).mono (by omega)
 ·obtain⟨w,h1,i⟩:=uO (s:=r) (r:=⟨false,[Z5.mk (8:Int) a.ai]⟩) (by simp; omega);rw [cond_true,h1,oB];exact JS (b:=3) f g (by rw [i]; simp; omega) (by omega)
theorem DE {d:ar}(b:d.sz<=1048576){a:az}(f:a∈d.aD.l) (N:Nat) (g:N<=d.aD.l.length) (hl:d.aD.l.length<=1048576):∀(n i:Nat) (t:Bool),i<=N->N-i<n->Tl (mL d ((N:Nat):Int) a n t (i:Int)) 5
 | 0,_,_,_,h=>by omega
 | n+1,i,t,hi,hn=>by
  rw [mL];by_cases bh:i<N
  ·have one:bY (i:Int) 1=some (((i+1:Nat)):Int):=by rw [fU (by omega)]; rfl
   have j:cq d.aD.l (i:Int)=some (d.aD.l[i]'(by omega)):=by
    unfold cq; rw [if_pos (by omega),Int.toNat_natCast,List.getElem?_eq_getElem (show i<d.aD.l.length by omega)]
   rw [show decide ((i:Int)<((N:Nat):Int))=true from dT (by omega),cond_true,one,j];cases t
   ·exact DE b f N g hl n (i+1) _ (by omega) (by omega)
   ·exact DE b f N g hl n (i+1) _ (by omega) (by omega)
  ·rw [show decide ((i:Int)<((N:Nat):Int))=false from dF (by omega),cond_false];exact TU b f t
theorem TV {d:ar}(b:d.sz<=1048576){i:Nat}(hi:i<d.aD.l.length):Tl (tV d ((i:Nat):Int)) 5:=by
 have h1:=d.bI;have j:=Sl.d_ (f:=az.sz) d.aD (fun x=>az.pos x);show Tl (p8 d ((i:Nat):Int)) 5;unfold p8;have g:cq d.aD.l (i:Int)=some (d.aD.l[i]):=by
  unfold cq; rw [if_pos (by omega),Int.toNat_natCast,List.getElem?_eq_getElem hi]
 rw [g,oB,rB,oB];exact DE b (List.getElem_mem hi) i (by omega) (by omega) F0 0 _ (by omega) (by rw [eD]; omega)
theorem JT {d:ar}(j:d.sz<=1048576):∀(l:List az) (i:Nat) (s:Sl Z5),d.aD.l.drop i=l->s.l.length+8*(l.map az.sz).sum<=900000000->Tl (jr d l i s) (s.l.length+8*(l.map az.sz).sum)
 | [],i,s,_,_=>⟨s,rfl,by simp⟩
 | x::l,i,s,hl,k=>by
  have hi:i<d.aD.l.length:=by
   have:=congrArg List.length hl;simp only [List.length_drop,List.length_cons] at this; omega
  have hx:x∈d.aD.l:=List.mem_of_mem_drop (i:=i) (by rw [hl]; exact .head _);have m:d.aD.l.drop (i+1)=l:=by rw [<- List.drop_drop,hl]; rfl
  have h1:=Sl.dy (f:=az.sz) hx;have p:=d.bI;have q:=x.bI;have t:=Bs.d_ x.ai;have u:=Bs.gH x.ai;have y:=Sl.d_ (f:=Z8.sz) x.bP (fun x=>Z8.pos x);simp only [List.map_cons,List.sum_cons] at k ⊢;rw [jr];simp only [Ab.on];refine Tl.oN (Nat.le_refl _) (TV j hi) (by omega) fun r hr=>?_;have rest:∀(o:Option (Sl Z5)),Tl o (s.l.length+5+3*x.sz)->Tl (o.bind fun v=>jr d l (i+1) v) (s.l.length+8*(x.sz+(l.map az.sz).sum)):=by
   intro o g;refine g.bind fun v hv=>?_;exact(JT j l (i+1) v m (by omega)).mono (by omega)
  have fin:∀{o:Option (Sl Z5)}{b:Nat},Tl o b->b<=3*x.sz->Tl (o.bind fun v=>(bp 24 r v).bind fun w=>some w) (s.l.length+5+3*x.sz):=by
   intro o b g z;exact Tl.oN hr g (by omega) fun w hw=>⟨w,rfl,by omega⟩
  refine rest _ ?_;cases (bif decide (x.ak=1) then decide (x.ak=1) else decide (x.ak=2))
  ·rw [cond_false];cases decide (x.ak=4)
   ·rw [cond_false];cases decide (x.ak=5)
    ·exact⟨r,rfl,by omega⟩
    ·rw [cond_true,cM (by simp; omega),oB];exact fin (JJ d x.bP _ _ (by simp; omega) (by simp) (by omega)) (by omega)
   ·exact fin (TP x (by omega)) (by omega)
  ·exact fin (TO d x (by omega)) (by omega)
theorem TW {d:ar}(f:d.sz<=1048576) (b:Bool):Tl (mQ d b) 9000000:=by
 unfold mQ;have j:=d.bI;have k:Sl.sz az.sz d.aD=1+(d.aD.l.map az.sz).sum:=rfl;refine Tl.bind (a:=8*(d.aD.l.map az.sz).sum) ?_ fun r hr=>?_
 ·obtain⟨r,g,i⟩:=JT f d.aD.l 0 Sl.nil rfl (by simp [Sl.nil]; omega);exact⟨r,g,by simp [Sl.nil] at i; omega⟩
 ·simp only [Ab.on];cases (b&&(!(cV d ([81,117,101,114,121]:Bs)).2))
  ·exact⟨r,rfl,by omega⟩
  ·refine(Tl.nr hr (by omega)).bind fun v hv=>⟨v,rfl,by omega⟩
theorem JU (d:ar) (N:Nat) (f:N<d.aD.l.length) (hl:d.aD.l.length<=1048576):∀(n i:Nat),i<=N->N-i<n->∃b,ol d ((N:Nat):Int) n (i:Int)=some b
 | 0,_,_,h=>by omega
 | n+1,i,hi,hn=>by
  rw [ol];by_cases bh:i<N
  ·have one:bY (i:Int) 1=some (((i+1:Nat)):Int):=by rw [fU (by omega)]; rfl
   have h1:cq d.aD.l (i:Int)=some (d.aD.l[i]'(by omega)):=by
    unfold cq; rw [if_pos (by omega),Int.toNat_natCast,List.getElem?_eq_getElem (show i<d.aD.l.length by omega)]
   have g:cq d.aD.l ((N:Nat):Int)=some (d.aD.l[N]):=by
    unfold cq; rw [if_pos (by omega),Int.toNat_natCast,List.getElem?_eq_getElem f]
   rw [show decide ((i:Int)<((N:Nat):Int))=true from dT (by omega),cond_true,h1,g,oB,oB,one];cases ((d.aD.l[i]'(by omega)).ai==(d.aD.l[N]).ai)
   ·exact JU d N f hl n (i+1) (by omega) (by omega)
   ·exact⟨_,rfl⟩
  ·rw [show decide ((i:Int)<((N:Nat):Int))=false from dF (by omega),cond_false];exact⟨_,rfl⟩
theorem TX {d:ar}(hl:d.aD.l.length<=1048576){i:Nat}(hi:i<d.aD.l.length):∃b,rJ d ((i:Nat):Int)=some b:=JU d i hi hl F0 0 (by omega) (by rw [eD]; omega)
theorem DF {d:ar}(f:d.aD.l.length<=1048576) (n:Bs) (x:az×Bool):∀(l:List az) (i:Nat) (s:Sl Bs),d.aD.l.drop i=l->s.l.length+l.length<=4000000->Tl (fD d n x l i s) (s.l.length+l.length)
 | [],i,s,_,_=>⟨s,rfl,by simp⟩
 | y::l,i,s,hl,j=>by
  have hi:i<d.aD.l.length:=by
   have:=congrArg List.length hl;simp only [List.length_drop,List.length_cons] at this; omega
  have g:d.aD.l.drop (i+1)=l:=by rw [<- List.drop_drop,hl]; rfl
  simp only [List.length_cons] at j ⊢;rw [fD];cases x.2
  ·exact⟨s,rfl,by omega⟩
  ·rw [cond_true];simp only [Ab.on];have same:Tl (fD d n x l (i+1) s) (s.l.length+(l.length+1)):=(DF f n x l (i+1) s g (by omega)).mono (by omega);have more:Tl (Option.bind ((bp 16 s (⟨false,[y.ai]⟩:Sl Bs)).bind fun k=>some k) fun v=>fD d n x l (i+1) v) (s.l.length+(l.length+1)):=by
    rw [gG (by decide) (by simp; omega),oB,oB];exact(DF f n x l (i+1) _ g (by simp; omega)).mono (by simp; omega)
   obtain⟨b,m⟩:=TX f hi;cases hk:decide (y.ak=1)
   ·simp only [aQ,Bool.not_false,Bool.not_true,Bool.true_or,cond_true,oB];exact same
   ·simp only [aQ,Bool.not_true,Bool.not_false,if_true,m,oB,Bool.false_or];cases b
    ·exact same
    ·simp only [Bool.not_true,cond_false];generalize ((((decide (x.1.ak=(1:Int)))&&((y.ai==n)))||((decide (x.1.ak=(2:Int)))&&_))||((decide (x.1.ak=(3:Int)))&&_))=w;cases w
     ·exact same
     ·exact more
theorem TY {d:ar}(b:d.aD.l.length<=1048576) (n:Bs):Tl (kR d n) d.aD.l.length:=by
 unfold kR;simp only [Ab.on];obtain⟨r,h1,f⟩:=DF b n (cV d n) d.aD.l 0 Sl.nil rfl (by simp [Sl.nil]; omega);rw [h1];exact⟨r,rfl,by simpa [Sl.nil] using f⟩
theorem TZ {d:ar}(f:d.aD.l.length<=1048576) (n m:Bs):∃b,rK d n m=some b:=by
 unfold rK;obtain⟨r,h1,-⟩:=TY f m;rw [h1]; exact⟨_,rfl⟩
def Sm (x:az):Prop:=x.br.l.length<=1000/\x.cm.l.length<=1000/\x.cw.l.length<=1000/\x.bP.l.length<=1000/\∀f∈x.br.l,f.aG.l.length<=1000
theorem JV {t:aB}(h:t.aX.l.length<=1048576) (h1:1<=t.aX.l.length):mS t=some ⟨t.ai,⟨false,t.aX.l.drop 1⟩⟩:=by
 unfold mS;rw [F8 h1,oB,gG (by decide) (by simp; omega)];simp
theorem DG {t:aB}(h:t.aX.l.length<=1048576):∃u,jQ t=some u/\u.aX.l.length<=t.aX.l.length/\(fw t=true->u.aX.l.length<t.aX.l.length):=by
 unfold jQ;simp only [Ab.on];cases hn:fw t
 ·rw [cond_false,gG (by decide) (by simp; omega)];exact⟨_,rfl,by simp,fun h=>by cases h⟩
 ·have h1:1<=t.aX.l.length:=by
   unfold fw at hn;cases hw:t.aX.l with
   | nil=>rw [hw] at hn; cases hn
   | cons a r=>simp
  rw [cond_true,JV h h1];exact⟨_,rfl,by simp,fun _=>by simp; omega⟩
theorem DH {t:aB}(h:t.aX.l.length<=1048576):∃u b,lM t=some (u,b)/\(b=true->u.aX.l.length<t.aX.l.length):=by
 obtain⟨u,h1,f,-⟩:=DG h;unfold lM oh;rw [h1,oB];simp only [Ab.on,oB];cases hl:(decide ((0:Int)<((u.aX.l.length:Nat):Int))&&decide ((bif decide ((0:Int)<((u.aX.l.length:Nat):Int)) then(u.aX.l[0]?).getD 0 else 0)=2))
 ·exact⟨_,false,rfl,fun h=>by cases h⟩
 ·simp only [Bool.and_eq_true,decide_eq_true_eq] at hl;rw [Bool.not_true,cond_false,JV (by omega) (by omega),oB];exact⟨_,true,rfl,fun _=>by simp; omega⟩
theorem yd {d:ar}(f:d.aD.l.length<=1048576):∀(n:Nat) (a b:aB),a.aX.l.length<n->a.aX.l.length<=1048576->b.aX.l.length<=1048576->∃v,lP n d a b=some v
 | 0,_,_,h,_,_=>by omega
 | n+1,a,b,hn,j,g=>by
  rw [lP];simp only [Ab.on];obtain⟨u,k,E,m⟩:=DG j;obtain⟨w,o,F,G⟩:=DG g;cases H:fw b
  ·rw [cond_false];cases i:fw a
   ·rw [cond_false];obtain⟨p,x,r,s⟩:=DH j;obtain⟨q,y,t,B⟩:=DH g;rw [r,t,oB,oB];obtain⟨z,C⟩:=TZ f a.ai b.ai;cases x
    ·cases y
     ·simp only [Bool.false_and,cond_false,Bool.not_false,Bool.true_and,Bool.and_self];cases (a.ai==b.ai)
      ·simp only [aQ,Bool.not_false,if_true,C,oB]; exact⟨_,rfl⟩
      ·exact⟨_,rfl⟩
     ·exact⟨_,rfl⟩
    ·cases y
     ·exact⟨_,rfl⟩
     ·have hq:=B rfl;have I:=s rfl;obtain⟨v,hv⟩:=yd f n p q (by omega) (by omega) (by omega);simp only [Bool.and_self,cond_true,hv,oB];exact⟨_,rfl⟩
   ·rw [cond_true,k,oB];obtain⟨v,hv⟩:=yd f n u b (by have:=m i; omega) (by omega) g;rw [hv]; exact⟨_,rfl⟩
  ·rw [cond_true];cases i:fw a
   ·exact⟨_,rfl⟩
   ·obtain⟨v,hv⟩:=yd f n u w (by have:=m i; omega) (by omega) (by omega);simp only [aQ,if_true,k,o,hv,oB];exact⟨_,rfl⟩
theorem T0 (a b:aB):∃v,kQ a b=some v:=by
 have loop:∀(c:Sl Int) (l:List Int) (i:Nat),l.length+i<=c.l.length->∃o,lK c l i=some o:=by
  intro c l;induction l with
  | nil=>intro i _; exact⟨_,rfl⟩
  | cons x r f =>
   intro i h;simp only [List.length_cons] at h;rw [lK];simp only [Ab.on];rw [List.getElem?_eq_getElem (show i<c.l.length by omega),oB];cases (!decide (x=c.l[i]'(by omega)))
   ·exact f (i+1) (by omega)
   ·exact⟨_,rfl⟩
 have g:∃v,od a.aX b.aX=some v:=by
  unfold od;by_cases h:a.aX.l.length=b.aX.l.length
  ·rw [show (!decide (((a.aX.l.length:Nat):Int)=((b.aX.l.length:Nat):Int)))=false by rw [dT (show ((a.aX.l.length:Nat):Int)=((b.aX.l.length:Nat):Int) by omega)]; rfl,cond_false];obtain⟨o,j⟩:=loop b.aX a.aX.l 0 (by omega);rw [j];cases o<;>exact⟨_,rfl⟩
  ·rw [show (!decide (((a.aX.l.length:Nat):Int)=((b.aX.l.length:Nat):Int)))=true by rw [dF (show ¬((a.aX.l.length:Nat):Int)=((b.aX.l.length:Nat):Int) by omega)]; rfl];exact⟨_,rfl⟩
 obtain⟨v,hv⟩:=g;unfold kQ;cases (a.ai==b.ai)
 ·exact⟨_,rfl⟩
 ·simp only [aQ,if_true,hv]; exact⟨_,rfl⟩
theorem sY {s r:Sl Z5}{T:Nat}(b:T<=1099511627776) (h:s.l.length+r.l.length<=T):∃v,bp 24 s r=some v/\v.l.length=s.l.length+r.l.length:=⟨_,gG (by decide) (Nat.le_trans h b),by simp⟩
theorem Tl.sY {s:Sl Z5}{o:Option (Sl Z5)}{b c T:Nat}{k:Sl Z5->Option (Sl Z5)}(f:T<=1099511627776) (h:Tl o b) (i:s.l.length+b<=T) (hk:∀r:Sl Z5,r.l.length<=s.l.length+b->Tl (k r) c):Tl (o.bind fun x=>(bp 24 s x).bind k) c:=by
 obtain⟨r,h1,j⟩:=h;obtain⟨v,g,m⟩:=Go.Proofs.sY (s:=s) (r:=r) f (by omega);rw [h1,oB,g,oB];exact hk v (by omega)
theorem T4 (a:az) (n:Bs):(gb a n).1∈a.br.l\/((gb a n).1.aG.l=[]/\(gb a n).1.aO.aX.l=[]):=by
 unfold gb;simp only [Ab.on];have:∀l:List Z6,(match iC n l with|Sum.inl _=>True|Sum.inr e=>e.1∈l):=by
  intro l;induction l with
  | nil=>exact trivial
  | cons x r b =>
   rw [iC];simp only [Ab.on];cases hq:x.ai==n
   ·simp only [cond_false]
    revert b
    cases iC n r with
    | inl u=>intro _; exact trivial
    | inr e=>intro b; exact .tail _ b
   ·exact .head _
 have h:=this a.br.l
 revert h
 cases iC n a.br.l with
 | inl u=>intro _; exact .inr ⟨rfl,rfl⟩
 | inr e=>intro h; exact .inl h
theorem JW {f:Z6}(h:f.sz<=1048576):(∀x∈f.aG.l,x.ai.length<=1048576)/\f.ai.length<=1048576/\f.aO.aX.l.length<=1048576:=by
 have h1:=f.bI;have b:=Bs.d_ f.ai;have g:=f.aO.bI;have i:=Sl.d_ (f:=fun _:Int=>1) f.aO.aX (fun _=>Nat.le_refl _);refine⟨fun x hx=>?_,by omega,by omega⟩;have j:=Sl.dy (f:=Z8.sz) hx;have k:=x.bI;have m:=Bs.d_ x.ai;omega
theorem JX (p:Bs) (i:p.length<=10000000) (x:Z6×Bool):∀(l:List Z8) (s:Sl Z5),(∀y∈l,y.ai.length<=1048576)->s.l.length+l.length<=1000000->Tl (jR p x l s) (s.l.length+l.length)
 | [],s,_,_=>⟨s,rfl,by simp⟩
 | y::l,s,f,j=>by
  have hn:=f y (.head _);simp only [List.length_cons] at j ⊢;rw [jR];simp only [Ab.on];have g:∀v:Sl Z5,v.l.length<=s.l.length+1->Tl (jR p x l v) (s.l.length+(l.length+1)):=fun v hv=>(JX p i x l v (fun z k=>f z (.tail _ k)) (by omega)).mono (by omega);have more:Tl (Option.bind ((a_ p ([40]:Bs)).bind fun m=>(a_ m y.ai).bind fun o=>(a_ o ([41]:Bs)).bind fun q=>(bp 24 s (⟨false,[(Z5.mk (22:Int) q)]⟩:Sl Z5)).bind fun r=>some r) fun v=>jR p x l v) (s.l.length+(l.length+1)):=by
   rw [cM (by simp; omega),oB,cM (by simp; omega),oB,cM (by simp; omega),oB];exact(Tl.nr (Nat.le_refl _) (by omega)).bind fun v hv=>g v hv
  cases (jm x.1.aG y.ai).2
  ·simp only [aQ,Bool.not_false,Bool.not_true,Bool.true_or,cond_true];exact more
  ·obtain⟨b,t⟩:=T0 (jm x.1.aG y.ai).1.aO y.aO;simp only [aQ,Bool.not_true,Bool.not_false,if_true,cond_true,Bool.false_or,t,oB];cases b
   ·exact more
   ·exact g s (by omega)
theorem JY (a:Z6) (p:Bs) (g:p.length<=10000000):∀(l:List Z8) (s:Sl Z5),(∀y∈l,y.ai.length<=1048576)->s.l.length+l.length<=1000000->Tl (js a p l s) (s.l.length+l.length)
 | [],s,_,_=>⟨s,rfl,by simp⟩
 | y::l,s,b,i=>by
  have hn:=b y (.head _);simp only [List.length_cons] at i ⊢;rw [js];simp only [Ab.on];have f:∀v:Sl Z5,v.l.length<=s.l.length+1->Tl (js a p l v) (s.l.length+(l.length+1)):=fun v hv=>(JY a p g l v (fun z j=>b z (.tail _ j)) (by omega)).mono (by omega);have both:∀w:Bool,Tl (Option.bind (bif w then((a_ p ([40]:Bs)).bind fun k=>(a_ k y.ai).bind fun m=>(a_ m ([41]:Bs)).bind fun o=>(bp 24 s (⟨false,[(Z5.mk (22:Int) o)]⟩:Sl Z5)).bind fun q=>some q) else some s) fun v=>js a p l v) (s.l.length+(l.length+1)):=by
   intro w;cases w
   ·exact f s (by omega)
   ·rw [cond_true,cM (by simp; omega),oB,cM (by simp; omega),oB,cM (by simp; omega),oB];exact(Tl.nr (Nat.le_refl _) (by omega)).bind fun v hv=>f v hv
  exact both _
theorem T6 {d:ar}(g:d.aD.l.length<=1048576){a:az}(u:a.sz<=1048576) (i:Sm a){f:Z6}(j:f.sz<=1048576) (x:f.aG.l.length<=1000):Tl (rL d a f) 2001:=by
 obtain⟨g1,g2,g3⟩:=JW j;have h1:=a.bI;have z:=Bs.d_ a.ai;have hx:(∀y∈(gb a f.ai).1.aG.l,y.ai.length<=1048576)/\(gb a f.ai).1.aG.l.length<=1000/\(gb a f.ai).1.aO.aX.l.length<=1048576:=by
  rcases T4 a f.ai with h|⟨h,h'⟩
  ·have B:=Sl.dy (f:=Z6.sz) h;obtain⟨k,k2,m⟩:=JW (f:=(gb a f.ai).1) (by omega);exact⟨k,i.2.2.2.2 _ h,m⟩
  ·rw [h,h']; exact⟨fun _ h=>(by cases h),by simp,by simp⟩
 unfold rL;rw [cM (by simp; omega),oB,cM (by simp; omega),oB];simp only [Ab.on];cases (gb a f.ai).2
 ·exact⟨_,rfl,by simp⟩
 ·obtain⟨v,hv⟩:=yd g F0 (gb a f.ai).1.aO f.aO (by rw [eD]; omega) hx.2.2 g3;rw [Bool.not_true,cond_false,show AV d (gb a f.ai).1.aO f.aO=some v from hv,oB];have first:∀w:Bool,Tl (bif w then((bp 24 (Sl.nil:Sl Z5) (⟨false,[(Z5.mk (10:Int) (a.ai++[46]++f.ai))]⟩:Sl Z5)).bind fun o=>some o) else(some (Sl.nil:Sl Z5))) 1:=by
   intro w;cases w
   ·exact⟨Sl.nil,rfl,by simp [Sl.nil]⟩
   ·exact Tl.nr (s:=Sl.nil) (b:=0) (Nat.le_refl _) (by omega)
  refine(first (!v)).bind fun r hr=>?_;refine Tl.bind (a:=1001) ((JX _ (by simp; omega) _ f.aG.l r g1 (by omega)).mono (by omega)) fun p C=>?_;refine Tl.bind (a:=2001) ((JY f _ (by simp; omega) _ p hx.1 (by have:=hx.2.1; omega)).mono (by have:=hx.2.1; omega)) fun q t=>?_;exact⟨q,rfl,t⟩
theorem JZ {d:ar}(b:d.aD.l.length<=1048576){a:az}(g:a.sz<=1048576) (i:Sm a){T:Nat}(j:T<=1099511627776):∀(l:List Z6) (s:Sl Z5),(∀f∈l,f.sz<=1048576/\f.aG.l.length<=1000)->s.l.length+2001*l.length<=T->Tl (lQ d a l s) (s.l.length+2001*l.length)
 | [],s,_,_=>⟨s,rfl,by simp⟩
 | f::l,s,k,h=>by
  simp only [List.length_cons] at h ⊢;obtain⟨f1,f2⟩:=k f (.head _);rw [lQ];simp only [Ab.on];refine Tl.sY j (T6 b g i f1 f2) (Nat.le_trans (Nat.add_le_add_left (Nat.le_mul_of_pos_right 2001 (Nat.succ_pos l.length)) s.l.length) h) fun r hr=>?_;exact(JZ b g i j l r (fun z m=>k z (.tail _ m)) (by omega)).mono (by omega)
def ye (d:ar):Prop:=∀x∈d.aD.l,x.sz<=1048576/\Sm x
theorem T7 {d:ar}(h:ye d) (n:Bs):(∀f∈(cV d n).1.br.l,f.sz<=1048576/\f.aG.l.length<=1000)/\(cV d n).1.br.l.length<=1000:=by
 have key:(cV d n).1∈d.aD.l\/(cV d n).1.br.l=[]:=by
  unfold cV;simp only [Ab.on];have:∀l:List az,(match ij n l with|Sum.inl _=>True|Sum.inr e=>e.1∈l):=by
   intro l;induction l with
   | nil=>exact trivial
   | cons a r b =>
    rw [ij];simp only [Ab.on];cases hq:a.ai==n
    ·simp only [cond_false]
     revert b
     cases ij n r with
     | inl u=>intro _; exact trivial
     | inr e=>intro b; exact .tail _ b
    ·exact .head _
  have h:=this d.aD.l
  revert h
  cases ij n d.aD.l with
  | inl u=>intro _; exact .inr rfl
  | inr e=>intro h; exact .inl h
 rcases key with hk|hk
 ·obtain⟨h1,g⟩:=h _ hk;refine⟨fun f i=>⟨?_,g.2.2.2.2 f i⟩,g.1⟩;have j:=Sl.dy (f:=Z6.sz) i;have k:=(cV d n).1.bI;omega
 ·rw [hk]; exact⟨fun _ h=>(by cases h),by simp⟩
theorem J1 {d:ar}(f:d.aD.l.length<=1048576) (g:ye d){a:az}(j:a.sz<=1048576) (k:Sm a){T:Nat}(b:T<=1099511627776):∀(l:List Bs) (i:Nat) (s:Sl Z5),s.l.length+2001000*l.length<=T->Tl (jS d a l i s) (s.l.length+2001000*l.length)
 | [],i,s,_=>⟨s,rfl,by simp⟩
 | n::l,i,s,h=>by
  simp only [List.length_cons] at h ⊢;rw [jS];simp only [Ab.on];have m:∀v:Sl Z5,v.l.length<=s.l.length+2001000->Tl (jS d a l (i+1) v) (s.l.length+2001000*(l.length+1)):=fun v hv=>(J1 f g j k b l (i+1) v (by omega)).mono (by omega);obtain⟨o,k2⟩:=T7 g n;have both:∀(w:Bool) (e:Int),Tl (Option.bind (bif w then((bp 24 s (⟨false,[(Z5.mk e a.ai)]⟩:Sl Z5)).bind fun p=>some p) else(Option.bind (lQ d a (cV d n).1.br.l s) fun q=>some q)) fun v=>jS d a l (i+1) v) (s.l.length+2001000*(l.length+1)):=by
   intro w e;cases w
   ·obtain⟨r,t,u⟩:=JZ f j k b _ s o (by omega);rw [cond_false,t];exact m r (by omega)
   ·obtain⟨v,v1,v2⟩:=sY (s:=s) (r:=⟨false,[Z5.mk e a.ai]⟩) b (by simp; omega);rw [cond_true,v1];exact m v (by rw [v2]; simp)
  exact both _ _
theorem J2 {d:ar}{a:az}(g:a.ai.length<=1048576){T:Nat}(b:T<=1099511627776):∀(l:List Z9) (i:Nat) (s:Sl Z5),(∀m∈l,m.ai.length<=1048576)->s.l.length+l.length<=T->Tl (jU d a l i s) (s.l.length+l.length)
 | [],i,s,_,_=>⟨s,rfl,by simp⟩
 | m::l,i,s,hm,h=>by
  have hn:=hm m (.head _);simp only [List.length_cons] at h ⊢;rw [jU];simp only [Ab.on];have f:∀v:Sl Z5,v.l.length<=s.l.length+1->Tl (jU d a l (i+1) v) (s.l.length+(l.length+1)):=fun v hv=>(J2 g b l (i+1) v (fun z j=>hm z (.tail _ j)) (by omega)).mono (by omega);have both:∀(w:Bool) (e:Int),Tl (Option.bind (bif w then((a_ a.ai ([46]:Bs)).bind fun k=>(a_ k m.ai).bind fun o=>(bp 24 s (⟨false,[(Z5.mk e o)]⟩:Sl Z5)).bind fun p=>some p) else(some s)) fun v=>jU d a l (i+1) v) (s.l.length+(l.length+1)):=by
   intro w e;cases w
   ·exact f s (by omega)
   ·rw [cond_true,cM (by simp; omega),oB,cM (by simp; omega),oB];obtain⟨v,v1,v2⟩:=sY (s:=s) (r:=⟨false,[Z5.mk e (a.ai++[46]++m.ai)]⟩) b (by simp; omega);rw [v1];exact f v (by rw [v2]; simp)
  exact both _ _
theorem T8 {d:ar}(f:d.aD.l.length<=1048576) (g:ye d){a:az}(i:a.sz<=1048576) (j:Sm a) (k:a.cw.l.length<=600):Tl (p_ d a) 1200600000:=by
 unfold p_;have h1:2001000*a.cw.l.length<=2001000*600:=Nat.mul_le_mul_left _ k;obtain⟨r,m,b⟩:=J1 f g i j (T:=1099511627776) (Nat.le_refl _) a.cw.l 0 Sl.nil (by
  show 0+2001000*a.cw.l.length<=_;rw [Nat.zero_add];exact Nat.le_trans h1 (by decide))
 rw [m];refine⟨r,rfl, ?_⟩;rw [show (Sl.nil:Sl Z5).l.length=0 from rfl,Nat.zero_add] at b;exact Nat.le_trans b h1
theorem T9 {d:ar}{a:az}(j:a.sz<=1048576) (b:Sm a):Tl (qa d a) 1200600000:=by
 unfold qa;have h1:=a.bI;have k:=Bs.d_ a.ai;have o:=b.2.1;obtain⟨r,g,i⟩:=J2 (d:=d) (a:=a) (by omega) (T:=1000) (by decide) a.cm.l 0 Sl.nil (fun m hm=>by
  have p:=Sl.dy (f:=Z9.sz) hm;have q:=m.bI;have s:=Bs.d_ m.ai;omega) (by simp only [Sl.nil,List.length_nil]; omega)
 rw [g];refine⟨r,rfl, ?_⟩;simp only [Sl.nil,List.length_nil] at i;omega
theorem J3 {d:ar}{C T:Nat}(b:T<=1099511627776):∀(l:List az) (s:Sl Z5),(∀a∈l,Tl (p_ d a) C/\Tl (qa d a) C)->s.l.length+C*l.length<=T->Tl (kS d l s) (s.l.length+C*l.length)
 | [],s,_,_=>⟨s,rfl,by simp⟩
 | a::l,s,hC,h=>by
  obtain⟨c1,c2⟩:=hC a (.head _);rw [List.length_cons,Nat.mul_succ] at h;rw [List.length_cons,Nat.mul_succ];rw [kS];simp only [Ab.on];have g:s.l.length+C<=T:=Nat.le_trans (by generalize C*l.length=m; omega) h;have f:∀v:Sl Z5,v.l.length<=s.l.length+C->Tl (kS d l v) (s.l.length+(C*l.length+C)):=fun v hv=>by
   refine(J3 b l v (fun z i=>hC z (.tail _ i)) ?_).mono ?_
   ·clear b; revert h; generalize C*l.length=m; intro h; omega
   ·clear b; revert h; generalize C*l.length=m; intro h; omega
  have both:∀{o:Option (Sl Z5)},Tl o C->Tl (Option.bind (o.bind fun j=>(bp 24 s j).bind fun k=>some k) fun v=>kS d l v) (s.l.length+(C*l.length+C)):=by
   intro o p;refine Tl.bind (a:=s.l.length+C) (Tl.sY b p g fun r hr=>⟨r,rfl,hr⟩) fun v hv=>f v hv
  cases decide (a.ak=1)
  ·cases decide (a.ak=3)
   ·exact f s (by omega)
   ·exact both c2
  ·exact both c1
theorem T_ {d:ar}(j:d.sz<=1048576) (h:d.aD.l.length<=600/\∀x∈d.aD.l,Sm x/\x.cw.l.length<=600):∃r,rM d=some r/\r.l.length<=1000000000000:=by
 have b:ye d:=fun x hx=>by
  have h1:=d.bI;have k:=Sl.dy (f:=az.sz) hx;exact⟨by omega,(h.2 x hx).1⟩
 have i:1200600000*d.aD.l.length<=1200600000*600:=Nat.mul_le_mul_left _ h.1;obtain⟨r,e,hl⟩:=J3 (d:=d) (C:=1200600000) (T:=1099511627776) (Nat.le_refl _) d.aD.l Sl.nil (fun a g=>⟨T8 (by omega) b (b a g).1 (b a g).2 (h.2 a g).2,T9 (b a g).1 (b a g).2⟩) (by
  show 0+1200600000*d.aD.l.length<=_;rw [Nat.zero_add];exact Nat.le_trans i (by decide))
 unfold rM;rw [e];refine⟨r,rfl, ?_⟩;rw [show (Sl.nil:Sl Z5).l.length=0 from rfl,Nat.zero_add] at hl;exact Nat.le_trans hl (Nat.le_trans i (by decide))
def qx (w:List Int):Bool:=w.head?==some 1
def DI (w:List Int):Bool:=w.head?==some 2
def uQ (s:Sl Int):Sl Int:=bif qx s.l then⟨s.nl,s.l.drop 1⟩ else s
theorem T' (t:aB):wT t=qx t.aX.l:=by
 unfold wT qx on;cases t.aX.l with
 | nil=>rfl
 | cons a r=>simp; by_cases h:a=1<;>simp [h]
theorem Ua {w:List Int}(h:qx w=true):1<=w.length:=by cases w<;>simp [qx] at h ⊢
def dm (l:List az) (s:Bs):az×Bool:=match l.find? (fun t=>t.ai==s) with|some t=>(t,true)|none=>(az.zero,false)
theorem J4 (l:List az) (s:Bs):(dm l s).1=az.zero\/(dm l s).1∈l:=by
 unfold dm;cases h:l.find? (fun t=>t.ai==s) with
 | none=>exact .inl rfl
 | some t=>exact .inr (List.mem_of_find?_eq_some h)
def iY (l:List Z6) (s:Bs):Z6×Bool:=match l.find? (fun t=>t.ai==s) with|some t=>(t,true)|none=>(Z6.zero,false)
theorem Ub (a:Bs):mI a=some (qf a):=by
 unfold mI qf uh ug on
 match a with
 | []=>rfl
 | [x]=>rfl
 | x::y::r =>
  have e:decide ((2:Int)<=(((x::y::r).length:Nat):Int))=true:=by simp; omega
  have f:decide (((([95,95]:Bs).length:Nat):Int)<=(((x::y::r).length:Nat):Int))=true:=by simp; omega
  have c:∀z:UInt8,decide (((z.toNat:Nat):Int)=95)=(z==95):=fun z=>by
   rw [show (z==95)=decide (z=95) from rfl]
   congr 1
   apply propext
   constructor
   ·intro h; apply UInt8.toNat_inj.1; simp at h ⊢; omega
   ·intro h; subst h; rfl
  have hl:(2:Int)<=(r.length:Nat)+1+1:=by omega
  have g:¬x=95->(x==95)=false:=fun h=>by simpa using h
  simp only [aQ,e,f,if_true,oB,List.getElem?_cons_zero,List.getElem?_cons_succ,c,Bool.true_and,cond_true,List.length_cons,List.length_nil,List.take_succ_cons,List.take_zero];by_cases hx:x=95
  ·subst hx;by_cases b:y=95
   ·subst b; simp [hl]
   ·simp [hl,b]
  ·simp [hl,hx]
theorem Uc {α:Type}{l r:List α}{i:Nat}{x:α}(h:l.drop i=x::r):l.drop (i+1)=r/\l[i]?=some x:=by
 refine⟨?_,by have:=congrArg (fun t=>t[0]?) h; simpa using this⟩;have:=congrArg (List.drop 1) h
 simpa [List.drop_drop] using this
theorem DJ {l:List az}{s:Bs}(h:(dm l s).2=true):(dm l s).1.ai=s:=by
 unfold dm at h ⊢;cases e:l.find? (fun t=>t.ai==s) with
 | none=>rw [e] at h; cases h
 | some t=>have:=List.find?_some e; simpa using this
theorem Ud (s:Bs) (l:List az):ij s l=(match l.find? (fun t=>t.ai==s) with|some t=>Sum.inr (t,true)|none=>Sum.inl ()):=by
 induction l with
 | nil=>rfl
 | cons a r b =>
  rw [ij,List.find?_cons];simp only [on,b];cases a.ai==s<;>rfl
theorem yf (d:ar) (s:Bs):cV d s=dm d.aD.l s:=by
 unfold cV dm on;rw [Ud];cases d.aD.l.find? (fun t=>t.ai==s)<;>rfl
theorem Ue {l:List az}{s:Bs}(h:(dm l s).2=false):(dm l s).1=az.zero:=by
 unfold dm at h ⊢;cases e:l.find? (fun t=>t.ai==s) with
 | none=>rfl
 | some t=>rw [e] at h; cases h
theorem J5 (a1:Sl Int):∀(l:List Int) (s:Nat),l.length+s=a1.l.length->kX a1 l s=some (if l=a1.l.drop s then Sum.inl () else Sum.inr false)
 | [],s,h=>by
  rw [kX,if_pos];rw [List.drop_eq_nil_of_le]; simp at h; omega
 | x::r,s,h=>by
  simp only [List.length_cons] at h;have f:s<a1.l.length:=by omega
  have b:=List.getElem?_eq_getElem f;rw [kX];simp only [Ab.on];rw [b,oB,J5 a1 r (s+1) (by omega),Q.lF b];generalize a1.l[s]=y;generalize a1.l.drop (s+1)=t;by_cases e:x=y
  ·subst e; simp only [decide_true,Bool.not_true,cond_false,List.cons.injEq,true_and]
  ·simp [e]
theorem J6 (a b:Sl Int):qe a b=some (decide (a.l=b.l)):=by
 unfold qe;by_cases h:a.l.length=b.l.length
 ·rw [show decide ((a.l.length:Int)=(b.l.length:Int))=true from dT (by omega)];simp only [Bool.not_true,cond_false];rw [J5 b a.l 0 (by omega),List.drop_zero];by_cases e:a.l=b.l<;>simp [e,Ab.on]
 ·rw [show decide ((a.l.length:Int)=(b.l.length:Int))=false from dF (by omega)];have:a.l≠b.l:=fun e=>h (by rw [e]);simp [this]
theorem J7 (a1:Sl Int):∀(l:List Int) (s:Nat),lK a1 l s=kX a1 l s
 | [],s=>rfl
 | x::r,s=>by rw [lK,kX]; simp only [Ab.on,J7 a1 r]
theorem Uf (a b:Sl Int):od a b=some (decide (a.l=b.l)):=by
 rw [<- J6]; unfold od qe; rw [J7]; all_goals rfl
theorem Ug (t:aB):fw t=qx t.aX.l:=T' t
theorem Uh {t:aB}(h:t.aX.l.length<=1048576) (h1:1<=t.aX.l.length):mS t=some ⟨t.ai,⟨false,t.aX.l.drop 1⟩⟩:=by
 unfold mS;rw [F8 h1,oB,gG (by decide) (by simp; omega)];simp
theorem Ui {t:aB}(h:t.aX.l.length<=1048576):jQ t=some ⟨t.ai,⟨false,(uQ t.aX).l⟩⟩:=by
 unfold jQ uQ;simp only [Ab.on,Ug];cases hn:qx t.aX.l
 ·simp only [cond_false];rw [gG (by decide) (by simp; omega)];simp
 ·simp only [cond_true];rw [Uh h (Ua hn)]; rfl
theorem Uj {t:aB}(h:t.aX.l.length<=1048576):oh t=some (DI (uQ t.aX).l):=by
 unfold oh;rw [Ui h];simp only [oB,Ab.on,DI];cases (uQ t.aX).l with
 | nil=>rfl
 | cons a r=>simp; by_cases h:a=2<;>simp [h]
def yg (d:ar) (a n:Bs):Bool :=
 (dm d.aD.l n).2&&(decide ((dm d.aD.l n).1.ak=1)&&((decide ((dm d.aD.l a).1.ak=1)&&n==a)||((decide ((dm d.aD.l a).1.ak=2)&&(dm d.aD.l n).1.cw.l.contains a)||(decide ((dm d.aD.l a).1.ak=3)&&(dm d.aD.l a).1.cm.l.any fun y=>y.ai==n))))
theorem J8 (n:Bs):∀l:List Bs,(match mR n l with|.inl _=>false|.inr e=>e)=l.contains n
 | []=>rfl
 | a::r=>by
  rw [mR,List.contains_cons,<- J8 n r,BEq.comm];simp only [on];cases a==n<;>rfl
theorem Uk (s:Sl Bs) (n:Bs):iR s n=s.l.contains n:=by
 rw [<- J8];unfold iR;simp only [on];cases mR n s.l<;>rfl
theorem J9 (n:Bs):∀l:List Z9,(match mU n l with|.inl _=>false|.inr e=>e)=l.any fun y=>y.ai==n
 | []=>rfl
 | a::r=>by
  rw [mU,List.any_cons,<- J9 n r];simp only [on];cases a.ai==n<;>rfl
theorem Ul (t:az) (n:Bs):lN t n=t.cm.l.any fun y=>y.ai==n:=by
 rw [<- J9];unfold lN;simp only [on];cases mU n t.cm.l<;>rfl
theorem J_ (d:ar){i:Nat}(hi:i<d.aD.l.length) (hl:d.aD.l.length<=1048576):∀(n k:Nat),k<=i->i<k+n->ol d (i:Int) n (k:Int)=some (!((d.aD.l.drop k).take (i-k)).any fun y=>y.ai==d.aD.l[i].ai)
 | 0,k,h1,f=>by omega
 | n+1,k,h1,f=>by
  rw [ol];by_cases hk:k<i
  ·have b:k<d.aD.l.length:=by omega
   have hx:cq d.aD.l (k:Int)=some d.aD.l[k]:=by unfold cq; rw [if_pos (by simp),Int.toNat_natCast,List.getElem?_eq_getElem b]
   have g:cq d.aD.l (i:Int)=some d.aD.l[i]:=by unfold cq; rw [if_pos (by simp),Int.toNat_natCast,List.getElem?_eq_getElem hi]
   have j:bY (k:Int) 1=some ((k+1:Nat):Int):=by rw [fU (by omega)]; rfl
   obtain⟨m,hm⟩:∃m,i-k=m+1:=⟨i-k-1,by omega⟩;rw [dT (by omega:((k:Nat):Int)<((i:Nat):Int)),cond_true,hx,oB,g,oB,hm,List.drop_eq_getElem_cons b,List.take_succ_cons,List.any_cons];cases d.aD.l[k].ai==d.aD.l[i].ai
   ·rw [cond_false,j,oB,J_ d hi hl n (k+1) (by omega) (by omega),show i-(k+1)=m by omega,Bool.false_or]
   ·rfl
  ·have:i-k=0:=by omega
   rw [dF (by omega:¬((k:Nat):Int)<((i:Nat):Int)),cond_false,this,List.take_zero,List.any_nil];rfl
theorem Um (d:ar){i:Nat}(hi:i<d.aD.l.length) (hl:d.aD.l.length<=1048576):rJ d (i:Int)=some (!(d.aD.l.take i).any fun y=>y.ai==d.aD.l[i].ai):=by
 unfold rJ t_;rw [show (0:Int)=((0:Nat):Int) from rfl,J_ d hi hl F0 0 (Nat.zero_le _) (by rw [eD]; omega),List.drop_zero,Nat.sub_zero]
def l6 (a:Bs) (x o:az):Bool:=(decide (x.ak=1)&&o.ai==a)||((decide (x.ak=2)&&o.cw.l.contains a)||(decide (x.ak=3)&&x.cm.l.any fun y=>y.ai==o.ai))
theorem DK {d:ar}(hl:d.aD.l.length<=1048576) (a:Bs) (x:az×Bool) (hx:x.2=true):∀(l:List az) (i:Nat) (s:Sl Bs),d.aD.l.drop i=l->s.l.length+l.length<=2097152 ->
  ∃r,fD d a x l i s=some r/\∀z,z∈r.l↔z∈s.l\/∃(j:Nat) (h:j<d.aD.l.length),i<=j/\d.aD.l[j].ak=1/\((d.aD.l.take j).any fun y=>y.ai==d.aD.l[j].ai)=false/\l6 a x.1 d.aD.l[j]=true/\d.aD.l[j].ai=z
 | [],i,s,p,_=>by
  refine⟨s,by rw [fD],fun z=>⟨.inl, ?_⟩⟩;rintro (h|⟨j,h,h1,_⟩)
  ·exact h
  ·have:=List.drop_eq_nil_iff.1 p; omega
 | o::r,i,s,p,B=>by
  simp only [List.length_cons] at B;obtain⟨u,b⟩:=Uc p;obtain⟨hi,b⟩:=List.getElem?_eq_some_iff.1 b
  -- what is left when this one does not count
  have skip:(¬(o.ak=1/\((d.aD.l.take i).any fun y=>y.ai==o.ai)=false/\l6 a x.1 o=true))->∃q,fD d a x r (i+1) s=some q/\∀z,z∈q.l↔z∈s.l\/∃(j:Nat) (h:j<d.aD.l.length),i<=j/\d.aD.l[j].ak=1/\((d.aD.l.take j).any fun y=>y.ai==d.aD.l[j].ai)=false/\l6 a x.1 d.aD.l[j]=true/\d.aD.l[j].ai=z:=fun C=>by
   obtain⟨q,e,hq⟩:=DK hl a x hx r (i+1) s u (by omega);refine⟨q,e,fun z=>?_⟩;rw [hq z];constructor
   ·rintro (h|⟨j,h,h1,f⟩)
    ·exact .inl h
    ·exact .inr ⟨j,h,by omega,f⟩
   ·rintro (h|⟨j,h,h1,f,g,k,m⟩)
    ·exact .inl h
    ·by_cases t:i=j
     ·subst t;rw [b] at f g k;exact absurd ⟨f,g,k⟩ C
     ·exact .inr ⟨j,h,by omega,f,g,k,m⟩
  have more:o.ak=1->((d.aD.l.take i).any fun y=>y.ai==o.ai)=false->l6 a x.1 o=true->∃q,fD d a x r (i+1) ⟨s.nl&&List.isEmpty [o.ai],s.l++[o.ai]⟩=some q/\∀z,z∈q.l↔z∈s.l\/∃(j:Nat) (h:j<d.aD.l.length),i<=j/\d.aD.l[j].ak=1/\((d.aD.l.take j).any fun y=>y.ai==d.aD.l[j].ai)=false/\l6 a x.1 d.aD.l[j]=true/\d.aD.l[j].ai=z:=fun E k2 F=>by
   obtain⟨q,e,hq⟩:=DK hl a x hx r (i+1) ⟨s.nl&&List.isEmpty [o.ai],s.l++[o.ai]⟩ u (by simp; omega);refine⟨q,e,fun z=>?_⟩;rw [hq z];simp only [List.mem_append,List.mem_singleton];constructor
   ·rintro ((h|h)|⟨j,h,h1,f⟩)
    ·exact .inl h
    ·exact .inr ⟨i,hi,Nat.le_refl _,by rw [b]; exact E,by rw [b]; exact k2,by rw [b]; exact F,by rw [b]; exact h.symm⟩
    ·exact .inr ⟨j,h,by omega,f⟩
   ·rintro (h|⟨j,h,h1,f,g,k,m⟩)
    ·exact .inl (.inl h)
    ·by_cases t:i=j
     ·subst t;rw [b] at m;exact .inl (.inr m.symm)
     ·exact .inr ⟨j,h,by omega,f,g,k,m⟩
  rw [fD,hx,cond_true];simp only [on];have v:=Um d hi hl;rw [b] at v;by_cases hk:o.ak=1
  ·rw [dT hk,v];simp only [Bool.not_true,Bool.not_false,aQ,if_true,oB,Bool.false_or];cases w:(d.aD.l.take i).any fun y=>y.ai==o.ai
   ·simp only [Bool.not_false,Bool.not_true,cond_false];have G:(((decide (x.1.ak=(1:Int)))&&((o.ai==a)))||((decide (x.1.ak=(2:Int)))&&(bif (!((decide (x.1.ak=(1:Int)))&&((o.ai==a)))&&(decide (x.1.ak=(2:Int)))) then iR o.cw a else false))||((decide (x.1.ak=(3:Int)))&&(bif (!(((decide (x.1.ak=(1:Int)))&&((o.ai==a)))||((decide (x.1.ak=(2:Int)))&&(bif (!((decide (x.1.ak=(1:Int)))&&((o.ai==a)))&&(decide (x.1.ak=(2:Int)))) then iR o.cw a else false)))&&(decide (x.1.ak=(3:Int)))) then lN x.1 o.ai else false)))=l6 a x.1 o:=by
     unfold l6;rw [Uk,Ul];cases decide (x.1.ak=(1:Int))<;>cases (o.ai==a)<;>cases decide (x.1.ak=(2:Int))<;>cases decide (x.1.ak=(3:Int))<;>cases o.cw.l.contains a<;>rfl
    rw [G];cases hc:l6 a x.1 o
    ·rw [cond_false,oB];exact skip fun h=>by rw [hc] at h; exact absurd h.2.2 (by simp)
    ·rw [cond_true,gG (by decide) (by simp; omega),oB,oB];exact more hk w hc
   ·simp only [Bool.not_true,cond_true,Bool.not_false,oB];exact skip fun h=>by rw [w] at h; exact absurd h.2.1 (by simp)
  ·rw [dF hk];simp only [Bool.not_false,Bool.not_true,aQ,Bool.false_eq_true,if_false,Bool.true_or,cond_true,oB];exact skip fun h=>hk h.1
theorem Un {l:List az}{j:Nat}(h:j<l.length) (b:((l.take j).any fun y=>y.ai==l[j].ai)=false):dm l l[j].ai=(l[j],true):=by
 have:l.find? (fun t=>t.ai==l[j].ai)=some l[j]:=by
  rw [List.find?_eq_some_iff_getElem];refine⟨by simp,j,h,rfl,fun k hk=>?_⟩;rw [List.any_eq_false] at b;have f:k<(l.take j).length:=by simp; omega
  have:=b (l.take j)[k] (List.getElem_mem f);rw [List.getElem_take] at this
  simpa using this
 unfold dm;rw [this]
theorem Uo {l:List az}{z:Bs}(h:(dm l z).2=true):∃(j:Nat) (b:j<l.length),l[j]=(dm l z).1/\((l.take j).any fun y=>y.ai==l[j].ai)=false:=by
 have hn:=DJ h;unfold dm at h hn ⊢;cases e:l.find? (fun t=>t.ai==z) with
 | none=>rw [e] at h; cases h
 | some t =>
  rw [e] at hn;obtain⟨_,j,b,h1,f⟩:=List.find?_eq_some_iff_getElem.1 e;refine⟨j,b,h1, ?_⟩;rw [List.any_eq_false];intro y g;obtain⟨k,hk,rfl⟩:=List.getElem_of_mem g;have i:k<j:=by simp at hk; omega
  rw [List.getElem_take,h1];have hn:t.ai=z:=hn;rw [hn]
  simpa using f k i
theorem Up {d:ar}(hl:d.aD.l.length<=1048576) (a:Bs):∃r,kR d a=some r/\∀z,z∈r.l↔yg d a z=true:=by
 unfold kR;simp only [on,yf];cases f:(dm d.aD.l a).2
 ·have h0:∀(l:List az) (i:Nat) (s:Sl Bs),fD d a (dm d.aD.l a) l i s=some s:=fun l i s=>by
   cases l with
   | nil=>rw [fD]
   | cons o r=>rw [fD,f]; rfl
  rw [h0];refine⟨_,rfl,fun z=>?_⟩;unfold yg;rw [Ue f];simp [Sl.nil,az.zero]
 ·obtain⟨r,e,hr⟩:=DK hl a (dm d.aD.l a) f d.aD.l 0 (Sl.nil:Sl Bs) rfl (by show 0+_<=_; omega);rw [e];refine⟨r,rfl,fun z=>?_⟩;rw [hr z];constructor
  ·rintro (h|⟨j,h,_,g,k,m,q⟩)
   ·cases h
   ·have b:=Un h k;rw [q] at b;unfold yg;rw [b];unfold l6 at m;rw [q] at m;simp only [g,decide_true,Bool.true_and];exact m
  ·intro h;unfold yg at h;simp only [Bool.and_eq_true,decide_eq_true_eq] at h;obtain⟨h1,g,k⟩:=h;obtain⟨j,b,p,t⟩:=Uo h1;refine .inr ⟨j,b,Nat.zero_le _,by rw [p]; exact g,t, ?_,by rw [p]; exact DJ h1⟩;unfold l6;rw [p,DJ h1];exact k
def gX (a b:aB):Bool:=a.ai==b.ai&&decide (a.aX.l=b.aX.l)
theorem DL (a b:aB):gX a b=gX b a:=by
 unfold gX;rw [BEq.comm (a:=a.ai),decide_eq_decide.2 (eq_comm (a:=a.aX.l))]
theorem Uq (a b:aB):sg a b=some (gX a b):=by
 unfold sg gX;rw [J6];cases a.ai==b.ai<;>rfl
theorem J' (a b:aB):kQ a b=some (gX b a):=by
 rw [DL];unfold kQ gX;rw [Uf];cases a.ai==b.ai<;>rfl
def bB:Nat:=549755813888
theorem DM {α:Type}{s r:Sl α}(h:s.l.length+r.l.length<=1099511627776):bp 80 s r=some ⟨s.nl&&r.l.isEmpty,s.l++r.l⟩:=by
 unfold bp; rw [if_pos];have:(s.l.length+r.l.length)*80<=1099511627776*80:=Nat.mul_le_mul_right _ h;unfold cF; omega
theorem Ur {n:Nat}(h:n<256):IntKind.wrap .u8 (n:Int)=(n:Int):=by
 have:(n:Int) % 256=n:=by omega
 simp [IntKind.wrap,IntKind.bits,IntKind.signed]; omega
theorem Ka (k:Nat):fK (⟨false,[((48+k:Nat):Int)]⟩:Sl Int)=[UInt8.ofNat (48+k)]:=by
 show [UInt8.ofNat ((48+k:Nat):Int).toNat]=_;rw [Int.toNat_natCast]
theorem Us:∀(f u:Nat),u<10 ^ f->(Lib.decDigits u).length<=f+1:=by
 intro f;induction f with
 | zero =>
  intro u hu;have:u=0:=by simpa using hu
  subst this; rw [Lib.decDigits]; simp
 | succ f b =>
  intro u hu;rw [Lib.decDigits]
  split
  ·simp
  ·have:=b (u / 10) (by rw [Nat.pow_succ] at hu; omega);simp; omega
theorem yh {u:Nat}(h:u<=9223372036854775808):(Lib.decDigits u).length<=21:=Us 20 u (by omega)
theorem yj {n:Int}(h0 : -9223372036854775808<=n) (h1:n<=9223372036854775807):(Lib.itoa n).length<=22:=by
 unfold Lib.itoa
 split
 ·have:=yh (u:=n.natAbs) (by omega); simp; omega
 ·have:=yh (u:=n.toNat) (by omega); omega
theorem Ut:∀(f u:Nat),u<10 ^ f->u<=9223372036854775808->f<=30->∀m,f+1<=m->mY m (-(u:Int))=some (Lib.decDigits u):=by
 intro f;induction f with
 | zero =>
  intro u hu g i m hm;have:u=0:=by simpa using hu
  subst this;obtain⟨m,rfl⟩:∃k,m=k+1:=⟨m-1,by omega⟩;rw [Lib.decDigits]; rfl
 | succ f j =>
  intro u hu g i m hm;obtain⟨m,rfl⟩:∃k,m=k+1:=⟨m-1,by omega⟩;have h1:Int.tmod (-(u:Int)) 10 = -((u % 10:Nat):Int):=by rw [Int.neg_tmod]; rfl
  have l:Int.tdiv (-(u:Int)) 10 = -((u / 10:Nat):Int):=by rw [Int.neg_tdiv]; rfl
  rw [mY,h1,l,F7 (by omega),oB];have o:(48:Int) - -((u % 10:Nat):Int)=((48+u % 10:Nat):Int):=by omega
  rw [o,Ur (by omega),Lib.decDigits];by_cases b:u<10
  ·rw [dif_pos b,show decide ((-10:Int) < -(u:Int))=true from dT (by omega),cond_true,Nat.mod_eq_of_lt b,Ka]
  ·rw [dif_neg b,show decide ((-10:Int) < -(u:Int))=false from dF (by omega),cond_false,IntWalk.i64_in _ (by omega),j (u / 10) (by rw [Nat.pow_succ] at hu; omega) (by omega) (by omega) m (by omega),oB];have hl:=yh (u:=u / 10) (by omega);rw [Ka,cM (by simp; omega),oB]
theorem yl {n:Int}(h0 : -9223372036854775808<=n) (h1:n<=9223372036854775807):jW n=some (Lib.itoa n):=by
 unfold jW wF;have b:∀u:Nat,u<=9223372036854775808->mY F0 (-(u:Int))=some (Lib.decDigits u):=fun u hu=>Ut 20 u (by omega) hu (by omega) F0 (by rw [eD]; omega);by_cases hn:n<0
 ·obtain⟨u,rfl⟩:∃u:Nat,n = -(u:Int):=⟨n.natAbs,by omega⟩;rw [show decide (-(u:Int)<0)=true from dT hn,cond_true,b u (by omega),oB];have hl:=yh (u:=u) (by omega);rw [cM (by simp; omega),oB];unfold Lib.itoa; rw [if_pos hn,show (-(u:Int)).natAbs=u by omega]; rfl
 ·obtain⟨u,rfl⟩:∃u:Nat,n=(u:Int):=⟨n.natAbs,by omega⟩;rw [show decide ((u:Int)<0)=false from dF hn,cond_false,IntWalk.i64_in _ (by omega),show (0:Int)-(u:Int) = -(u:Int) by omega,b u (by omega),oB];unfold Lib.itoa; rw [if_neg hn,Int.toNat_natCast]
theorem DN {n:Int}(h0 : -9223372036854775808<=n) (h1:n<=9223372036854775807):ng n=some (Lib.itoa n):=by
 unfold ng B5 ul;rw [if_pos ⟨h0,h1,by have:=yj h0 h1; unfold eH; omega⟩]; rfl
theorem Uu {v:af}(h:iB v=some true):gJ F0 v true=some true:=by
  unfold iB at h;obtain⟨a,_,h⟩:=cS h;rcases dS h with ⟨_,b,_,h⟩|⟨_,h⟩
  · rcases dS h with ⟨_,c,e,h⟩|⟨_,h⟩
    · simp at h; rw [h.2] at e; exact e
    · simp at h
  · rcases dS h with ⟨_,c,e,h⟩|⟨_,h⟩
    · simp at h; rw [h.2] at e; exact e
    · simp at h
theorem Uv {v:af}(h:oM v=some true):gJ F0 v false=some true:=by
  unfold oM at h;obtain⟨a,_,h⟩:=cS h;rcases dS h with ⟨_,b,_,h⟩|⟨_,h⟩
  · rcases dS h with ⟨_,c,e,h⟩|⟨_,h⟩
    · simp at h; rw [h.2] at e; exact e
    · simp at h
  · rcases dS h with ⟨_,c,e,h⟩|⟨_,h⟩
    · simp at h; rw [h.2] at e; exact e
    · simp at h
theorem Kc (l:List Z8) (z:Unit ⊕ Bool) (h:ii l=some z):(z=Sum.inl ()/\∀x∈l,x.dO=true->iB x.eE=some true)\/z=Sum.inr false:=by
  induction l generalizing z with
  | nil=>rw [ii] at h; exact .inl ⟨(oJ h).symm,fun a i=>by cases i⟩
  | cons a r j =>
    rw [ii] at h;simp only [Ab.on] at h;have step:∀(b:Bool),(a.dO=true->iB a.eE=some b)->∀f:Bool,(bif ((a.dO&&((!b)||(!f)))||((!a.dO)&&(!(bif (!(a.dO&&((!b)||(!f)))&&(!a.dO)) then tQ a.eE else false)))) then(some (Sum.inr false)) else(ii r))=some z ->
        (z=Sum.inl ()/\∀x∈a::r,x.dO=true->iB x.eE=some true)\/z=Sum.inr false:=by
      intro b e f h;rcases eB h with ⟨_,h⟩|⟨hc,h⟩
      · exact .inr (oJ h).symm
      · rcases j z h with ⟨h1,k⟩|h1
        · refine .inl ⟨h1,fun x hx hh=>?_⟩
          rcases List.mem_cons.1 hx with rfl|hx
          · have:=e hh
            rw [hh] at hc;cases b with
            | true=>exact this
            | false=>simp at hc
          · exact k x hx hh
        · exact .inr h1
    rcases dS h with ⟨_,m,_,h⟩|⟨_,h⟩<;>rcases dS h with ⟨_,o,_,h⟩|⟨_,h⟩<;>rcases eB h with ⟨_,h⟩|⟨_,h⟩;all_goals first
      | exact .inr (oJ h).symm
      | (rcases dS h with ⟨_,b,g,h⟩|⟨g,h⟩
         · rcases dS h with ⟨_,f,_,h⟩|⟨_,h⟩
           · exact step b (fun _=>g) f h
           · exact step b (fun _=>g) false h
         · rcases dS h with ⟨_,f,_,h⟩|⟨_,h⟩
           · exact step false (fun hh=>by rw [hh] at g; cases g) f h
           · exact step false (fun hh=>by rw [hh] at g; cases g) false h)
theorem Ke {s:Sl Z8}(h:gx s=some true):∀x∈s.l,x.dO=true->iB x.eE=some true:=by
 unfold gx at h;rcases eB h with ⟨_,h⟩|⟨_,h⟩
 ·cases h
 ·obtain⟨z,g,h⟩:=cS h;rcases Kc _ _ g with ⟨_,h1⟩|rfl
  ·exact h1
  ·cases h
def Gr (o:Option Int) (s:Int) (b:Nat):Prop:=∃r,o=some r/\s<=r/\r<=s+b
theorem Gr.refl (s:Int) (b:Nat):Gr (some s) s b:=⟨s,rfl,by omega,by omega⟩
theorem Gr.bind {o:Option Int}{k:Int->Option Int}{s:Int}{a b c:Nat}(h:Gr o s a) (hc:a+b<=c) (hk:∀r,s<=r->r<=s+a->Gr (k r) r b):Gr (o.bind k) s c:=by
 obtain⟨r,e,h1,f⟩:=h;obtain⟨g,i,j,l⟩:=hk r h1 f;exact⟨g,by rw [e]; exact i,by omega,by omega⟩
theorem Gr.add {x s:Int}{b:Nat}(hx:0<=x/\x<=b) (f:0<=s/\s+b<=1099511627776):Gr (bY s x) s b:=⟨s+x,fU (by omega),by omega,by omega⟩
theorem Kf (a1:Int):∀(l:List Bs) (s:Int),0<=s->s+(l.map Bs.sz).sum<=1073741824->Gr (mB a1 l s) s (l.map Bs.sz).sum
 | [],s,_,_=>Gr.refl _ _
 | a::r,s,h0,h=>by
  simp only [List.map_cons,List.sum_cons] at h ⊢;rw [mB];cases decide (s<=a1) with
  | false=>exact Gr.refl _ _
  | true =>
   simp only [cond_true,Ab.on];have f:Bs.sz a=a.length+1:=rfl;refine Gr.bind (a:=1) (b:=a.length+(r.map Bs.sz).sum) (Gr.add (by omega) (by omega)) (by omega) fun x h1 g=>?_;refine Gr.bind (a:=a.length) (b:=(r.map Bs.sz).sum) (Gr.add (by omega) (by omega)) (by omega) fun y i j=>?_;exact Kf a1 r y (by omega) (by omega)
theorem Uw (a1:Int) (n:Nat):∀v:af,v.sz<n->v.sz<=1048576->Gr (jL n v a1) 0 v.sz:=by
 induction n with
 | zero=>intro v h; omega
 | succ n f =>
  intro v hn o;have p:=v.bI;have ht:Bs.sz v.aV=v.aV.length+1:=rfl;have hk:Sl.sz Bs.sz v.aF=1+(v.aF.l.map Bs.sz).sum:=rfl;have hi:Sl.sz af.sz v.av=1+(v.av.l.map af.sz).sum:=rfl;have hl:∀(l:List af) (s:Int),(∀x∈l,x.sz<n/\x.sz<=1048576)->0<=s->s+(l.map af.sz).sum<=1073741824->Gr (lG a1 (jL n) l s) s (l.map af.sz).sum:=by
   intro l;induction l with
   | nil=>intro s _ _ _; exact Gr.refl _ _
   | cons a r g =>
    intro s hx h0 h;simp only [List.map_cons,List.sum_cons] at h ⊢;rw [lG];cases decide (s<=a1) with
    | false=>exact Gr.refl _ _
    | true =>
     simp only [cond_true,Ab.on];obtain⟨w,e,h1,q⟩:=f a (hx a (by simp)).1 (hx a (by simp)).2;rw [e,oB];refine Gr.bind (a:=a.sz) (b:=(r.map af.sz).sum) (Gr.add (by omega) (by omega)) (by omega) fun y t u=>?_;exact g y (fun x i=>hx x (by simp [i])) (by omega) (by omega)
  rw [jL,fU (by omega),oB];simp only [Ab.on];obtain⟨x,j,B,C⟩:=Kf a1 v.aF.l (1+(v.aV.length:Int)) (by omega) (by omega);rw [j,oB];obtain⟨y,k,E,F⟩:=hl v.av.l x (fun z m=>by have:=af.gW m; omega) (by omega) (by omega);rw [k];exact⟨y,rfl,by omega,by omega⟩
theorem DO (a1:Int) (v:af) (h:v.sz<=1048576):Gr (tO v a1) 0 v.sz:=Uw a1 F0 v (by rw [eD]; omega) h
theorem Gr.two {o:Option Int}{k:Int->Option Int}{s:Int}{a b c:Nat}(h:Gr o 0 a) (f:0<=s/\s+a<=1099511627776) (hc:a+b<=c) (hk:∀r,s<=r->r<=s+a->Gr (k r) r b):Gr (o.bind fun x=>(bY s x).bind k) s c:=by
 obtain⟨x,e,h1,g⟩:=h;rw [e,oB];exact Gr.bind (a:=a) (b:=b) (Gr.add (by omega) f) hc hk
theorem Kg (a1:Int) (f:aN):∀(l:List ax) (s:Int),(∀x∈l,x.sz<=1048576)->0<=s->s+(l.map ax.sz).sum<=1073741824->Gr (pT a1 f l s) s (l.map ax.sz).sum
 | [],s,_,_,_=>Gr.refl _ _
 | a::r,s,hx,h0,h=>by
  simp only [List.map_cons,List.sum_cons] at h ⊢;have i:=a.bI;have j:=Bs.gH a.ai;have k:=hx a (by simp);rw [pT];cases decide (s<=a1) with
  | false=>exact Gr.refl _ _
  | true =>
   simp only [cond_true,Ab.on];refine Gr.bind (a:=1) (b:=a.cB.sz+(r.map ax.sz).sum) (Gr.add (by omega) (by omega)) (by omega) fun x h1 m=>?_;exact Gr.two (b:=(r.map ax.sz).sum) (DO a1 a.cB (by omega)) (by omega) (by omega) fun y o p=>Kg a1 f r y (fun z g=>hx z (by simp [g])) (by omega) (by omega)
theorem Kh (a1:Int):∀(l:List aN) (s:Int),(∀x∈l,x.sz<=1048576)->0<=s->s+(l.map aN.sz).sum<=1073741824->Gr (pU a1 l s) s (l.map aN.sz).sum
 | [],s,_,_,_=>Gr.refl _ _
 | a::r,s,hx,h0,h=>by
  simp only [List.map_cons,List.sum_cons] at h ⊢;have g:=a.bI;have i:=Bs.gH a.ai;have hi:Sl.sz ax.sz a.aG=1+(a.aG.l.map ax.sz).sum:=rfl;have j:=hx a (by simp);rw [pU];cases decide (s<=a1) with
  | false=>exact Gr.refl _ _
  | true =>
   simp only [cond_true,Ab.on];refine Gr.bind (a:=1) (b:=(a.aG.l.map ax.sz).sum+(r.map aN.sz).sum) (Gr.add (by omega) (by omega)) (by omega) fun x h1 k=>?_;exact Gr.bind (b:=(r.map aN.sz).sum) (Kg a1 a a.aG.l x (fun z f=>by have:=aN.Ju f; omega) (by omega) (by omega)) (by omega) fun y m o=>Kh a1 r y (fun z f=>hx z (by simp [f])) (by omega) (by omega)
theorem ym (a1:Int) (s:Sl aN) (h:Sl.sz aN.sz s<=1048576):Gr (nO s a1) 0 (Sl.sz aN.sz s):=by
 have hi:Sl.sz aN.sz s=1+(s.l.map aN.sz).sum:=rfl;obtain⟨r,e,h1,b⟩:=Kh a1 s.l 0 (fun x hx=>by have:=Sl.dy (f:=aN.sz) hx; omega) (by omega) (by omega);unfold nO; rw [e]; exact⟨r,rfl,h1,by omega⟩
theorem Ki (a1:Int):∀(l:List Z8) (s:Int),(∀x∈l,x.sz<=1048576)->0<=s->s+(l.map Z8.sz).sum<=1073741824->Gr (mD a1 l s) s (l.map Z8.sz).sum
 | [],s,_,_,_=>Gr.refl _ _
 | a::r,s,hx,h0,h=>by
  simp only [List.map_cons,List.sum_cons] at h ⊢;have g:=a.bI;have i:=Bs.gH a.ai;have hw:=aB.qw a.aO;have j:=hx a (by simp);rw [mD];cases decide (s<=a1) with
  | false=>exact Gr.refl _ _
  | true =>
   simp only [cond_true,Ab.on];refine Gr.bind (a:=1) (b:=a.aO.aX.l.length+a.eE.sz+Sl.sz aN.sz a.ct+(r.map Z8.sz).sum) (Gr.add (by omega) (by omega)) (by omega) fun x h1 k=>?_;refine Gr.bind (a:=a.aO.aX.l.length) (b:=a.eE.sz+Sl.sz aN.sz a.ct+(r.map Z8.sz).sum) (Gr.add (by omega) (by omega)) (by omega) fun y m o=>?_;refine Gr.two (b:=Sl.sz aN.sz a.ct+(r.map Z8.sz).sum) (DO a1 a.eE (by omega)) (by omega) (by omega) fun z p t=>?_
   exact Gr.two (b:=(r.map Z8.sz).sum) (ym a1 a.ct (by omega)) (by omega) (by omega) fun q u v=>Ki a1 r q (fun z f=>hx z (by simp [f])) (by omega) (by omega)
theorem Kj (a1:Int) (s:Sl Z8) (h:Sl.sz Z8.sz s<=1048576):Gr (pV s a1) 0 (Sl.sz Z8.sz s):=by
 have hi:Sl.sz Z8.sz s=1+(s.l.map Z8.sz).sum:=rfl;obtain⟨r,e,h1,b⟩:=Ki a1 s.l 0 (fun x hx=>by have:=Sl.dy (f:=Z8.sz) hx; omega) (by omega) (by omega);unfold pV; rw [e]; exact⟨r,rfl,h1,by omega⟩
theorem Kk (a1:Int):∀(l:List Z6) (s:Int),(∀x∈l,x.sz<=1048576)->0<=s->s+(l.map Z6.sz).sum<=1073741824->Gr (mF a1 l s) s (l.map Z6.sz).sum
 | [],s,_,_,_=>Gr.refl _ _
 | a::r,s,hx,h0,h=>by
  simp only [List.map_cons,List.sum_cons] at h ⊢;have g:=a.bI;have i:=Bs.gH a.ai;have hw:=aB.qw a.aO;have j:=hx a (by simp);rw [mF];cases decide (s<=a1) with
  | false=>exact Gr.refl _ _
  | true =>
   simp only [cond_true,Ab.on];refine Gr.bind (a:=1) (b:=a.aO.aX.l.length+Sl.sz Z8.sz a.aG+Sl.sz aN.sz a.ct+(r.map Z6.sz).sum) (Gr.add (by omega) (by omega)) (by omega) fun x h1 k=>?_;refine Gr.bind (a:=a.aO.aX.l.length) (b:=Sl.sz Z8.sz a.aG+Sl.sz aN.sz a.ct+(r.map Z6.sz).sum) (Gr.add (by omega) (by omega)) (by omega) fun y m o=>?_;refine Gr.two (b:=Sl.sz aN.sz a.ct+(r.map Z6.sz).sum) (Kj a1 a.aG (by omega)) (by omega) (by omega) fun z p t=>?_
   exact Gr.two (b:=(r.map Z6.sz).sum) (ym a1 a.ct (by omega)) (by omega) (by omega) fun q u v=>Kk a1 r q (fun z f=>hx z (by simp [f])) (by omega) (by omega)
theorem Kl (a1:Int):∀(l:List Z9) (s:Int),(∀x∈l,x.sz<=1048576)->0<=s->s+(l.map Z9.sz).sum<=1073741824->Gr (lH a1 l s) s (l.map Z9.sz).sum
 | [],s,_,_,_=>Gr.refl _ _
 | a::r,s,hx,h0,h=>by
  simp only [List.map_cons,List.sum_cons] at h ⊢;have g:=a.bI;have i:=Bs.gH a.ai;have j:=hx a (by simp);rw [lH];cases decide (s<=a1) with
  | false=>exact Gr.refl _ _
  | true =>
   simp only [cond_true,Ab.on];refine Gr.bind (a:=1) (b:=Sl.sz aN.sz a.ct+(r.map Z9.sz).sum) (Gr.add (by omega) (by omega)) (by omega) fun x h1 k=>?_;exact Gr.two (b:=(r.map Z9.sz).sum) (ym a1 a.ct (by omega)) (by omega) (by omega) fun q m o=>Kl a1 r q (fun z f=>hx z (by simp [f])) (by omega) (by omega)
theorem Km (a1:Int):∀(l:List az) (s:Int),(∀x∈l,x.sz<=1048576)->0<=s->s+(l.map az.sz).sum<=1073741824->Gr (kH a1 l s) s (l.map az.sz).sum
 | [],s,_,_,_=>Gr.refl _ _
 | a::r,s,hx,h0,h=>by
  simp only [List.map_cons,List.sum_cons] at h ⊢;have i:=a.bI;have j:=Bs.gH a.ai;have h1:=Sl.d_ (f:=Bs.sz) a.cw (fun x=>Bs.gH x);have k:Sl.sz Z6.sz a.br=1+(a.br.l.map Z6.sz).sum:=rfl;have hm:Sl.sz Z9.sz a.cm=1+(a.cm.l.map Z9.sz).sum:=rfl;have m:=hx a (by simp);rw [kH];cases decide (s<=a1) with
  | false=>exact Gr.refl _ _
  | true =>
   simp only [cond_true,Ab.on];refine Gr.bind (a:=a.cw.l.length) (b:=Sl.sz aN.sz a.ct+Sl.sz Z8.sz a.bP+(a.br.l.map Z6.sz).sum+(a.cm.l.map Z9.sz).sum+(r.map az.sz).sum) (Gr.add (by omega) (by omega)) (by omega) fun x h1 o=>?_;refine Gr.two (b:=Sl.sz Z8.sz a.bP+(a.br.l.map Z6.sz).sum+(a.cm.l.map Z9.sz).sum+(r.map az.sz).sum) (ym a1 a.ct (by omega)) (by omega) (by omega) fun y t u=>?_
   refine Gr.two (b:=(a.br.l.map Z6.sz).sum+(a.cm.l.map Z9.sz).sum+(r.map az.sz).sum) (Kj a1 a.bP (by omega)) (by omega) (by omega) fun z v w=>?_;refine Gr.bind (b:=(a.cm.l.map Z9.sz).sum+(r.map az.sz).sum) (Kk a1 a.br.l z (fun x hx=>by have:=Sl.dy (f:=Z6.sz) hx; omega) (by omega) (by omega)) (by omega) fun p B C=>?_;exact Gr.bind (b:=(r.map az.sz).sum) (Kl a1 a.cm.l p (fun x hx=>by have:=Sl.dy (f:=Z9.sz) hx; omega) (by omega) (by omega)) (by omega) fun q E F=>Km a1 r q (fun z g=>hx z (by simp [g])) (by omega) (by omega)
theorem Ux (a1:Int) (d:ar) (h:d.sz<=1048576):∃r,rp d a1=some r:=by
 have b:=d.bI;have hi:Sl.sz az.sz d.aD=1+(d.aD.l.map az.sz).sum:=rfl;have hl:=Sl.d_ (f:=az.sz) d.aD (fun x=>x.pos);obtain⟨r,e,h1,g⟩:=Km a1 d.aD.l (d.aD.l.length:Int) (fun x hx=>by have:=ar.xY hx; omega) (by omega) (by omega);unfold rp; rw [e]; exact⟨r,rfl⟩
theorem Uy (v:af) (h:v.sz<=1048576):Ok (oM v):=by
 unfold oM;obtain⟨r,hr,_⟩:=Jp v h
 (repeat' (first|exact aW.some _|assumption|(with_reducible refine aW.bind ?_ fun _ _=>?_)|(with_reducible refine aW.guard (fun _=>?_) fun _ _ _=>?_)|(with_reducible refine aW.cond (fun _=>?_) fun _=>?_)|(with_reducible refine aW.on fun _ _=>?_)|split))
 ·exact⟨r,hr⟩
 ·exact Jq v h
 ·exact Jr F0 v false (by rw [eD]; omega)
def Wv:Nat->af->Prop
 | 0,_=>False
 | n+1,v=>(-9223372036854775808<=v.bl/\v.bl<=9223372036854775807)/\(v.aF.nl=true->v.aF.l=[])/\v.aF.l.length<=bB/\v.av.l.length<=bB/\∀x∈v.av.l,Wv n x
theorem Wv.of:∀(n:Nat) (v:af),v.sz<=n->v.sz<=1048576->v.wf->Wv n v
 | 0,v,h,_,_=>by have:=af.pos v; omega
 | n+1,v,h,b,hw=>by
  have h1:=v.bI;have g:=Sl.d_ (f:=af.sz) v.av (fun x=>af.pos x);have i:=Sl.d_ (f:=Bs.sz) v.aF (fun x=>Bs.gH x);refine⟨?_, ?_, ?_, ?_,fun x hx=>?_⟩
  ·have:=af.OF hw; unfold i64 at this; omega
  ·exact(af.OH hw).1
  ·unfold bB; omega
  ·unfold bB; omega
  ·have j:=Sl.dy (f:=af.sz) hx;exact Wv.of n x (by omega) (by omega) ((af.OG hw).2.2 x hx)
def VW (v:af):Prop:=∃m,m<=1048576/\Wv m v
theorem VW.of {v:af}(h:v.sz<=1048576) (hw:v.wf):VW v:=⟨v.sz,h,Wv.of _ v (Nat.le_refl _) h hw⟩
theorem VW.item {v x:af}(h:VW v) (hx:x∈v.av.l):VW x:=by
 obtain⟨m,hm,h⟩:=h;cases m with
 | zero=>exact h.elim
 | succ m=>exact⟨m,by omega,h.2.2.2.2 x hx⟩
theorem VW.int {v:af}(h:VW v) : -9223372036854775808<=v.bl/\v.bl<=9223372036854775807:=by
 obtain⟨m,hm,h⟩:=h;cases m with
 | zero=>exact h.elim
 | succ m=>exact h.1
theorem VW.len {v:af}(h:VW v):v.av.l.length<=bB:=by
 obtain⟨m,hm,h⟩:=h;cases m with
 | zero=>exact h.elim
 | succ m=>exact h.2.2.2.1
def gY:af:=af.mk (0:Int) (0:Int) ([]:Bs) true ([]) (Sl.nil:Sl Bs)
theorem VW.nil:VW gY:=⟨1,by decide,⟨by decide,by decide⟩,fun _=>rfl,Nat.zero_le _,Nat.zero_le _,fun _ h=>(by cases h)⟩
theorem Kn:∀(n:Nat){v:af},Wv n v->∀m,2*n<=m->∃r,iS m v=some r/\Wv n r
 | 0,_,h,_,_=>h.elim
 | n+1,v,⟨p,B,j,k,q⟩,m,hm=>by
  obtain⟨m1,rfl⟩:∃m1,m=m1+1+1:=⟨m-2,by omega⟩;have hl:∀(l:List af) (s:Sl af),(∀x∈l,Wv n x)->(∀x∈s.l,Wv n x)->s.l.length+l.length<=bB->∃b:Sl af,kT (iS m1) l s=some b/\(∀x∈b.l,Wv n x)/\b.l.length=s.l.length+l.length:=by
   intro l;induction l with
   | nil=>intro s _ f _; exact⟨s,rfl,f,rfl⟩
   | cons a t u =>
    intro s hl f o;obtain⟨r,hr,w⟩:=Kn n (hl a (.head _)) m1 (by omega);rw [kT];simp only [Ab.on,hr,oB];simp only [List.length_cons] at o;rw [DM (by unfold bB at o; simp; omega),oB];obtain⟨b,g,i,y⟩:=u ⟨s.nl&&[r].isEmpty,s.l++[r]⟩ (fun x hx=>hl x (.tail _ hx)) (fun x hx=>by
     rcases List.mem_append.1 hx with hx|hx
     ·exact f x hx
     ·rw [List.mem_singleton.1 hx]; exact w) (by simp; omega)
    exact⟨b,g,i,by rw [y]; simp; omega⟩
  obtain⟨b,g,i,z⟩:=hl v.av.l Sl.nil q (fun _ h=>by cases h) (by simpa [Sl.nil] using k);rw [iS,rN,g,oB];simp only [Ab.on,oB];rw [gG (by decide) (by unfold bB at j; simp; omega),oB];refine⟨_,rfl,⟨p,fun e=>Bool.noConfusion (show false=true from e), ?_, ?_,i⟩⟩
  ·show ([]++v.aF.l).length<=_; rw [List.nil_append]; exact j
  ·show b.l.length<=_; rw [z]; simpa [Sl.nil] using k
theorem Uz {v:af}(h:VW v):∃r,A3 v=some r/\VW r:=by
 obtain⟨m,hm,h⟩:=h;obtain⟨r,e,w⟩:=Kn m h F0 (by rw [eD]; omega);exact⟨r,e,m,hm,w⟩
theorem UA {v:af}(h:VW v) (s:Bs):∃x b,jV v s=some (x,b)/\VW x:=by
 have loop:∀(l:List Bs) (i:Nat),∃o,kU v s l i=some o/\(match o with|Sum.inl _=>True|Sum.inr p=>VW p.1):=by
  intro l;induction l with
  | nil=>intro i; exact⟨_,rfl,trivial⟩
  | cons a r f =>
   intro i;rw [kU];simp only [Ab.on];cases a==s
   ·exact f (i+1)
   ·rw [cond_true];by_cases hi:v.av.l.length<=i
    ·rw [dT (by omega:((v.av.l.length:Nat):Int)<=((i:Nat):Int)),cond_true];exact⟨_,rfl,VW.nil⟩
    ·have hi:i<v.av.l.length:=by omega
     obtain⟨r,e,w⟩:=Uz (h.item (List.getElem_mem hi));rw [dF (by omega:¬((v.av.l.length:Nat):Int)<=((i:Nat):Int)),cond_false,List.getElem?_eq_getElem hi,oB,e,oB];exact⟨_,rfl,w⟩
 unfold jV;cases (!decide (v.ak=(6:Int)))
 ·obtain⟨o,e,w⟩:=loop v.aF.l 0;rw [cond_false,e,oB];cases o with
  | inl u=>exact⟨_,_,rfl,VW.nil⟩
  | inr p=>exact⟨p.1,p.2,rfl,w⟩
 ·exact⟨_,_,rfl,VW.nil⟩
theorem DP (s:Bs):jV gY s=some (gY,false):=rfl
theorem Ko (l:Sl Z8){i:Nat}(hi:i<l.l.length):∀(n k:Nat),k<=i->i-k<n->i<=1048576->∃b,rO l (i:Int) n (k:Int)=some b
 | 0,_,_,h,_=>by omega
 | n+1,k,h1,o,f=>by
  rw [rO];by_cases hk:k<i
  ·have g:cq l.l (k:Int)=some l.l[k]:=by unfold cq; rw [if_pos (by omega),Int.toNat_natCast,List.getElem?_eq_getElem (by omega)]
   have j:cq l.l (i:Int)=some l.l[i]:=by unfold cq; rw [if_pos (by omega),Int.toNat_natCast,List.getElem?_eq_getElem hi]
   have m:bY (k:Int) 1=some ((k+1:Nat):Int):=by rw [fU (by omega)]; rfl
   rw [dT (by omega:((k:Nat):Int)<((i:Nat):Int)),cond_true,g,oB,j,oB];cases l.l[k].ai==l.l[i].ai
   ·rw [cond_false,m,oB]; exact Ko l hi n (k+1) (by omega) (by omega) f
   ·exact⟨true,rfl⟩
  ·rw [dF (by omega:¬((k:Nat):Int)<((i:Nat):Int)),cond_false];unfold wI;exact⟨_,rfl⟩
theorem UB (l:Sl Z8){i:Nat}(hi:i<l.l.length) (h:l.l.length<=1048576):∃b,wJ l (i:Int)=some b:=by
 unfold wJ uc;exact Ko l hi F0 0 (Nat.zero_le _) (by rw [eD]; omega) (by omega)
def Wk (d:ar) (c:Z4):Prop:=c.Fd=d/\c.en=gY/\True/\0<=c.eW/\c.eW<=4097/\(c.dz=0->c.eW<=4096)
theorem oO {d:ar}{c:Z4}(h:Wk d c){e:Int}(he:e≠0):Wk d (fE c e):=by
 obtain⟨a,b,l,f,c1,c2⟩:=h;unfold fE;cases decide (c.dz=0)
 ·exact⟨a,b,l,f,c1,c2⟩
 ·exact⟨a,b,l,f,c1,fun h=>absurd h he⟩
theorem UC {d:ar}{c:Z4}(h:Wk d c) (h0:c.dz=0) (L:Int):∃c',kV c L=some c'/\Wk d c'/\(c'.dz=0->L<=24):=by
 have i:∀c1:Z4,c1.Fd=d->c1.en=gY->True->0<=c1.eW->c1.eW<=4096->(c1.dz=0->L<=24) ->
   ∃c',((bY c1.eW (1:Int)).bind fun f=>bif (decide ((4096:Int)<f)) then(on (fE (Z4.mk c1.Fd c1.en c1.fC f c1.dz) (4:Int)) fun o=>some o) else(some (Z4.mk c1.Fd c1.en c1.fC f c1.dz)))=some c'/\Wk d c'/\(c'.dz=0->L<=24):=by
  intro c1 a1 a2 a3 a4 a5 j;rw [fU (by omega),oB];by_cases k:4096<c1.eW+1
  ·rw [dT k,cond_true];simp only [Ab.on];unfold fE;simp only [];by_cases g:c1.dz=0
   ·rw [dT g];exact⟨_,rfl,⟨a1,a2,a3,by show 0<=c1.eW+1; omega,by show c1.eW+1<=4097; omega,fun h=>(by cases h)⟩,fun h=>(by cases h)⟩
   ·rw [dF g];exact⟨_,rfl,⟨a1,a2,a3,by show 0<=c1.eW+1; omega,by show c1.eW+1<=4097; omega,fun h=>absurd h g⟩,j⟩
  ·rw [dF k];exact⟨_,rfl,⟨a1,a2,a3,by show 0<=c1.eW+1; omega,by show c1.eW+1<=4097; omega,fun _=>by show c1.eW+1<=4096; omega⟩,j⟩
 obtain⟨a,b,l,m,c1,c2⟩:=h;unfold kV;by_cases hl:24<L
 ·rw [dT hl];simp only [cond_true,Ab.on];refine i _ ?_ ?_ trivial ?_ ?_ ?_<;>unfold fE<;>rw [dT h0]
  ·exact a
  ·exact b
  ·exact m
  ·exact c2 h0
  ·exact fun h=>(by cases h)
 ·rw [dF hl];simp only [cond_false,Ab.on];exact i c a b l m (c2 h0) fun _=>by omega
def qy (d:ar) (n:Nat) (L:Int):Prop:=∀(c:Z4) (t:aB) (v:af),Wk d c->c.dz=0->VW v->t.aX.l.length<=1048576->∃x c',fM n c t v L=some (x,c')/\Wk d c'
theorem UD {d:ar}{n:Nat}{L:Int}(k:0<=L/\L<=100) (hc:qy d n (L+1)){c:Z4}{t:aB}{v:af}(hk:Wk d c) (hv:VW v) (ht:t.aX.l.length<=1048576):∃x c',lS (n+1) c t v L=some (x,c')/\Wk d c':=by
 have loop:∀(l:List af) (c:Z4) (o:af),Wk d c->(∀x∈l,VW x)->o.av.l.length+l.length<=2*bB->∃c' o',jv t L (fM n) l c o=some (c',o')/\Wk d c':=by
  intro l;induction l with
  | nil=>intro c o hk _ _; exact⟨c,o,rfl,hk⟩
  | cons a r g =>
   intro c o hk hx b;simp only [List.length_cons] at b;rw [jv];by_cases he:c.dz=0
   ·rw [dT he,cond_true];simp only [Ab.on];obtain⟨x,c',e,w⟩:=hc c t a hk he (hx a (.head _)) ht;rw [fU (by omega),oB,e,oB,DM (by unfold bB at b; simp only [List.length_cons,List.length_nil]; omega),oB];refine g c' _ w (fun x i=>hx x (.tail _ i)) ?_;show (o.av.l++[x]).length+r.length<=_;rw [List.length_append,List.length_singleton]; omega
   ·rw [dF he]; exact⟨c,o,rfl,hk⟩
 rw [lS];simp only [Ab.on];have fin:∀l:Sl af,(∀x∈l.l,VW x)->l.l.length<=bB->∃x c',(Option.bind (jv t L (fM n) l.l c (af.mk (5:Int) (0:Int) ([]:Bs) true ([]) (Sl.nil:Sl Bs))) fun f=>some (f.2,f.1))=some (x,c')/\Wk d c':=by
  intro l h1 j;obtain⟨c',o',e,w⟩:=loop l.l c (af.mk (5:Int) (0:Int) ([]:Bs) true ([]) (Sl.nil:Sl Bs)) hk h1 (by show 0+l.l.length<=_; unfold bB at j ⊢; omega);rw [e]; exact⟨_,_,rfl,w⟩
 cases decide (v.ak=(5:Int))
 ·exact fin ⟨false,[v]⟩ (fun x hx=>by rw [List.mem_singleton.1 hx]; exact hv) (by unfold bB; simp)
 ·exact fin v.av (fun x hx=>hv.item hx) hv.len
def nt (d:ar):Prop:=∀t∈d.aD.l,t.bP.l.length<=1048576/\∀x∈t.bP.l,VW x.eE/\x.aO.aX.l.length<=1048576
theorem Kq {d:ar}(t:az):∀(l:List Bs) (c:Z4),Wk d c->Wk d (iT t l c)
 | [],c,h=>by rw [iT]; exact h
 | a::r,c,h=>by
  rw [iT];simp only [Ab.on];refine Kq t r _ ?_;cases (jm t.bP a).2
  ·exact oO h (by decide)
  ·exact h
theorem UE {d:ar}{n:Nat}{L:Int}(X:0<=L/\L<=100) (hc:qy d (n+1) (L+1)) (B:qy d n (L+1)){c:Z4}{t:az}{v:af}(hk:Wk d c) (hv:VW v) (hl:t.bP.l.length<=1048576) (hi:∀x∈t.bP.l,VW x.eE/\x.aO.aX.l.length<=1048576):∃x c',lT (n+2) c t v L=some (x,c')/\Wk d c':=by
 have C:∀(c:Z4) (t:aB) (v:af),Wk d c->c.dz=0->VW v->t.aX.l.length<=1048576->∃x c',iF (n+1) c t v (L+1)=some (x,c')/\Wk d c':=by
  intro c t v hk he hv ht;obtain⟨x,c',e,w⟩:=B (Z4.mk c.Fd gY true c.eW c.dz) t v ⟨hk.1,rfl,trivial,hk.2.2.2.1,hk.2.2.2.2.1,hk.2.2.2.2.2⟩ he hv ht;rw [iF];have E:fM n (Z4.mk c.Fd (af.mk (0:Int) (0:Int) ([]:Bs) true ([]) (Sl.nil:Sl Bs)) true c.eW c.dz) t v (L+1)=some (x,c'):=e;rw [E];exact⟨_,_,rfl,⟨w.1,hk.2.1,hk.2.2.1,w.2.2.2.1,w.2.2.2.2.1,w.2.2.2.2.2⟩⟩
 have loop:∀(l:List Z8) (i:Nat) (c:Z4) (o:af),t.bP.l.drop i=l->Wk d c->o.av.l.length+l.length<=2097152->o.aF.l.length+l.length<=2097152 ->
   ∃c' o',iE t v L (fM (n+1)) (iF (n+1)) l i c o=some (c',o')/\Wk d c':=by
  intro l;induction l with
  | nil=>intro i c o _ hk _ _; exact⟨c,o,rfl,hk⟩
  | cons a r F =>
   intro i c o G hk H I;obtain⟨h1,J⟩:=ya G;have K:i<t.bP.l.length:=(List.getElem?_eq_some_iff.1 h1).1;have k:=hi a (List.mem_of_getElem? h1);simp only [List.length_cons] at H I;rw [iE];by_cases he:c.dz=0
   ·rw [dT he,cond_true];simp only [Ab.on];obtain⟨b,M⟩:=UB t.bP K hl;rw [M,oB];have p:∀(o':Option (Z4×af)),(∃c' z,o'=some (c',z)/\Wk d c'/\z.av.l.length+r.length<=2097152/\z.aF.l.length+r.length<=2097152) ->
      ∃c' N,(Option.bind o' fun q=>iE t v L (fM (n+1)) (iF (n+1)) r (i+1) q.1 q.2)=some (c',N)/\Wk d c':=by
     rintro _ ⟨c',z,rfl,w,O,P⟩;rw [oB];exact F (i+1) c' z J w O P
    have same:∃c' z,(some (c,o):Option (Z4×af))=some (c',z)/\Wk d c'/\z.av.l.length+r.length<=2097152/\z.aF.l.length+r.length<=2097152:=⟨c,o,rfl,hk,by omega,by omega⟩;have add:∀(c':Z4) (x:af),Wk d c'->∃c2 z,((bp 16 o.aF (⟨false,[a.ai]⟩:Sl Bs)).bind fun j=>(bp 80 o.av (⟨false,[x]⟩:Sl af)).bind fun f=>some (c',(af.mk o.ak o.bl o.aV f.nl f.l j)))=some (c2,z)/\Wk d c2/\z.av.l.length+r.length<=2097152/\z.aF.l.length+r.length<=2097152:=by
     intro c' x w;rw [gG (by decide) (by simp only [List.length_cons,List.length_nil]; omega),oB,DM (by simp only [List.length_cons,List.length_nil]; omega),oB];refine⟨_,_,rfl,w, ?_, ?_⟩
     ·show (o.av.l++[x]).length+r.length<=_; rw [List.length_append,List.length_singleton]; omega
     ·show (o.aF.l++[a.ai]).length+r.length<=_; rw [List.length_append,List.length_singleton]; omega
    cases b
    ·rw [cond_false];obtain⟨y,g,Q,R⟩:=UA hv a.ai;rw [Q,oB];refine p _ ?_;have go:∀m:Bool,∃c' z,(bif (g&&(!m)) then((bY L (1:Int)).bind fun S=>(fM (n+1) c a.aO y S).bind fun s=>(bp 16 o.aF (⟨false,[a.ai]⟩:Sl Bs)).bind fun j=>(bp 80 o.av (⟨false,[s.1]⟩:Sl af)).bind fun f=>some (s.2,(af.mk o.ak o.bl o.aV f.nl f.l j))) else(bif a.dO then((bY L (1:Int)).bind fun U=>(iF (n+1) c a.aO a.eE U).bind fun u=>(bp 16 o.aF (⟨false,[a.ai]⟩:Sl Bs)).bind fun j=>(bp 80 o.av (⟨false,[u.1]⟩:Sl af)).bind fun f=>some (u.2,(af.mk o.ak o.bl o.aV f.nl f.l j))) else(bif fw a.aO then((bp 16 o.aF (⟨false,[a.ai]⟩:Sl Bs)).bind fun j=>(bp 80 o.av (⟨false,[af.zero]⟩:Sl af)).bind fun f=>some (fE c (22:Int),(af.mk o.ak o.bl o.aV f.nl f.l j))) else(some (c,o)))))=some (c',z)/\Wk d c'/\z.av.l.length+r.length<=2097152/\z.aF.l.length+r.length<=2097152:=by
      intro m;cases (g&&!m)
      ·rw [cond_false];cases a.dO
       ·rw [cond_false];cases fw a.aO
        ·exact same
        ·exact add _ _ (oO hk (by decide))
       ·obtain⟨x,c',e,w⟩:=C c a.aO a.eE hk he k.1 k.2;rw [cond_true,fU (by omega),oB,e,oB];exact add c' x w
      ·obtain⟨x,c',e,w⟩:=hc c a.aO y hk he R k.2;rw [cond_true,fU (by omega),oB,e,oB];exact add c' x w
     have W:∃m,mV c y=some m:=by
      unfold mV;cases ((!c.fC)||(!decide (y.ak=(7:Int))))
      ·rw [cond_false,hk.2.1,DP]; exact⟨_,rfl⟩
      ·exact⟨_,rfl⟩
     obtain⟨m,em⟩:=W;rw [em];cases g
     ·exact go false
     ·exact go m
    ·exact p _ same
   ·rw [dF he]; exact⟨c,o,rfl,hk⟩
 rw [lT];cases (!decide (v.ak=(6:Int)))
 ·rw [cond_false];simp only [Ab.on];obtain⟨c',o',e,w⟩:=loop t.bP.l 0 (iT t v.aF.l c) (af.mk (6:Int) (0:Int) ([]:Bs) true ([]) (Sl.nil:Sl Bs)) rfl (Kq t _ c hk) (by show 0+t.bP.l.length<=_; omega) (by show 0+t.bP.l.length<=_; omega);rw [e]; exact⟨_,_,rfl,w⟩
 ·exact⟨_,_,rfl,oO hk (by decide)⟩
theorem UF {d:ar}{c:Z4}(hk:Wk d c) (s:Bs){v:af}(hv:VW v):∃x c',lR c s v=some (x,c')/\Wk d c':=by
 unfold lR;generalize (((((s==([73,110,116]:Bs)))&&(decide (v.ak=(2:Int))))&&(decide ((-2147483648:Int)<=v.bl)))&&(decide (v.bl<(2147483648:Int))))=b;cases b
 ·rw [cond_false];simp only [Ab.on];generalize (bif (((s==([83,116,114,105,110,103]:Bs)))&&(decide (v.ak=(3:Int)))) then((((s==([83,116,114,105,110,103]:Bs)))&&(decide (v.ak=(3:Int))))) else(bif (((s==([66,111,111,108,101,97,110]:Bs)))&&(decide (v.ak=(1:Int)))) then((((s==([66,111,111,108,101,97,110]:Bs)))&&(decide (v.ak=(1:Int))))) else((((s==([73,68]:Bs)))&&(decide (v.ak=(3:Int)))))))=f
  cases f
  ·rw [cond_false];cases (((s==([73,68]:Bs)))&&(decide (v.ak=(2:Int))))
   ·exact⟨_,_,rfl,oO hk (by decide)⟩
   ·rw [cond_true,yl hv.int.1 hv.int.2]; exact⟨_,_,rfl,hk⟩
  ·exact⟨_,_,rfl,hk⟩
 ·exact⟨_,_,rfl,hk⟩
theorem UG {d:ar}{c:Z4}(hk:Wk d c) (t:az) (v:af):Wk d (jt c t v).2:=by
 have loop:∀l:List Z9,match jX c v l with|Sum.inl _=>True|Sum.inr p=>Wk d p.2:=by
  intro l;induction l with
  | nil=>exact trivial
  | cons a r b =>
   rw [jX];simp only [Ab.on];cases a.ai==v.aV
   ·exact b
   ·exact hk
 unfold jt;simp only [Ab.on];cases ((decide (v.ak=(4:Int)))||((decide (v.ak=(3:Int)))&&(!c.fC)))
 ·exact oO hk (by decide)
 ·rw [cond_true];have:=loop t.cm.l;cases h:jX c v t.cm.l with
  | inl u=>exact oO hk (by decide)
  | inr p=>rw [h] at this; exact this
theorem Kr {d:ar}(B:nt d){m:Nat}{L:Int}(k:0<=L/\L<=100) (h:L<=24->qy d (m+1) (L+1)/\qy d m (L+1)):qy d (m+3) L:=by
 intro c t v hk he hv ht;rw [fM];simp only [Ab.on];cases jo c.Fd t.ai
 ·exact⟨_,_,rfl,oO hk (by decide)⟩
 ·rw [Bool.not_true,cond_false];obtain⟨c1,C,g,E⟩:=UC hk he L;have o:∀v:af,VW v->∃x c',((kV c L).bind fun f=>bif (!decide (f.dz=(0:Int))) then(some ((af.mk (0:Int) (0:Int) ([]:Bs) true ([]) (Sl.nil:Sl Bs)),f)) else(bif (decide (v.ak=(0:Int))) then(some ((af.mk (0:Int) (0:Int) ([]:Bs) true ([]) (Sl.nil:Sl Bs)),bif fw t then fE f (23:Int) else f)) else((lM t).bind fun p=>bif p.2 then(((lS (m+2)) f p.1 v L).bind fun q=>some (q.1,q.2)) else(bif iQ t.ai then((lR f t.ai v).bind fun r=>some (r.1,r.2)) else(bif (decide ((cV f.Fd t.ai).1.ak=(4:Int))) then(some ((jt f (cV f.Fd t.ai).1 v).1,(jt f (cV f.Fd t.ai).1 v).2)) else(((lT (m+2)) f (cV f.Fd t.ai).1 v L).bind fun s=>some (s.1,s.2)))))))=some (x,c')/\Wk d c':=by
   intro v hv;rw [C,oB];by_cases j:c1.dz=0
   ·rw [dT j,Bool.not_true,cond_false];obtain⟨y,F⟩:=h (E j);cases decide (v.ak=(0:Int))
    ·rw [cond_false];obtain⟨u,b,G,hu⟩:=DH ht;rw [G,oB];cases b
     ·simp only [cond_false];cases iQ t.ai
      ·rw [cond_false];cases decide ((cV c1.Fd t.ai).1.ak=(4:Int))
       ·rw [cond_false];have i:=JN c1.Fd t.ai;rw [g.1] at i ⊢;have z:(cV d t.ai).1.bP.l.length<=1048576/\∀x∈(cV d t.ai).1.bP.l,VW x.eE/\x.aO.aX.l.length<=1048576:=by
         rcases i with i|i
         ·exact B _ i
         ·rw [i]; exact⟨Nat.zero_le _,fun _ h=>(by cases h)⟩
        obtain⟨x,c',e,w⟩:=UE (n:=m) k y F g hv z.1 z.2;rw [e]; exact⟨_,_,rfl,w⟩
       ·exact⟨_,_,rfl,UG g _ _⟩
      ·obtain⟨x,c',e,w⟩:=UF g t.ai hv;rw [cond_true,e]; exact⟨_,_,rfl,w⟩
     ·simp only [cond_true];obtain⟨x,c',e,w⟩:=UD (n:=m+1) (t:=u) k y g hv (by have:=hu rfl; omega);rw [e]; exact⟨_,_,rfl,w⟩
    ·rw [cond_true];refine⟨_,_,rfl, ?_⟩;cases fw t
     ·exact g
     ·exact oO g (by decide)
   ·rw [dF j]; exact⟨_,_,rfl,g⟩
  cases (c.fC&&(decide (v.ak=(7:Int))))
  ·exact o v hv
  ·rw [cond_true,hk.2.1,DP,oB,show (!decide ((gY,false).1.ak=(0:Int)))=false from rfl,cond_false];exact o gY VW.nil
theorem yo {d:ar}(b:nt d):∀(k n:Nat) (L:Int),3*(k+1)<=n->25-(k:Int)<=L->0<=L->L<=25->qy d n L
 | 0,n,L,h1,f,g,i=>by
  obtain⟨m,rfl⟩:∃m,n=m+3:=⟨n-3,by omega⟩;exact Kr b (by omega) fun h=>by omega
 | k+1,n,L,h1,f,g,i=>by
  obtain⟨m,rfl⟩:∃m,n=m+3:=⟨n-3,by omega⟩;exact Kr b (by omega) fun h=>⟨yo b k (m+1) (L+1) (by omega) (by omega) (by omega) (by omega),yo b k m (L+1) (by omega) (by omega) (by omega) (by omega)⟩
theorem UH {d:ar}(i:nt d){t:aB}{v:af}(hv:VW v) (ht:t.aX.l.length<=1048576):∃r,qc d t v gY=some r:=by
 unfold qc;simp only [Ab.on];have j:∃m,mV (Z4.mk d gY true (0:Int) (0:Int)) v=some m:=by
  unfold mV;cases ((!(Z4.mk d gY true (0:Int) (0:Int)).fC)||(!decide (v.ak=(7:Int))))
  ·rw [cond_false,DP]; exact⟨_,rfl⟩
  ·exact⟨_,rfl⟩
 obtain⟨m,em⟩:=j;rw [em];have run:∃r,((kW (Z4.mk d gY true (0:Int) (0:Int)) t v).bind fun f=>some (f.1,f.2.1))=some r:=by
  obtain⟨x,c',e,w⟩:=yo i 24 F0 1 (by rw [eD]; omega) (by omega) (by omega) (by omega) (Z4.mk d gY true (0:Int) (0:Int)) t v ⟨rfl,rfl,trivial,by show (0:Int)<=0; decide,by show (0:Int)<=4097; decide,fun _=>by show (0:Int)<=4096; decide⟩ rfl hv ht;unfold kW ud;rw [e,oB];cases (!decide ((x,c').2.dz=(0:Int)))<;>exact⟨_,rfl⟩
 have g:∀b:Bool,∃r,(bif (jo d t.ai&&b) then(some ((af.mk (0:Int) (0:Int) ([]:Bs) true ([]) (Sl.nil:Sl Bs)),(8:Int))) else((kW (Z4.mk d gY true (0:Int) (0:Int)) t v).bind fun f=>some (f.1,f.2.1)))=some r:=by
  intro b;cases (jo d t.ai&&b)
  ·exact run
  ·exact⟨_,rfl⟩
 have k:∀c:Bool,∃r,(aQ c (some m) false fun o=>bif (jo d t.ai&&o) then(some ((af.mk (0:Int) (0:Int) ([]:Bs) true ([]) (Sl.nil:Sl Bs)),(8:Int))) else((kW (Z4.mk d gY true (0:Int) (0:Int)) t v).bind fun f=>some (f.1,f.2.1)))=some r:=by
  intro c;cases c
  ·exact g false
  ·exact g m
 exact k _
theorem UI {d:ar}(b:nt d){t:aB}{v:af}(hv:VW v) (ht:t.aX.l.length<=1048576):∃r,ni d t v=some r:=by
 unfold ni;obtain⟨x,c',e,w⟩:=yo b 24 F0 1 (by rw [eD]; omega) (by omega) (by omega) (by omega) (Z4.mk d gY false (0:Int) (0:Int)) t v ⟨rfl,rfl,trivial,by show (0:Int)<=0; decide,by show (0:Int)<=4097; decide,fun _=>by show (0:Int)<=4096; decide⟩ rfl hv ht;unfold kW ud;rw [show Z4.mk d af.zero false (0:Int) (0:Int)=Z4.mk d gY false (0:Int) (0:Int) from rfl,e,oB]
 cases (!decide ((x,c').2.dz=(0:Int)))<;>exact⟨_,rfl⟩
theorem Ks {d:ar}(b:nt d){p q r:Bs}(f:p.length<=10000000) (hq:q.length<=10) (hr:r.length<=10):∀(l:List Z8) (s:Sl Z5),(∀x∈l,VW x.eE/\x.aO.aX.l.length<=1048576/\x.ai.length<=1048576)->s.l.length+l.length<=1000000000->Tl (mZ d p q r l s) (s.l.length+l.length)
 | [],s,_,_=>⟨s,rfl,by simp⟩
 | a::t,s,hx,h=>by
  obtain⟨h1,g,k⟩:=hx a (.head _);simp only [List.length_cons] at h ⊢;rw [mZ];simp only [Ab.on];refine Tl.bind (a:=s.l.length+1) ?_ fun u hu=>(Ks b f hq hr t u (fun x i=>hx x (.tail _ i)) (by omega)).mono (by omega);cases a.dO
  ·exact⟨s,rfl,by omega⟩
  ·rw [Bool.not_true,cond_false];obtain⟨z,e⟩:=UH b h1 g;have j:qc d a.aO a.eE (af.mk (0:Int) (0:Int) ([]:Bs) true ([]) (Sl.nil:Sl Bs))=some z:=e;rw [j,oB];cases (!decide (z.2=(0:Int)))
   ·exact⟨s,rfl,by omega⟩
   ·rw [cond_true,cM (by omega),oB,cM (by simp only [List.length_append]; omega),oB,cM (by simp only [List.length_append]; omega),oB];exact Tl.nr (by omega) (by omega)
theorem Kt {d:ar}(b:nt d) (l:Sl Z8){p q r:Bs}(f:p.length<=10000000) (hq:q.length<=10) (hr:r.length<=10) (hx:∀x∈l.l,VW x.eE/\x.aO.aX.l.length<=1048576/\x.ai.length<=1048576) (hl:l.l.length<=1048576):Tl (oq d l p q r) l.l.length:=by
 obtain⟨u,e,h⟩:=Ks b f hq hr l.l Sl.nil hx (by show 0+l.l.length<=_; omega);unfold oq;rw [e];exact⟨u,rfl,by simpa [Sl.nil] using h⟩
structure Ku (x:Z8):Prop where
 v:VW x.eE
 w:x.aO.aX.l.length<=1048576
 n:x.ai.length<=1048576
theorem DQ {x:Z8}(hw:x.wf) (h:x.sz<=1048576):Ku x:=by
 have h1:=x.bI;have b:=aB.qw x.aO;have f:=Bs.d_ x.ai;exact⟨VW.of (by omega) hw.2.2.2.1,by omega,by omega⟩
theorem Kv {d:ar}(i:nt d){t:az}(ht:t.ai.length<=1048576):∀(l:List Z6) (s:Sl Z5),(∀f∈l,f.ai.length<=1048576/\f.aG.l.length<=f.sz/\f.sz<=1048576/\∀x∈f.aG.l,Ku x)->s.l.length+(l.map Z6.sz).sum<=1000000000->Tl (ot d t l s) (s.l.length+(l.map Z6.sz).sum)
 | [],s,_,_=>⟨s,rfl,by simp⟩
 | a::r,s,hx,h=>by
  obtain⟨h1,k,m,b⟩:=hx a (.head _);simp only [List.map_cons,List.sum_cons] at h ⊢;rw [ot];simp only [Ab.on];rw [cM (by simp only [List.length_cons,List.length_nil]; omega),oB,cM (by simp only [List.length_append,List.length_cons,List.length_nil]; omega),oB];refine Tl.oN (a:=s.l.length) (Nat.le_refl _) (Kt i a.aG (p:=t.ai++[46]++a.ai) (q:=[40]) (r:=[41]) (by simp only [List.length_append,List.length_cons,List.length_nil]; omega) (by simp) (by simp) (fun x g=>⟨(b x g).v,(b x g).w,(b x g).n⟩) (by omega)) (by omega) fun u hu=>?_
  exact(Kv i ht r u (fun f j=>hx f (.tail _ j)) (by omega)).mono (by omega)
theorem Kw {d:ar}(g:nt d):∀(l:List az) (s:Sl Z5),(∀t∈l,t.wf/\t.sz<=1048576)->s.l.length+2*(l.map az.sz).sum<=1000000000->Tl (lU d l s) (s.l.length+2*(l.map az.sz).sum)
 | [],s,_,_=>⟨s,rfl,by simp⟩
 | a::r,s,hx,h=>by
  obtain⟨h1,j⟩:=hx a (.head _);simp only [List.map_cons,List.sum_cons] at h ⊢;have k:=a.bI;have m:Sl.sz Z6.sz a.br=1+(a.br.l.map Z6.sz).sum:=rfl;have hi:=Sl.d_ (f:=Z8.sz) a.bP (fun x=>x.pos);have hn:=Bs.d_ a.ai;rw [lU];simp only [Ab.on];refine Tl.bind (a:=s.l.length+(a.br.l.map Z6.sz).sum) (Kv g (by omega) a.br.l s (fun f i=>?_) (by omega)) fun u hu=>?_
  ·have o:=Sl.dy (f:=Z6.sz) i;have y:=f.bI;have z:=Bs.d_ f.ai;have B:=Sl.d_ (f:=Z8.sz) f.aG (fun x=>x.pos);exact⟨by omega,by omega,by omega,fun x b=>DQ ((h1.2.2.2.2.1.2.2 f i).2.1.2.2 x b) (by have:=Sl.dy (f:=Z8.sz) b; omega)⟩
  ·refine Tl.oN (a:=s.l.length+(a.br.l.map Z6.sz).sum) hu (Kt g a.bP (p:=a.ai) (q:=[46]) (r:=[]) (by omega) (by simp) (by simp) (fun x b=>?_) (by omega)) (by omega) fun v hv=>(Kw g r v (fun t ht=>hx t (.tail _ ht)) (by omega)).mono (by omega);have:=DQ (h1.2.2.2.2.2.2.1.2.2 x b) (by have:=Sl.dy (f:=Z8.sz) b; omega);exact⟨this.v,this.w,this.n⟩
theorem Kx {d:ar}(hw:d.wf) (b:d.sz<=1048576):nt d:=fun t ht=>by
 have h1:=ar.xY ht;have g:=t.bI;have i:=Sl.d_ (f:=Z8.sz) t.bP (fun x=>x.pos);refine⟨by omega,fun x hx=>?_⟩;have:=DQ ((hw.1.2.2 t ht).2.2.2.2.2.2.1.2.2 x hx) (by have:=Sl.dy (f:=Z8.sz) hx; omega);exact⟨this.v,this.w⟩
theorem UJ {d:ar}(hw:d.wf) (b:d.sz<=1048576):Tl (rT d) 3000000:=by
 have f:=d.bI;have hi:Sl.sz az.sz d.aD=1+(d.aD.l.map az.sz).sum:=rfl;obtain⟨u,e,h⟩:=Kw (Kx hw b) d.aD.l Sl.nil (fun t ht=>⟨hw.1.2.2 t ht,by have:=ar.xY ht; omega⟩) (by show 0+2*(d.aD.l.map az.sz).sum<=_; omega);unfold rT;rw [e];refine⟨u,rfl, ?_⟩;have:(Sl.nil:Sl Z5).l.length=0:=rfl;omega
theorem DR:∀s t:Bs,Lib.compareBytes s t=0↔s=t
 | [],[]=>by simp [Lib.compareBytes]
 | [],_::_=>by simp [Lib.compareBytes]
 | _::_,[]=>by simp [Lib.compareBytes]
 | a::r,b::q=>by
  rw [Lib.compareBytes];by_cases h1:a<b
  ·rw [if_pos h1];exact⟨fun h=>(by cases h),fun h=>by cases h; exact absurd h1 (UInt8.lt_irrefl _)⟩
  ·rw [if_neg h1];by_cases f:b<a
   ·rw [if_pos f];exact⟨fun h=>(by cases h),fun h=>by cases h; exact absurd f (UInt8.lt_irrefl _)⟩
   ·rw [if_neg f,DR r q];have:a=b:=UInt8.le_antisymm (UInt8.not_lt.1 f) (UInt8.not_lt.1 h1);rw [this]; simp
theorem DS (a b:Int):∃c,qo a b=some c/\(c=0↔a=b):=by
 rw [Ry]; unfold xq sI;simp only [Ab.on,decide_true,Bool.not_true,oB,cond_false];by_cases h1:a<b
 ·rw [dT h1]; exact⟨-1,rfl,⟨fun h=>(by cases h),fun h=>by omega⟩⟩
 ·rw [dF h1];by_cases f:b<a
  ·rw [dT f]; exact⟨1,rfl,⟨fun h=>(by cases h),fun h=>by omega⟩⟩
  ·rw [dF f]; exact⟨0,rfl,⟨fun _=>by omega,fun _=>rfl⟩⟩
theorem DT (v:af) (i:Nat):sJ v (i:Int)=some (v.aF.l.getD i []):=by
 rw [RB]; unfold xu;by_cases h:i<v.aF.l.length
 ·have b:cq v.aF.l (i:Int)=some v.aF.l[i]:=by unfold cq; rw [if_pos (by omega),Int.toNat_natCast,List.getElem?_eq_getElem h]
  rw [dT (by omega:((i:Nat):Int)<((v.aF.l.length:Nat):Int)),cond_true,b,oB,List.getD_eq_getElem?_getD,List.getElem?_eq_getElem h]; rfl
 ·rw [dF (by omega:¬((i:Nat):Int)<((v.aF.l.length:Nat):Int)),cond_false,List.getD_eq_getElem?_getD,List.getElem?_eq_none (by omega)]; rfl
def AtR (R:af->af->Prop) (v w:af) (j:Nat):Prop:=v.aF.l.getD j []=w.aF.l.getD j []/\∃x y,v.av.l[j]?=some x/\w.av.l[j]?=some y/\R x y
def iH:Nat->af->af->Prop
 | 0,_,_=>False
 | n+1,v,w=>v.ak=w.ak/\v.bl=w.bl/\v.aV=w.aV/\v.av.l.length=w.av.l.length/\∀j,0<=j->j<v.av.l.length->AtR (iH n) v w j
theorem Ky:∀x:Bs,Op.bytesLess x x=false
 | []=>by simp [Op.bytesLess]
 | a::x=>by rw [Op.bytesLess,Ky x]; simp
theorem DU (a b:Int):ov a b=0↔a=b:=by
 unfold ov;by_cases h1:a<b
 ·rw [dT h1,cond_true]; exact⟨fun h=>(by cases h),fun h=>by omega⟩
 ·rw [dF h1,cond_false];by_cases f:b<a
  ·rw [dT f,cond_true]; exact⟨fun h=>(by cases h),fun h=>by omega⟩
  ·rw [dF f,cond_false]; exact⟨fun _=>by omega,fun _=>rfl⟩
theorem Kz (a b:Bs):ow a b=0↔a=b:=by
 unfold ow;cases h1:Op.bytesLess a b
 ·rw [cond_false,Bool.false_or];by_cases f:a=b
  ·rw [beq_iff_eq.mpr f]; exact⟨fun _=>f,fun _=>rfl⟩
  ·rw [show (a==b)=false from beq_eq_false_iff_ne.mpr f]; exact⟨fun h=>(by cases h),fun h=>absurd h f⟩
 ·rw [cond_true];exact⟨fun h=>(by cases h),fun h=>by rw [h,Ky] at h1; cases h1⟩
theorem KB (v:af) (i:Nat):sr v (i:Int)=some (v.aF.l.getD i []):=by
 rw [Q1]; exact DT v i
def UK (x:Z8):Prop:=x.dO=true->iB x.eE=some true
theorem DV {α β:Type}{o:Option α}{d:α}{k:α->Option β}{z:β}(h:aQ true o d k=some z):∃v,o=some v/\k v=some z:=by
  rcases dS h with ⟨_,h⟩|⟨hc,_⟩
  · exact h
  · cases hc
theorem UL (l:List Z6) (z:Unit ⊕ Bool) (h:gK l=some z):(z=Sum.inl ()/\∀x∈l,gx x.aG=some true)\/z=Sum.inr false:=by
  induction l generalizing z with
  | nil=>rw [gK] at h; exact .inl ⟨(oJ h).symm,fun a f=>by cases f⟩
  | cons a r g =>
    rw [gK] at h;simp only [Ab.on] at h;cases e:bQ a.ai with
    | false=>simp [e,aQ] at h; exact .inr h.symm
    | true =>
      simp only [e,Bool.not_true,Bool.not_false,cond_true,Bool.false_or] at h;obtain⟨i,j,h⟩:=DV h;cases i with
      | false=>simp [aQ] at h; exact .inr h.symm
      | true =>
        simp only [Bool.not_true,Bool.not_false,cond_true,Bool.false_or] at h;obtain⟨k,_,h⟩:=DV h;cases k with
        | false=>simp [aQ] at h; exact .inr h.symm
        | true =>
          simp only [Bool.not_true,Bool.not_false,cond_true,Bool.false_or] at h;obtain⟨m,_,h⟩:=DV h;cases m with
          | false=>simp at h; exact .inr h.symm
          | true =>
            simp only [Bool.not_true,cond_false] at h;rcases g z h with ⟨h1,o⟩|h1
            · exact .inl ⟨h1,fun y b=>by rcases List.mem_cons.1 b with rfl|b; exact j; exact o y b⟩
            · exact .inr h1
theorem KC {s:Sl Z8}(h:gx s=some true):s.l.length<=16:=by
  unfold gx at h;rcases eB h with ⟨_,h⟩|⟨h1,_⟩
  · cases h
  · rw [decide_eq_false_iff_not] at h1; omega
theorem KD {s:Sl Z6}(h:iP s=some true):s.l.length<=64/\∀x∈s.l,gx x.aG=some true:=by
  unfold iP at h;rcases eB h with ⟨_,h⟩|⟨h1,h⟩
  · cases h
  · obtain⟨z,g,h⟩:=cS h
    rw [Bool.or_eq_false_iff,decide_eq_false_iff_not,decide_eq_false_iff_not] at h1;rcases UL _ _ g with ⟨_,b⟩|rfl
    · exact⟨by omega,b⟩
    · cases h
theorem KE {s:Sl Z9}{b:Bool}(h:kM s b=some true):s.l.length<=64:=by
  unfold kM at h;rcases eB h with ⟨_,h⟩|⟨h1,_⟩
  · cases h
  · rw [Bool.or_eq_false_iff,decide_eq_false_iff_not,decide_eq_false_iff_not] at h1; omega
structure Rt (t:az):Prop where
  f:t.br.l.length<=64
  a:∀x∈t.br.l,gx x.aG=some true
  i:t.bP.l.length<=16
  d:∀y∈t.bP.l,UK y
  m:t.cm.l.length<=64
  p:t.cw.l.length<=64
  q:t.bP.l=[]\/gx t.bP=some true
theorem UM {t:az}(h:gQ t=some true):Rt t:=by
  have mk:t.cw.l.length<=64->(t.br.l=[]\/iP t.br=some true)->(t.bP.l=[]\/gx t.bP=some true)->t.cm.l.length<=64->Rt t:=fun h1 g f i=>by
    refine⟨?_, ?_, ?_, ?_,i,h1,f⟩
    · rcases g with e|e
      · rw [e]; exact Nat.zero_le _
      · exact(KD e).1
    · rcases g with e|e
      · rw [e]; intro x hx; cases hx
      · exact(KD e).2
    · rcases f with e|e
      · rw [e]; exact Nat.zero_le _
      · exact KC e
    · rcases f with e|e
      · rw [e]; intro x hx; cases hx
      · exact Ke e
  have z:∀{α:Type}{l:List α},l=[]->l.length<=64:=fun e=>by rw [e]; exact Nat.zero_le _
  unfold gQ at h;simp only [Ab.on] at h;rcases dS h with ⟨_,k,_,h⟩|⟨_,h⟩<;>rcases eB h with ⟨_,h⟩|⟨j,h⟩;all_goals first
    | (cases h; done)
    | (have hq:t.cw.l.length<=64:=by
         rw [Bool.or_eq_false_iff,decide_eq_false_iff_not] at j; omega
       cases e:kO t.cw.l with
       | inr y=>rw [e] at h; have:=DB _ _ e; subst this; cases h
       | inl _ =>
         rw [e] at h;simp only at h;rcases eB h with ⟨b,h⟩|⟨_,h⟩
         · obtain⟨m,ex,h⟩:=cS h
           simp at h b;rw [h.1.1] at ex;exact mk hq (.inr ex) (.inl h.2) (z h.1.2)
         · rcases eB h with ⟨b,h⟩|⟨_,h⟩
           · rcases dS h with ⟨_,x,ex,h⟩|⟨_,h⟩
             · simp at h b; rw [h.1.1.2] at ex; exact mk hq (.inr ex) (.inl h.2) (z h.1.2)
             · simp at h
           · rcases eB h with ⟨_,h⟩|⟨_,h⟩
             · rcases dS h with ⟨_,x,ex,h⟩|⟨_,h⟩
               · simp at h; rw [h.1.2] at ex; exact mk hq (.inl h.1.1.2) (.inl h.2) (KE ex)
               · simp at h
             · rcases eB h with ⟨_,h⟩|⟨_,h⟩
               · rcases dS h with ⟨_,x,ex,h⟩|⟨_,h⟩
                 · simp at h; rw [h.1.2] at ex; exact mk hq (.inl h.1.1.2) (.inl h.2) (KE ex)
                 · simp at h
               · rcases eB h with ⟨b,h⟩|⟨_,h⟩
                 · rcases dS h with ⟨_,x,ex,h⟩|⟨_,h⟩
                   · simp at h b; rw [h.2] at ex; exact mk hq (.inl h.1.1.1.2) (.inr ex) (z h.1.1.2)
                   · simp at h
                 · cases h)
theorem UN {t:az}(h:gQ t=some true):Sm t/\t.cw.l.length<=600:=by
  have r:=UM h;have:=r.f; have:=r.m; have:=r.p; have:=r.i;exact⟨⟨by omega,by omega,by omega,by omega,fun f b=>by have:=KC (r.a f b); omega⟩,by omega⟩
section
variable {α κ γ:Type} [BEq κ] [LawfulBEq κ]
end
theorem UO {d:ar}(h:jN d=some true):d.aD.l.length<=600/\∀t∈d.aD.l,Sm t/\t.cw.l.length<=600:=by
 constructor
 ·unfold jN at h;rcases eB h with ⟨_,h⟩|⟨h1,_⟩
  ·cases h
  ·simp only [Bool.or_eq_false_iff,decide_eq_false_iff_not] at h1;omega
 ·exact fun t ht=>UN (uN h t ht)
end Go.Proofs
namespace Go.Proofs
open Go Go.Ab
theorem aj.gW {p x:aj}(h:x∈p.aK.l):x.sz<p.sz:=by
 have h1:=p.bI; have b:=Sl.dy (f:=aj.sz) h; omega
theorem KF:∀(l:List ax) (s:Int),(∀x∈l,x.sz<=1048576)->0<=s->s+(l.map ax.sz).sum<=1073741824->Gr (m_ l s) s (l.map ax.sz).sum
 | [],s,_,_,_=>Gr.refl _ _
 | a::r,s,hx,h0,h=>by
  simp only [List.map_cons,List.sum_cons] at h ⊢;rw [m_];cases decide (s<=(300:Int)) with
  | false=>exact Gr.refl _ _
  | true =>
   simp only [cond_true,Ab.on];have g:=a.bI;have i:=Bs.gH a.ai;have hm:=hx a List.mem_cons_self;refine Gr.bind (a:=1) (b:=a.cB.sz+(r.map ax.sz).sum) (Gr.add (by omega) (by omega)) (by omega) fun x h1 j=>?_;obtain⟨w,e,k,m⟩:=DO 300 a.cB (by omega);rw [e,oB];refine Gr.bind (a:=a.cB.sz) (b:=(r.map ax.sz).sum) (Gr.add (by omega) (by omega)) (by omega) fun y o p=>?_
   exact KF r y (fun z f=>hx z (List.mem_cons_of_mem _ f)) (by omega) (by omega)
theorem UP (n:Nat):∀p:aj,p.sz<n->p.sz<=1048576->Gr (jY n p) 0 p.sz:=by
 induction n with
 | zero=>intro v h; omega
 | succ n i =>
  intro v hn q;have t:=v.bI;have ht:=v.aO.bI;have hk:Sl.sz ax.sz v.aG=1+(v.aG.l.map ax.sz).sum:=rfl;have hi:Sl.sz aj.sz v.aK=1+(v.aK.l.map aj.sz).sum:=rfl;have u:v.aO.aX.l.length<=Sl.sz (fun _=>1) v.aO.aX:=Sl.d_ (f:=fun _=>1) v.aO.aX (fun _=>Nat.le_refl _);have hl:∀(l:List aj) (s:Int),(∀x∈l,x.sz<n/\x.sz<=1048576)->0<=s->s+(l.map aj.sz).sum<=1073741824->Gr (lV (jY n) l s) s (l.map aj.sz).sum:=by
   intro l;induction l with
   | nil=>intro s _ _ _; exact Gr.refl _ _
   | cons a r j =>
    intro s hx h0 h;simp only [List.map_cons,List.sum_cons] at h ⊢;rw [lV];cases decide (s<=(300:Int)) with
    | false=>exact Gr.refl _ _
    | true =>
     simp only [cond_true,Ab.on];obtain⟨w,e,h1,B⟩:=i a (hx a (by simp)).1 (hx a (by simp)).2;rw [e,oB];refine Gr.bind (a:=a.sz) (b:=(r.map aj.sz).sum) (Gr.add (by omega) (by omega)) (by omega) fun y C E=>?_;exact j y (fun x k=>hx x (by simp [k])) (by omega) (by omega)
  rw [jY,fU (by omega),oB];simp only [Ab.on];obtain⟨x,m,F,G⟩:=KF v.aG.l (1+((v.aO.aX.l.length:Nat):Int)) (fun z g=>by have:=Sl.dy (f:=ax.sz) g; omega) (by omega) (by omega);rw [m,oB];obtain⟨y,o,H,I⟩:=hl v.aK.l x (fun z g=>by have:=aj.gW g; omega) (by omega) (by omega);rw [o];exact⟨y,rfl,by omega,by omega⟩
theorem KG:∀(l:List aj) (s:Int),(∀x∈l,x.sz<=1048576)->0<=s->s+(l.map aj.sz).sum<=1073741824->∃r,nc l s=some r
 | [],s,_,_,_=>⟨s,rfl⟩
 | a::r,s,hx,h0,h=>by
  simp only [List.map_cons,List.sum_cons] at h;rw [nc];cases decide (s<=(300:Int)) with
  | false=>exact⟨s,rfl⟩
  | true =>
   simp only [cond_true,Ab.on];obtain⟨w,e,h1,f⟩:=UP F0 a (by rw [eD]; have:=hx a List.mem_cons_self; omega) (hx a List.mem_cons_self);unfold Bl;rw [e,oB,fU (by omega),oB];exact KG r _ (fun z b=>hx z (List.mem_cons_of_mem _ b)) (by omega) (by omega)
theorem KH {a:Sl aj}(g:Sl.sz aj.sz a<=1048576):∃b,qd a=some b:=by
 have hi:Sl.sz aj.sz a=1+(a.l.map aj.sz).sum:=rfl;obtain⟨r,e⟩:=KG a.l 0 (fun x hx=>by have:=Sl.dy (f:=aj.sz) hx; omega) (by omega) (by omega);exact⟨_,by unfold qd; rw [e]; rfl⟩
theorem DW {s r u:Sl Bs}(h:bp 16 s r=some u):u.l=s.l++r.l:=by rw [(pK h).1]
theorem DX {d:ar}{a:Bs}{x:az×Bool}:∀(l:List az) (i:Nat) (s r:Sl Bs),fD d a x l i s=some r->∃t,r.l=s.l++t/\t.Sublist (l.map az.ai)
 | [],i,s,r,h=>by rw [fD] at h; cases h; exact⟨[],by simp,List.nil_sublist _⟩
 | o::l,i,s,r,h=>by
  rw [fD] at h;have skip:fD d a x l (i+1) s=some r->∃t,r.l=s.l++t/\t.Sublist ((o::l).map az.ai):=fun h=>by
   obtain⟨t,f,g⟩:=DX l (i+1) s r h;exact⟨t,f,by rw [List.map_cons]; exact g.cons _⟩
  cases hx:x.2
  ·rw [hx,cond_false] at h; cases h; exact⟨[],by simp,List.nil_sublist _⟩
  ·rw [hx,cond_true] at h;simp only [Ab.on] at h;have key:∀b:Bool,(Option.bind (bif ((!decide (o.ak=(1:Int)))||(!b)) then(some s) else(bif ((((decide (x.1.ak=(1:Int)))&&((o.ai==a)))||((decide (x.1.ak=(2:Int)))&&(bif (!((decide (x.1.ak=(1:Int)))&&((o.ai==a)))&&(decide (x.1.ak=(2:Int)))) then iR o.cw a else false)))||((decide (x.1.ak=(3:Int)))&&(bif (!(((decide (x.1.ak=(1:Int)))&&((o.ai==a)))||((decide (x.1.ak=(2:Int)))&&(bif (!((decide (x.1.ak=(1:Int)))&&((o.ai==a)))&&(decide (x.1.ak=(2:Int)))) then iR o.cw a else false)))&&(decide (x.1.ak=(3:Int)))) then lN x.1 o.ai else false))) then((bp 16 s (⟨false,[o.ai]⟩:Sl Bs)).bind fun p=>some p) else(some s))) fun q=>fD d a x l (i+1) q)=some r->∃t,r.l=s.l++t/\t.Sublist ((o::l).map az.ai):=by
    intro b h;cases k:((!decide (o.ak=(1:Int)))||(!b))
    ·rw [k,cond_false] at h
     revert h
     generalize ((((decide (x.1.ak=(1:Int)))&&((o.ai==a)))||((decide (x.1.ak=(2:Int)))&&(bif (!((decide (x.1.ak=(1:Int)))&&((o.ai==a)))&&(decide (x.1.ak=(2:Int)))) then iR o.cw a else false)))||((decide (x.1.ak=(3:Int)))&&(bif (!(((decide (x.1.ak=(1:Int)))&&((o.ai==a)))||((decide (x.1.ak=(2:Int)))&&(bif (!((decide (x.1.ak=(1:Int)))&&((o.ai==a)))&&(decide (x.1.ak=(2:Int)))) then iR o.cw a else false)))&&(decide (x.1.ak=(3:Int)))) then lN x.1 o.ai else false)))=c
     intro h;cases c
     ·exact skip h
     ·rw [cond_true] at h;cases j:bp 16 s (⟨false,[o.ai]⟩:Sl Bs) with
      | none=>rw [j] at h; cases h
      | some u =>
       rw [j] at h;obtain⟨t,f,g⟩:=DX l (i+1) u r h;exact⟨o.ai::t,by rw [f,DW j]; simp,by rw [List.map_cons]; exact g.cons_cons _⟩
    ·rw [k,cond_true] at h;exact skip h
   unfold aQ at h
   split at h
   ·cases m:rJ d ((i:Nat):Int) with
    | none=>rw [m] at h; cases h
    | some b=>rw [m] at h; exact key b h
   ·exact key false h
theorem UQ {d:ar}{a:Bs}{r:Sl Bs}(h:kR d a=some r):r.l.Sublist (d.aD.l.map az.ai):=by
 unfold kR at h;simp only [Ab.on] at h;cases hq:fD d a (cV d a) d.aD.l 0 (Sl.nil:Sl Bs) with
 | none=>rw [hq] at h; cases h
 | some u =>
  rw [hq] at h;cases h;obtain⟨t,b,f⟩:=DX _ _ _ _ hq;rw [b]; simpa [Sl.nil] using f
end Go.Proofs
