import Derived.Test.YtgkmefkmmafocaaGreatDoorE3
import Derived.Test.YtgkmefkmmafocaaGreatDoorTab
set_option maxRecDepth 100000
set_option maxHeartbeats 2000000
set_option linter.unusedVariables false
set_option linter.unusedSimpArgs false
namespace Go.Proofs
open Go Go.Ab
inductive af where
 | mk (an:Int) (bl:Int) (bg:Bs) (VV:Bool) (VW:List af) (aN:(Sl Bs))
def af.an:af->Int|.mk x _ _ _ _ _=>x
def af.bl:af->Int|.mk _ x _ _ _ _=>x
def af.bg:af->Bs|.mk _ _ x _ _ _=>x
def af.aD:af->(Sl af)|.mk _ _ _ nl l _=>⟨nl,l⟩
def af.aN:af->(Sl Bs)|.mk _ _ _ _ _ x=>x
noncomputable def af.FH:af->D:=@af.rec (fun _=>D) (fun _=>List (List D)) (fun _ _ _ nl _ _ b=>.slice 5 none nl b) [] (fun v _ b f=>((bC .i64) v.an++(bC .i64) v.bl++aO v.bg++[b]++(fun s=>[Sl.d 1 aO none s]) v.aN)::f)
noncomputable def af.c (v:af):List D:=(bC .i64) v.an++(bC .i64) v.bl++aO v.bg++[v.FH]++(fun s=>[Sl.d 1 aO none s]) v.aN
theorem af.dW (v:af):v.FH=Sl.d 5 af.c none v.aD:=by
 cases v with
 | mk f g i nl l j =>
  show D.slice 5 none nl _=D.slice 5 none nl (l.map af.c)
  congr 1
  induction l with
  | nil=>rfl
  | cons a r b=>exact congrArg (af.c a::·) b
noncomputable def af.cu (v:af):List D:=(bC .i64) v.an++(bC .i64) v.bl++aO v.bg++[Sl.d 5 af.c none v.aD]++(fun s=>[Sl.d 1 aO none s]) v.aN
theorem af.jX (v:af):v.c=v.cu:=by unfold af.c af.cu; rw [af.dW]
def af.zero:af:=.mk (0:Int) (0:Int) ([]:Bs) true [] (Sl.nil:Sl Bs)
structure bQ where
 aa:Bs
 gh:af
noncomputable def bQ.c (x:bQ):List D:=aO x.aa++af.c x.gh
def bQ.zero:bQ:=⟨([]:Bs),af.zero⟩
structure aC where
 aa:Bs
 aH:(Sl bQ)
noncomputable def aC.c (x:aC):List D:=[.str x.aa,Sl.d 6 bQ.c none x.aH]
def aC.zero:aC:=⟨([]:Bs),(Sl.nil:Sl bQ)⟩
structure az where
 aa:Bs
 aF:(Sl Int)
noncomputable def az.c (x:az):List D:=[.str x.aa,Sl.d 1 (bC .i64) none x.aF]
def az.zero:az:=⟨([]:Bs),(Sl.nil:Sl Int)⟩
structure Z8 where
 aa:Bs
 aA:az
 bY:Bool
 cB:af
 bp:(Sl aC)
noncomputable def Z8.c (x:Z8):List D:=aO x.aa++az.c x.aA++sU x.bY++af.c x.cB++(fun s=>[Sl.d 2 aC.c none s]) x.bp
def Z8.zero:Z8:=⟨([]:Bs),az.zero,false,af.zero,(Sl.nil:Sl aC)⟩
structure Z7 where
 aa:Bs
 aH:(Sl Z8)
 aA:az
 bp:(Sl aC)
noncomputable def Z7.c (x:Z7):List D:=aO x.aa++(fun s=>[Sl.d 10 Z8.c none s]) x.aH++az.c x.aA++(fun s=>[Sl.d 2 aC.c none s]) x.bp
def Z7.zero:Z7:=⟨([]:Bs),(Sl.nil:Sl Z8),az.zero,(Sl.nil:Sl aC)⟩
structure Z9 where
 aa:Bs
 bp:(Sl aC)
noncomputable def Z9.c (x:Z9):List D:=[.str x.aa,Sl.d 2 aC.c none x.bp]
def Z9.zero:Z9:=⟨([]:Bs),(Sl.nil:Sl aC)⟩
structure aj where
 an:Int
 aa:Bs
 aX:(Sl Bs)
 bp:(Sl aC)
 aB:(Sl Z7)
 aG:(Sl Z9)
 aL:(Sl Z8)
noncomputable def aj.c (x:aj):List D:=[.int .i64 x.an,.str x.aa,Sl.d 1 aO none x.aX,Sl.d 2 aC.c none x.bp,Sl.d 5 Z7.c none x.aB,Sl.d 2 Z9.c none x.aG,Sl.d 10 Z8.c none x.aL]
def aj.zero:aj:=⟨(0:Int),([]:Bs),(Sl.nil:Sl Bs),(Sl.nil:Sl aC),(Sl.nil:Sl Z7),(Sl.nil:Sl Z9),(Sl.nil:Sl Z8)⟩
structure ak where
 aq:(Sl aj)
noncomputable def ak.c (x:ak):List D:=[Sl.d 7 aj.c none x.aq]
def ak.zero:ak:=⟨(Sl.nil:Sl aj)⟩
structure Z6 where
 Np:Int
 Nq:Bs
def Z6.c (x:Z6):List D:=[.int .i64 x.Np,.str x.Nq]
structure Z3 where
 u4:(Sl Bs)
 FI:(Sl Bs)
noncomputable def Z3.c (x:Z3):List D:=[Sl.d 1 aO none x.u4,Sl.d 1 aO none x.FI]
structure Z2 where
 Fd:ak
 dX:Bool
noncomputable def Z2.c (x:Z2):List D:=ak.c x.Fd++sU x.dX
structure Z5 where
 Fd:ak
 bh:(Sl Z6)
noncomputable def Z5.cg (t1:Option Nat) (x:Z5):List D:=ak.c x.Fd++[Sl.d 2 Z6.c t1 x.bh]
structure Z0 where
 Fd:ak
 dc:(Sl Z6)
noncomputable def Z0.cg (t1:Option Nat) (x:Z0):List D:=ak.c x.Fd++[Sl.d 2 Z6.c t1 x.dc]
structure Z1 where
 Fd:ak
 ep:af
 k_:Bool
 nE:Int
noncomputable def Z1.c (x:Z1):List D:=ak.c x.Fd++af.c x.ep++sU x.k_++(bC .i64) x.nE
structure Z4 where
 Fd:ak
 ep:af
 eO:Bool
 gP:Int
 cH:Int
noncomputable def Z4.c (x:Z4):List D:=ak.c x.Fd++af.c x.ep++sU x.eO++(bC .i64) x.gP++(bC .i64) x.cH
end Go.Proofs
namespace Go.Proofs
open Go Go.Ab Go.RowKit
section
variable {H:Type}{B:DataW H->Nat}(hB:u0 B)
noncomputable def af.sz:af->Nat:=@af.rec (fun _=>Nat) (fun _=>Nat) (fun f g i nl l j b=>(fun _=>1) f+((fun _=>1) g+(Bs.sz i+((1+b)+((Sl.sz Bs.sz) j+(0)))))) 0 (fun _ _ b k=>b+k)
noncomputable def af.FJ:List af->Nat:=@af.rec_1 (fun _=>Nat) (fun _=>Nat) (fun f g i nl l j b=>(fun _=>1) f+((fun _=>1) g+(Bs.sz i+((1+b)+((Sl.sz Bs.sz) j+(0)))))) 0 (fun _ _ b k=>b+k)
theorem af.Nr (l:List af):af.FJ l=(l.map af.sz).sum:=by
 induction l with
 | nil=>rfl
 | cons a r b=>exact congrArg (af.sz a+·) b
theorem af.FK (x:af):x.sz=(fun _=>1) x.an+((fun _=>1) x.bl+(Bs.sz x.bg+((Sl.sz af.sz) x.aD+((Sl.sz Bs.sz) x.aN+(0))))):=by
 cases x with
 | mk b f g nl l i =>
  show (fun _=>1) b+((fun _=>1) f+(Bs.sz g+((1+af.FJ l)+((Sl.sz Bs.sz) i+(0)))))=_;rw [af.Nr]; rfl
def af.wf:af->Prop:=@af.rec (fun _=>Prop) (fun _=>Prop) (fun f g i nl l j b=>i64 f/\(i64 g/\((fun _=>True) i/\(((nl=true->l=[])/\l.length<=cS/\b)/\((Sl.wf (fun _=>True)) j/\(True)))))) True (fun _ _ b k=>b/\k)
def af.Am:List af->Prop:=@af.rec_1 (fun _=>Prop) (fun _=>Prop) (fun f g i nl l j b=>i64 f/\(i64 g/\((fun _=>True) i/\(((nl=true->l=[])/\l.length<=cS/\b)/\((Sl.wf (fun _=>True)) j/\(True)))))) True (fun _ _ b k=>b/\k)
theorem af.Ns (l:List af):af.Am l↔∀x∈l,af.wf x:=by
 induction l with
 | nil=>exact⟨fun _ _ h=>(by cases h),fun _=>trivial⟩
 | cons a r b =>
  show (af.wf a/\af.Am r)↔_;rw [b]; simp
theorem af.qQ (x:af):x.wf↔i64 x.an/\(i64 x.bl/\((fun _=>True) x.bg/\((Sl.wf af.wf) x.aD/\((Sl.wf (fun _=>True)) x.aN/\(True))))):=by
 cases x with
 | mk b f g nl l i =>
  show (i64 b/\(i64 f/\((fun _=>True) g/\(((nl=true->l=[])/\l.length<=cS/\af.Am l)/\((Sl.wf (fun _=>True)) i/\(True))))))↔_;rw [af.Ns]; exact Iff.rfl
include hB in
theorem FM:∀N,dm Tryz.prog B N 61 af.c af.sz af.wf:=by
 have key:∀N M,M<=N->dm Tryz.prog B M 61 af.c af.sz af.wf:=by
  intro N;induction N with
  | zero=>intro M f; rw [Nat.le_zero.1 f]; exact .zero
  | succ N g =>
   intro M f;cases M with
   | zero=>exact .zero
   | succ b =>
    have hit:dm Tryz.prog B b 59 (fun s:Sl af=>[Sl.d 5 af.c none s]) (Sl.sz af.sz) (Sl.wf af.wf):=by
     cases b with
     | zero=>exact .zero
     | succ M=>exact dV.FG hB (Tryz.bI 59 _ rfl) rfl (Tryz.bI 61 _ rfl) rfl (by decide) (fun _=>rfl) (g M (by omega))
    refine dm.struct hB (Tryz.bI 61 _ rfl) rfl (cV.cons (n:=5) (o:=0) (o':=1) (Tryz.bI 3 _ rfl) rfl ((dV.int hB (Tryz.bI 3 _ rfl) rfl) b) (cV.cons (n:=5) (o:=1) (o':=2) (Tryz.bI 3 _ rfl) rfl ((dV.int hB (Tryz.bI 3 _ rfl) rfl) b) (cV.cons (n:=5) (o:=2) (o':=3) (Tryz.bI 9 _ rfl) rfl ((dV.str hB (Tryz.bI 9 _ rfl) rfl) b) (cV.cons (n:=5) (o:=3) (o':=4) (Tryz.bI 59 _ rfl) rfl hit (cV.cons (n:=5) (o:=4) (o':=5) (Tryz.bI 42 _ rfl) rfl ((dV.slice hB (Tryz.bI 42 _ rfl) rfl (Tryz.bI 9 _ rfl) rfl (by decide) (fun _=>rfl) (dV.str hB (Tryz.bI 9 _ rfl) rfl)) b) (cV.nil (n:=5))))))) (fun a=>af.mk a.1 a.2.1 a.2.2.1 a.2.2.2.1.nl a.2.2.2.1.l a.2.2.2.2.1) (fun a=>?_) (fun a=>by rw [af.FK]; exact Nat.le_refl _) (fun a h=>by rw [af.qQ]; exact h)
    unfold af.c;rw [af.dW];rfl
 exact fun N=>key N N (Nat.le_refl _)
noncomputable def bQ.sz (x:bQ):Nat:=Bs.sz x.aa+(af.sz x.gh+(0))
def bQ.wf (x:bQ):Prop:=(fun _=>True) x.aa/\(af.wf x.gh/\(True))
include hB in
theorem Nt:∀N,dm Tryz.prog B N 72 bQ.c bQ.sz bQ.wf:=ph.struct hB (Tryz.bI 72 _ rfl) rfl (fun b=>(cV.cons (n:=6) (o:=0) (o':=1) (Tryz.bI 9 _ rfl) rfl ((dV.str hB (Tryz.bI 9 _ rfl) rfl) b) (cV.cons (n:=6) (o:=1) (o':=6) (Tryz.bI 61 _ rfl) rfl ((FM hB) b) (cV.nil (n:=6))))) (fun a=>(⟨a.1,a.2.1⟩:bQ)) (fun _=>rfl) (fun _=>Nat.le_refl _) (fun _ h=>h)
noncomputable def aC.sz (x:aC):Nat:=Bs.sz x.aa+((Sl.sz bQ.sz) x.aH+(0))
def aC.wf (x:aC):Prop:=(fun _=>True) x.aa/\((Sl.wf bQ.wf) x.aH/\(True))
include hB in
theorem xl:∀N,dm Tryz.prog B N 75 aC.c aC.sz aC.wf:=ph.struct hB (Tryz.bI 75 _ rfl) rfl (fun b=>(cV.cons (n:=2) (o:=0) (o':=1) (Tryz.bI 9 _ rfl) rfl ((dV.str hB (Tryz.bI 9 _ rfl) rfl) b) (cV.cons (n:=2) (o:=1) (o':=2) (Tryz.bI 73 _ rfl) rfl ((dV.slice hB (Tryz.bI 73 _ rfl) rfl (Tryz.bI 72 _ rfl) rfl (by decide) (fun _=>rfl) (Nt hB)) b) (cV.nil (n:=2))))) (fun a=>(⟨a.1,a.2.1⟩:aC)) (fun _=>rfl) (fun _=>Nat.le_refl _) (fun _ h=>h)
noncomputable def az.sz (x:az):Nat:=Bs.sz x.aa+((Sl.sz (fun _=>1)) x.aF+(0))
def az.wf (x:az):Prop:=(fun _=>True) x.aa/\((Sl.wf i64) x.aF/\(True))
include hB in
theorem FN:∀N,dm Tryz.prog B N 35 az.c az.sz az.wf:=ph.struct hB (Tryz.bI 35 _ rfl) rfl (fun b=>(cV.cons (n:=2) (o:=0) (o':=1) (Tryz.bI 9 _ rfl) rfl ((dV.str hB (Tryz.bI 9 _ rfl) rfl) b) (cV.cons (n:=2) (o:=1) (o':=2) (Tryz.bI 33 _ rfl) rfl ((dV.slice hB (Tryz.bI 33 _ rfl) rfl (Tryz.bI 3 _ rfl) rfl (by decide) (fun _=>rfl) (dV.int hB (Tryz.bI 3 _ rfl) rfl)) b) (cV.nil (n:=2))))) (fun a=>(⟨a.1,a.2.1⟩:az)) (fun _=>rfl) (fun _=>Nat.le_refl _) (fun _ h=>h)
noncomputable def Z8.sz (x:Z8):Nat:=Bs.sz x.aa+(az.sz x.aA+((fun _=>1) x.bY+(af.sz x.cB+((Sl.sz aC.sz) x.bp+(0)))))
def Z8.wf (x:Z8):Prop:=(fun _=>True) x.aa/\(az.wf x.aA/\((fun _=>True) x.bY/\(af.wf x.cB/\((Sl.wf aC.wf) x.bp/\(True)))))
include hB in
theorem FO:∀N,dm Tryz.prog B N 63 Z8.c Z8.sz Z8.wf:=ph.struct hB (Tryz.bI 63 _ rfl) rfl (fun b=>(cV.cons (n:=10) (o:=0) (o':=1) (Tryz.bI 9 _ rfl) rfl ((dV.str hB (Tryz.bI 9 _ rfl) rfl) b) (cV.cons (n:=10) (o:=1) (o':=3) (Tryz.bI 35 _ rfl) rfl ((FN hB) b) (cV.cons (n:=10) (o:=3) (o':=4) (Tryz.bI 4 _ rfl) rfl ((dV.bool hB (Tryz.bI 4 _ rfl) rfl) b) (cV.cons (n:=10) (o:=4) (o':=9) (Tryz.bI 61 _ rfl) rfl ((FM hB) b) (cV.cons (n:=10) (o:=9) (o':=10) (Tryz.bI 36 _ rfl) rfl ((dV.slice hB (Tryz.bI 36 _ rfl) rfl (Tryz.bI 75 _ rfl) rfl (by decide) (fun _=>rfl) (xl hB)) b) (cV.nil (n:=10)))))))) (fun a=>(⟨a.1,a.2.1,a.2.2.1,a.2.2.2.1,a.2.2.2.2.1⟩:Z8)) (fun _=>rfl) (fun _=>Nat.le_refl _) (fun _ h=>h)
noncomputable def Z7.sz (x:Z7):Nat:=Bs.sz x.aa+((Sl.sz Z8.sz) x.aH+(az.sz x.aA+((Sl.sz aC.sz) x.bp+(0))))
def Z7.wf (x:Z7):Prop:=(fun _=>True) x.aa/\((Sl.wf Z8.wf) x.aH/\(az.wf x.aA/\((Sl.wf aC.wf) x.bp/\(True))))
include hB in
theorem Nu:∀N,dm Tryz.prog B N 40 Z7.c Z7.sz Z7.wf:=ph.struct hB (Tryz.bI 40 _ rfl) rfl (fun b=>(cV.cons (n:=5) (o:=0) (o':=1) (Tryz.bI 9 _ rfl) rfl ((dV.str hB (Tryz.bI 9 _ rfl) rfl) b) (cV.cons (n:=5) (o:=1) (o':=2) (Tryz.bI 38 _ rfl) rfl ((dV.slice hB (Tryz.bI 38 _ rfl) rfl (Tryz.bI 63 _ rfl) rfl (by decide) (fun _=>rfl) (FO hB)) b) (cV.cons (n:=5) (o:=2) (o':=4) (Tryz.bI 35 _ rfl) rfl ((FN hB) b) (cV.cons (n:=5) (o:=4) (o':=5) (Tryz.bI 36 _ rfl) rfl ((dV.slice hB (Tryz.bI 36 _ rfl) rfl (Tryz.bI 75 _ rfl) rfl (by decide) (fun _=>rfl) (xl hB)) b) (cV.nil (n:=5))))))) (fun a=>(⟨a.1,a.2.1,a.2.2.1,a.2.2.2.1⟩:Z7)) (fun _=>rfl) (fun _=>Nat.le_refl _) (fun _ h=>h)
noncomputable def Z9.sz (x:Z9):Nat:=Bs.sz x.aa+((Sl.sz aC.sz) x.bp+(0))
def Z9.wf (x:Z9):Prop:=(fun _=>True) x.aa/\((Sl.wf aC.wf) x.bp/\(True))
include hB in
theorem Nv:∀N,dm Tryz.prog B N 65 Z9.c Z9.sz Z9.wf:=ph.struct hB (Tryz.bI 65 _ rfl) rfl (fun b=>(cV.cons (n:=2) (o:=0) (o':=1) (Tryz.bI 9 _ rfl) rfl ((dV.str hB (Tryz.bI 9 _ rfl) rfl) b) (cV.cons (n:=2) (o:=1) (o':=2) (Tryz.bI 36 _ rfl) rfl ((dV.slice hB (Tryz.bI 36 _ rfl) rfl (Tryz.bI 75 _ rfl) rfl (by decide) (fun _=>rfl) (xl hB)) b) (cV.nil (n:=2))))) (fun a=>(⟨a.1,a.2.1⟩:Z9)) (fun _=>rfl) (fun _=>Nat.le_refl _) (fun _ h=>h)
noncomputable def aj.sz (x:aj):Nat:=(fun _=>1) x.an+(Bs.sz x.aa+((Sl.sz Bs.sz) x.aX+((Sl.sz aC.sz) x.bp+((Sl.sz Z7.sz) x.aB+((Sl.sz Z9.sz) x.aG+((Sl.sz Z8.sz) x.aL+(0)))))))
def aj.wf (x:aj):Prop:=i64 x.an/\((fun _=>True) x.aa/\((Sl.wf (fun _=>True)) x.aX/\((Sl.wf aC.wf) x.bp/\((Sl.wf Z7.wf) x.aB/\((Sl.wf Z9.wf) x.aG/\((Sl.wf Z8.wf) x.aL/\(True)))))))
include hB in
theorem Nw:∀N,dm Tryz.prog B N 45 aj.c aj.sz aj.wf:=ph.struct hB (Tryz.bI 45 _ rfl) rfl (fun b=>(cV.cons (n:=7) (o:=0) (o':=1) (Tryz.bI 3 _ rfl) rfl ((dV.int hB (Tryz.bI 3 _ rfl) rfl) b) (cV.cons (n:=7) (o:=1) (o':=2) (Tryz.bI 9 _ rfl) rfl ((dV.str hB (Tryz.bI 9 _ rfl) rfl) b) (cV.cons (n:=7) (o:=2) (o':=3) (Tryz.bI 42 _ rfl) rfl ((dV.slice hB (Tryz.bI 42 _ rfl) rfl (Tryz.bI 9 _ rfl) rfl (by decide) (fun _=>rfl) (dV.str hB (Tryz.bI 9 _ rfl) rfl)) b) (cV.cons (n:=7) (o:=3) (o':=4) (Tryz.bI 36 _ rfl) rfl ((dV.slice hB (Tryz.bI 36 _ rfl) rfl (Tryz.bI 75 _ rfl) rfl (by decide) (fun _=>rfl) (xl hB)) b) (cV.cons (n:=7) (o:=4) (o':=5) (Tryz.bI 41 _ rfl) rfl ((dV.slice hB (Tryz.bI 41 _ rfl) rfl (Tryz.bI 40 _ rfl) rfl (by decide) (fun _=>rfl) (Nu hB)) b) (cV.cons (n:=7) (o:=5) (o':=6) (Tryz.bI 43 _ rfl) rfl ((dV.slice hB (Tryz.bI 43 _ rfl) rfl (Tryz.bI 65 _ rfl) rfl (by decide) (fun _=>rfl) (Nv hB)) b) (cV.cons (n:=7) (o:=6) (o':=7) (Tryz.bI 38 _ rfl) rfl ((dV.slice hB (Tryz.bI 38 _ rfl) rfl (Tryz.bI 63 _ rfl) rfl (by decide) (fun _=>rfl) (FO hB)) b) (cV.nil (n:=7)))))))))) (fun a=>(⟨a.1,a.2.1,a.2.2.1,a.2.2.2.1,a.2.2.2.2.1,a.2.2.2.2.2.1,a.2.2.2.2.2.2.1⟩:aj)) (fun _=>rfl) (fun _=>Nat.le_refl _) (fun _ h=>h)
noncomputable def ak.sz (x:ak):Nat:=(Sl.sz aj.sz) x.aq+(0)
def ak.wf (x:ak):Prop:=(Sl.wf aj.wf) x.aq/\(True)
include hB in
theorem Nx:∀N,dm Tryz.prog B N 24 ak.c ak.sz ak.wf:=ph.struct hB (Tryz.bI 24 _ rfl) rfl (fun b=>(cV.cons (n:=1) (o:=0) (o':=1) (Tryz.bI 22 _ rfl) rfl ((dV.slice hB (Tryz.bI 22 _ rfl) rfl (Tryz.bI 45 _ rfl) rfl (by decide) (fun _=>rfl) (Nw hB)) b) (cV.nil (n:=1)))) (fun a=>(⟨a.1⟩:ak)) (fun _=>rfl) (fun _=>Nat.le_refl _) (fun _ h=>h)
end
theorem af.bq (x:af):x.sz=0+1+1+Bs.sz x.bg+(Sl.sz af.sz) x.aD+(Sl.sz Bs.sz) x.aN:=by
 rw [af.FK]; try dsimp only
 omega
theorem af.pos (x:af):1<=x.sz:=by
 rw [af.bq]; have:=Bs.jW x.bg; omega
theorem af.Ny {x:af}(h:x.wf):i64 x.an:=((af.qQ x).1 h).1
theorem af.NA {x:af}(h:x.wf):i64 x.bl:=((af.qQ x).1 h).2.1
theorem af.An {x:af}(h:x.wf):(Sl.wf af.wf) x.aD:=((af.qQ x).1 h).2.2.2.1
theorem af.FP {x:af}(h:x.wf):(Sl.wf (fun _=>True)) x.aN:=((af.qQ x).1 h).2.2.2.2.1
theorem bQ.bq (x:bQ):x.sz=0+Bs.sz x.aa+af.sz x.gh:=by
 unfold bQ.sz; try dsimp only
 omega
theorem bQ.pos (x:bQ):1<=x.sz:=by
 rw [bQ.bq]; have:=Bs.jW x.aa; omega
theorem bQ.FQ {x:bQ}(h:x.wf):af.wf x.gh:=h.2.1
theorem aC.bq (x:aC):x.sz=0+Bs.sz x.aa+(Sl.sz bQ.sz) x.aH:=by
 unfold aC.sz; try dsimp only
 omega
theorem aC.pos (x:aC):1<=x.sz:=by
 rw [aC.bq]; have:=Bs.jW x.aa; omega
theorem aC.pq {x:aC}(h:x.wf):(Sl.wf bQ.wf) x.aH:=h.2.1
theorem az.bq (x:az):x.sz=0+Bs.sz x.aa+(Sl.sz (fun _=>1)) x.aF:=by
 unfold az.sz; try dsimp only
 omega
theorem az.FR {x:az}(h:x.wf):(Sl.wf i64) x.aF:=h.2.1
theorem Z8.bq (x:Z8):x.sz=0+Bs.sz x.aa+az.sz x.aA+1+af.sz x.cB+(Sl.sz aC.sz) x.bp:=by
 unfold Z8.sz; try dsimp only
 omega
theorem Z8.pos (x:Z8):1<=x.sz:=by
 rw [Z8.bq]; have:=Bs.jW x.aa; omega
theorem Z8.u6 {x:Z8}(h:x.wf):az.wf x.aA:=h.2.1
theorem Z8.FT {x:Z8}(h:x.wf):af.wf x.cB:=h.2.2.2.1
theorem Z8.iv {x:Z8}(h:x.wf):(Sl.wf aC.wf) x.bp:=h.2.2.2.2.1
theorem Z7.bq (x:Z7):x.sz=0+Bs.sz x.aa+(Sl.sz Z8.sz) x.aH+az.sz x.aA+(Sl.sz aC.sz) x.bp:=by
 unfold Z7.sz; try dsimp only
 omega
theorem Z7.pos (x:Z7):1<=x.sz:=by
 rw [Z7.bq]; have:=Bs.jW x.aa; omega
theorem Z7.pq {x:Z7}(h:x.wf):(Sl.wf Z8.wf) x.aH:=h.2.1
theorem Z7.u6 {x:Z7}(h:x.wf):az.wf x.aA:=h.2.2.1
theorem Z7.iv {x:Z7}(h:x.wf):(Sl.wf aC.wf) x.bp:=h.2.2.2.1
theorem Z9.bq (x:Z9):x.sz=0+Bs.sz x.aa+(Sl.sz aC.sz) x.bp:=by
 unfold Z9.sz; try dsimp only
 omega
theorem Z9.pos (x:Z9):1<=x.sz:=by
 rw [Z9.bq]; have:=Bs.jW x.aa; omega
theorem Z9.iv {x:Z9}(h:x.wf):(Sl.wf aC.wf) x.bp:=h.2.1
theorem aj.bq (x:aj):x.sz=0+1+Bs.sz x.aa+(Sl.sz Bs.sz) x.aX+(Sl.sz aC.sz) x.bp+(Sl.sz Z7.sz) x.aB+(Sl.sz Z9.sz) x.aG+(Sl.sz Z8.sz) x.aL:=by
 unfold aj.sz; try dsimp only
 omega
theorem aj.pos (x:aj):1<=x.sz:=by
 rw [aj.bq]; have:=Bs.jW x.aa; omega
theorem aj.NC {x:aj}(h:x.wf):(Sl.wf (fun _=>True)) x.aX:=h.2.2.1
theorem aj.iv {x:aj}(h:x.wf):(Sl.wf aC.wf) x.bp:=h.2.2.2.1
theorem aj.xm {x:aj}(h:x.wf):(Sl.wf Z7.wf) x.aB:=h.2.2.2.2.1
theorem aj.Ao {x:aj}(h:x.wf):(Sl.wf Z9.wf) x.aG:=h.2.2.2.2.2.1
theorem aj.xo {x:aj}(h:x.wf):(Sl.wf Z8.wf) x.aL:=h.2.2.2.2.2.2.1
theorem ak.bq (x:ak):x.sz=0+(Sl.sz aj.sz) x.aq:=by
 unfold ak.sz; try dsimp only
 omega
theorem ak.xq {x:ak}(h:x.wf):(Sl.wf aj.wf) x.aq:=h.1
end Go.Proofs
namespace Go.Proofs
open Go Go.Ab
open aP ar ah aS fp
variable {ax:bK}
def mo (b:Bs):List aj->Unit ⊕ ((aj×Bool))
 | []=>Sum.inl ()
 | f::g=>on (f) fun i=>bif ((i.aa==b)) then(on (f) fun j=>Sum.inr (j,true)) else(mo b (g) )
def eA (i:ak) (b:Bs):(aj×Bool):=on (mo b i.aq.l ) fun f=>match f with|Sum.inl _=>(on (()) fun _=>((aj.mk (0:Int) ([]:Bs) (Sl.nil:Sl Bs) (Sl.nil:Sl aC) (Sl.nil:Sl Z7) (Sl.nil:Sl Z9) (Sl.nil:Sl Z8)),false))|Sum.inr g=>(g)
def xu (f:ak) (b:Bs):Option (aj×Bool):=some (eA f b)
theorem lc (a0:ak) (b:Bs):xu a0 b=some (eA a0 b):=rfl
theorem lg {g:ak}{i:Bs}{r:aj×Bool}(b:xu g i=some r) (H:ai) :AC Tryz.prog 24 [.agg (ak.c g),.d (.str i)] H fun v h'=>v=.cF [.agg (aj.c r.1),.d (.bool r.2)]/\h'=H:=by
 unfold xu eA at b;refine AC.oW 28 [.cell 4 45,.tmp 5] Tryz.call24 Tryz.func24 ?_;refine ag (S BX ?_);refine Sl ?_;refine S As (nil ?_);refine eb (TA 4 kN) (fun(z:aj)=>[]) (fun z=>[aj.c z]) (fun z=>H) (fun z=>some (((aj.mk (0:Int) ([]:Bs) (Sl.nil:Sl Bs) (Sl.nil:Sl aC) (Sl.nil:Sl Z7) (Sl.nil:Sl Z9) (Sl.nil:Sl Z8)),false))=some r) ?_ ?_
 ·intro I w;refine ag (S As (nil ?_));refine block ?_;obtain⟨o,p,b⟩:=eL b;refine gb (TA 1 (TA 2 (TA 4 kN))) (fun(z:Nat×aj)=>[(6,.a (.d (.int .i64 ((z.1:Nat):Int))))]) (fun z=>[aj.c z.2]) (fun z=>H) (fun z=>g.aq.l.length-z.1) (fun z=>o (mo i (g.aq.l.drop z.1) )=some r) (0,aj.zero) b wA ?_;rintro ⟨j,q⟩ b J x;try dsimp only at b
  refine ay fun y t=>?_;refine ag (S Mv (S Fv (S Ld ?_)));refine sLen (f:=aj.c) (s:=g.aq) (TK rfl) rfl rfl rfl rfl fun K=>?_;refine S BI (nil ?_);refine ah.bN (fun l=>o (mo i l )=some r) b rfl (fun L k m b=>?_) (fun m b=>?_)
  ·rw [mo] at b;try dsimp only at m
   have M:=oD m;refine sk t ?_;clear t y;refine ay fun B u=>?_;refine block ?_;refine ag (S Fv (S Ld (S Mv ?_)));obtain⟨N,C,b⟩:=vP k b;refine S (ix aj.c j C) (S Fv (S Ld (S Mv (S BS (nil ?_)))));refine cP b (fun E b=>?_) (fun E b=>?_)
   ·refine ag (S Fv (S Ld (S Mv ?_)));obtain⟨O,F,b⟩:=vP k b;refine S (ix aj.c j F) (S Ld ?_);refine Sf ?_;refine S As (nil ?_);refine ah.ret ?_;repeat (first|refine bF ?_|refine bG ?_)
    have b:=ku p b;obtain rfl:=oJ b;refine bn.bH H rfl ⟨rfl,rfl⟩ ?_;exact(fun _ _ h=>h)
   refine sk u ?_;clear u B;refine region ?_;refine S Mv ?_;refine SI ?_;refine S As (nil ?_);exact x _ ((j+1),q) wA b (dl k)
  rw [mo] at b;have b:=ku p b;try dsimp only at b
  refine ah.exit ?_;obtain⟨P,G,b⟩:=eL b;have b:=ku G b;exact w _ q wA b
 rintro Q b;try dsimp only at b
 refine ag (S BU ?_);refine Sf ?_;refine S As (nil ?_);exact rt b
def gJ (b:Bs):Bool:=(((((b==([73,110,116]:Bs)))||((b==([83,116,114,105,110,103]:Bs))))||((b==([66,111,111,108,101,97,110]:Bs))))||((b==([73,68]:Bs))))
def xw (b:Bs):Option Bool:=some (gJ b)
theorem s4 (a0:Bs):xw a0=some (gJ a0):=rfl
theorem s5 {f:Bs}{r:Bool}(b:xw f=some r) (H:ai) :AC Tryz.prog 81 [.d (.str f)] H fun v h'=>v=.a (.d (.bool r))/\h'=H:=by
 unfold xw gJ at b;refine AC.oW 17 [.tmp 2] Tryz.call81 Tryz.func81 ?_;refine ag (S As (nil ?_));refine ag (S Mv (S BS (S Mv (G0 Mv ?_))));refine G1 6 rfl BS ?_;refine S PO (S Mv (G0 Mv ?_));refine G1 10 rfl BS ?_;refine S PO (S Mv (G0 Mv ?_));refine G1 14 rfl BS ?_;refine S PO (S As (nil ?_));exact rt b
def mq (b:Int):Bool:=((((decide ((65:Int)<=b))&&(decide (b<=(90:Int))))||((decide ((97:Int)<=b))&&(decide (b<=(122:Int)))))||(decide (b=(95:Int))))
def Ap (b:Int):Option Bool:=some (mq b)
theorem ND (a0:Int):Ap a0=some (mq a0):=rfl
theorem NE {f:Int}{r:Bool}(b:Ap f=some r) (H:ai) :AC Tryz.prog 94 [.d (.int .u8 f)] H fun v h'=>v=.a (.d (.bool r))/\h'=H:=by
 unfold Ap mq at b;refine AC.oW 21 [.tmp 2] Tryz.call94 Tryz.func94 ?_;refine ag (S As (nil ?_));refine ag (S Mv (S BI (S Mv (G0 Mv ?_))));refine G1 6 rfl BI ?_;refine S PA (S Mv (G0 Mv ?_));refine G1 10 rfl BI ?_;refine G1 11 rfl Mv ?_;refine G0 Mv ?_;refine G1 13 rfl BI ?_;refine gC rfl rfl (fun hC=>aK (k:=12) rfl (iM rfl rfl rfl)) rfl ?_;refine S PO (S Mv (G0 Mv ?_));refine G1 18 rfl BI ?_
 refine S PO (S As (nil ?_));exact rt b
def qR (b:Int):Bool:=((decide ((48:Int)<=b))&&(decide (b<=(57:Int))))
def Aq (b:Int):Option Bool:=some (qR b)
theorem NF (a0:Int):Aq a0=some (qR a0):=rfl
theorem NG {f:Int}{r:Bool}(b:Aq f=some r) (H:ai) :AC Tryz.prog 95 [.d (.int .u8 f)] H fun v h'=>v=.a (.d (.bool r))/\h'=H:=by
 unfold Aq qR at b;refine AC.oW 9 [.tmp 2] Tryz.call95 Tryz.func95 ?_;refine ag (S As (nil ?_));refine ag (S Mv (S BI (S Mv (G0 Mv ?_))));refine G1 6 rfl BI ?_;refine S PA (S As (nil ?_));exact rt b
def nF :List UInt8->Nat->Unit ⊕ Bool
 | [],b=>Sum.inl ()
 | g::i,b=>on (g) fun j=>on (mq ((j.toNat:Nat):Int)) fun f=>on (bif ((!f)&&!(decide (((b:Nat):Int)=(0:Int)))) then g else(0:UInt8)) fun k=>on (bif ((!f)&&!(decide (((b:Nat):Int)=(0:Int)))) then qR ((k.toNat:Nat):Int) else false) fun l=>bif ((!f)&&((decide (((b:Nat):Int)=(0:Int)))||(!l))) then(Sum.inr false) else(nF  (i) (b+1) )
def d_ (b:Bs):Bool:=bif ((decide (((b.length:Nat):Int)<(1:Int)))||(decide ((64:Int)<((b.length:Nat):Int)))) then(false) else(on (nF  b 0 ) fun f=>match f with|Sum.inl _=>(on (()) fun _=>true)|Sum.inr g=>(g))
def u7 (b:Bs):Option Bool:=some (d_ b)
theorem jY (a0:Bs):u7 a0=some (d_ a0):=rfl
theorem jZ {g:Bs}{r:Bool}(b:u7 g=some r) (H:ai) :AC Tryz.prog 56 [.d (.str g)] H fun v h'=>v=.a (.d (.bool r))/\h'=H:=by
 unfold u7 d_ at b;refine AC.oW 34 [.tmp 2] Tryz.call56 Tryz.func56 ?_;refine ag (S As (nil ?_));refine ay fun t m=>?_;refine ag (S Mv ?_);refine sV (TK rfl) rfl rfl rfl rfl fun K=>?_;refine S BI (S Mv (G0 Mv ?_));refine gC rfl rfl (fun hC=>aK (k:=8) rfl (wS (TK rfl) rfl rfl rfl)) rfl ?_;refine G1 9 rfl BI ?_;refine S PO (nil ?_);refine cP b (fun u b=>?_) (fun u b=>?_)
 ·refine ag (S As (nil ?_));exact rt b
 refine sk m ?_;clear m t;refine aQ kN (fun(z:Unit)=>[]) (fun z=>H) (fun z=>some (true)=some r) ?_ ?_
 ·intro L w;refine ag (S As (nil ?_));refine block ?_;obtain⟨o,p,b⟩:=eL b;refine bA (TA 0 kN) (fun(z:Nat)=>[(3,.a (.d (.int .i64 ((z:Nat):Int))))]) (fun z=>H) (fun z=>g.length-z) (fun z=>o (nF  (g.drop z) z )=some r) 0 b wA ?_;rintro f b M x;try dsimp only at b
  refine ay fun y q=>?_;refine ag (S Mv (S Mv ?_));refine sV (TK rfl) rfl rfl rfl rfl fun N=>?_;refine S BI (nil ?_);refine ah.bN (fun l=>o (nF  l f )=some r) b rfl (fun O i j b=>?_) (fun j b=>?_)
  ·rw [nF] at b;try dsimp only at j
   have P:=oD j;refine sk q ?_;clear q y;refine ay fun B s=>?_;refine block ?_;refine ag (S Mv (S Mv ?_));obtain⟨Q,C,b⟩:=vP i b;refine s0 (qK (n:=f) (TK rfl) rfl rfl rfl C) rfl ?_;obtain⟨R,E,b⟩:=vP (ND _) b;refine Sc rfl rfl (NE E) ?_;refine S NB (S Mv (G0 Mv ?_));refine G1 24 rfl BI ?_;refine G1 25 rfl Mv ?_;refine G0 Mv (G0 Mv ?_)
   obtain⟨U,F,b⟩:=iu (fun _=>i) b;refine gC rfl rfl (fun hC=>aK (k:=27) rfl (aK (k:=28) rfl (qK (n:=f) (TK rfl) rfl rfl rfl (F hC)))) rfl ?_;obtain⟨W,G,b⟩:=iu (fun _=>(NF _)) b;refine dz 29 rfl rfl rfl rfl rfl (fun hC=>NG (G hC)) ?_;refine G1 30 rfl NB ?_;refine gC rfl rfl (fun hC=>aK (k:=26) rfl (sX rfl rfl rfl)) rfl ?_;refine S PA (nil ?_)
   refine cP b (fun I b=>?_) (fun I b=>?_)
   ·refine ag (S As (nil ?_));refine ah.ret ?_;repeat (first|refine bF ?_|refine bG ?_)
    have b:=ku p b;obtain rfl:=oJ b;refine bn.bH H rfl ⟨rfl,rfl⟩ ?_;exact(fun _ _ h=>h)
   refine sk s ?_;clear s B;refine region ?_;refine S Mv ?_;refine SI ?_;refine S As (nil ?_);exact x _ (f+1) wA b (dl i)
  rw [nF] at b;have b:=ku p b;try dsimp only at b
  refine ah.exit ?_;obtain⟨X,J,b⟩:=eL b;have b:=ku J b;exact w _ () wA b
 rintro _ b;try dsimp only at b
 refine ag (S As (nil ?_));exact rt b
def s6 (b:Bs):Option Bool:=aR ((decide ((2:Int)<=((b.length:Nat):Int)))) (b[0]?) (0:UInt8) fun f=>aR (((decide ((2:Int)<=((b.length:Nat):Int)))&&(decide (((f.toNat:Nat):Int)=(95:Int))))) (b[1]?) (0:UInt8) fun g=>some (((decide ((2:Int)<=((b.length:Nat):Int)))&&(decide (((f.toNat:Nat):Int)=(95:Int))))&&(decide (((g.toNat:Nat):Int)=(95:Int))))
def Ar (b:Bs):Option Bool:=s6 b
theorem NH (a0:Bs):Ar a0=s6 a0:=rfl
theorem NI {f:Bs}{r:Bool}(b:Ar f=some r) (H:ai) :AC Tryz.prog 153 [.d (.str f)] H fun v h'=>v=.a (.d (.bool r))/\h'=H:=by
 unfold Ar s6 at b;refine AC.oW 16 [.tmp 2] Tryz.call153 Tryz.func153 ?_;refine ag (S As (nil ?_));refine ag (S Mv ?_);refine sV (TK rfl) rfl rfl rfl rfl fun j=>?_;refine S BI (S Mv (G0 Mv ?_));obtain⟨l,g,b⟩:=dQ rfl b;refine gC rfl rfl (fun hC=>aK (k:=7) rfl (qK (n:=0) (TK rfl) rfl rfl rfl (g hC))) rfl ?_;refine G1 8 rfl BI ?_;refine S PA (S Mv (G0 Mv ?_));obtain⟨m,i,b⟩:=dQ rfl b
 refine gC rfl rfl (fun hC=>aK (k:=12) rfl (qK (n:=1) (TK rfl) rfl rfl rfl (i hC))) rfl ?_;refine G1 13 rfl BI ?_;refine S PA (S As (nil ?_));exact rt b
def s7 (f:Bs):Option Bool:=on (d_ f) fun b=>aR (b) (s6 f) false fun g=>some (b&&(!g))
def Au (b:Bs):Option Bool:=s7 b
theorem FU (a0:Bs):Au a0=s7 a0:=rfl
theorem FV {f:Bs}{r:Bool}(b:Au f=some r) (H:ai) :AC Tryz.prog 120 [.d (.str f)] H fun v h'=>v=.a (.d (.bool r))/\h'=H:=by
 unfold Au s7 at b;refine AC.oW 10 [.tmp 2] Tryz.call120 Tryz.func120 ?_;refine ag (S As (nil ?_));refine ag (S Mv ?_);obtain⟨j,g,b⟩:=vT (jY _) b;refine Sc rfl rfl (jZ g) ?_;refine S Mv (G0 Mv ?_);obtain⟨k,i,b⟩:=dQ (NH _) b;refine dz 6 rfl rfl rfl rfl rfl (fun hC=>NI (i hC)) ?_;refine G1 7 rfl NB ?_;refine S PA (S As (nil ?_));exact rt b
def lq (m:Bs) (b:Bool) (o:Bool) (g:Bs):Option (Sl Z6):=aR (!b) (s7 m) false fun i=>Option.bind (bif (b||(!i)) then((aW 24 (Sl.nil:Sl Z6) (⟨false,[(Z6.mk (6:Int) g)]⟩:Sl Z6)).bind fun j=>some j) else(some (Sl.nil:Sl Z6))) fun f=>Option.bind (bif o then((aW 24 f (⟨false,[(Z6.mk (7:Int) g)]⟩:Sl Z6)).bind fun k=>some k) else(some f)) fun l=>some l
def s8 (f:Bs) (b:Bool) (g:Bool) (i:Bs):Option (Sl Z6):=lq f b g i
theorem xx (a0:Bs) (b:Bool) (a2:Bool) (a3:Bs):s8 a0 b a2 a3=lq a0 b a2 a3:=rfl
theorem Av {u:Bs}{k i:Bool}{j:Bs}{r:Sl Z6}(b:s8 u k i j=some r) (H:ai) :AC Tryz.prog 82 [.d (.str u),.d (.bool k),.d (.bool i),.d (.str j)] H fun v h'=>v=.a (.d (Sl.d 2 Z6.c none r))/\h'=H:=by
 unfold s8 lq at b;refine AC.oW 28 [.tmp 8] Tryz.call82 Tryz.func82 ?_;refine ah.tok 2 fun f m=>?_;refine ag ?_;refine s0 (dR (k':=2) rfl) rfl ?_;refine nil ?_;refine ag (S As (nil ?_));refine ah.fJ 9 2 f rfl av ?_;refine aQ (TA 2 (TA 3 kN)) (fun(z:(Sl Z6))=>[(9,.a (.d (Sl.d 2 Z6.c (some f) z)))]) (fun z=>(H.set f (some (.tok 2 z.l.length)))) (fun z=>(Option.bind (bif i then((aW 24 z (⟨false,[(Z6.mk (7:Int) j)]⟩:Sl Z6)).bind fun g=>some g) else(some z)) fun o=>some o)=some r) ?_ ?_
 ·intro I p;refine ag (S Mv (S Mv (G0 Mv ?_)));obtain⟨J,w,b⟩:=dQ (FU _) b;refine dz 12 rfl rfl rfl rfl rfl (fun hC=>FV (w hC)) ?_;refine G1 13 rfl NB ?_;refine S PO (nil ?_);obtain⟨K,q,b⟩:=b_ b;refine cO b (fun x b=>?_) (fun x b=>?_)
  ·refine region ?_;refine S Mv (S Mv (S BU (S BV ?_)));obtain⟨s,y,b⟩:=qO rfl b;refine SH (am Z6.c (TK rfl) rfl (TK rfl) (TK rfl) y) ?_;refine hq (H.set f (some (.tok 2 s.l.length))) ?_;refine S As (nil ?_);have b:=ku q b;exact p _ s wA b
  refine ah.skip ?_;have b:=ku q b;exact p _ (Sl.nil:Sl Z6) wA b
 rintro B b;try dsimp only at b
 obtain⟨C,E,b⟩:=b_ b;refine aQ kN (fun(z:(Sl Z6))=>[(9,.a (.d (Sl.d 2 Z6.c (some f) z)))]) (fun z=>(H.set f (some (.tok 2 z.l.length)))) (fun z=>C z=some r) ?_ ?_
 ·intro L t;refine ag (S Mv (nil ?_));refine cO b (fun F b=>?_) (fun F b=>?_)
  ·refine region ?_;refine S Mv (S Mv (S BU (S BV ?_)));obtain⟨g,G,b⟩:=qO rfl b;refine SH (am Z6.c (TK rfl) rfl (TK rfl) (TK rfl) G) ?_;refine hq (H.set f (some (.tok 2 g.l.length))) ?_;refine S As (nil ?_);exact t _ g wA b
  refine ah.skip ?_;exact t _ B wA b
 rintro o b;try dsimp only at b
 have b:=ku E b;refine ag (S Mv (S As (nil ?_)));refine ah.dU 8 rfl ?_;refine ah.ret ?_;repeat (first|refine bF ?_|refine bG ?_)
 obtain rfl:=oJ b;refine bn.bH H rfl ⟨rfl,rfl⟩ ?_
 first|exact ai.cm m|(simp only [ai.set_set]; exact ai.cm m)
theorem NJ {t:Bs}{k i:Bool}{j:Bs}{r:Sl Z6}(b:s8 t k i j=some r) (H:ai){f:Nat}(G:H f=some (.tok 2 0)):AC Tryz.prog 82 [.d (.str t),.d (.bool k),.d (.bool i),.d (.str j)] H fun v h'=>v=.a (.d (Sl.d 2 Z6.c (some f) r))/\h'=H.set f (some (.tok 2 r.l.length)):=by
 unfold s8 lq at b;refine AC.oW 28 [.tmp 8] Tryz.call82 Tryz.func82 ?_;refine ah.dx (h':=(H.set f (some (.tok 2 0)))) (by funext n_; simp only [ai.set]; (repeat' split)<;>simp_all) ?_;refine ag (S As (nil ?_));refine ag (S As (nil ?_));refine ah.fJ 9 2 f rfl av ?_;refine aQ (TA 2 (TA 3 kN)) (fun(z:(Sl Z6))=>[(9,.a (.d (Sl.d 2 Z6.c (some f) z)))]) (fun z=>(H.set f (some (.tok 2 z.l.length)))) (fun z=>(Option.bind (bif i then((aW 24 z (⟨false,[(Z6.mk (7:Int) j)]⟩:Sl Z6)).bind fun g=>some g) else(some z)) fun m=>some m)=some r) ?_ ?_
 ·intro I o;refine ag (S Mv (S Mv (G0 Mv ?_)));obtain⟨J,u,b⟩:=dQ (FU _) b;refine dz 12 rfl rfl rfl rfl rfl (fun hC=>FV (u hC)) ?_;refine G1 13 rfl NB ?_;refine S PO (nil ?_);obtain⟨K,p,b⟩:=b_ b;refine cO b (fun w b=>?_) (fun w b=>?_)
  ·refine region ?_;refine S Mv (S Mv (S BU (S BV ?_)));obtain⟨q,x,b⟩:=qO rfl b;refine SH (am Z6.c (TK rfl) rfl (TK rfl) (TK rfl) x) ?_;refine hq (H.set f (some (.tok 2 q.l.length))) ?_;refine S As (nil ?_);have b:=ku p b;exact o _ q wA b
  refine ah.skip ?_;have b:=ku p b;exact o _ (Sl.nil:Sl Z6) wA b
 rintro y b;try dsimp only at b
 obtain⟨B,C,b⟩:=b_ b;refine aQ kN (fun(z:(Sl Z6))=>[(9,.a (.d (Sl.d 2 Z6.c (some f) z)))]) (fun z=>(H.set f (some (.tok 2 z.l.length)))) (fun z=>B z=some r) ?_ ?_
 ·intro L s;refine ag (S Mv (nil ?_));refine cO b (fun E b=>?_) (fun E b=>?_)
  ·refine region ?_;refine S Mv (S Mv (S BU (S BV ?_)));obtain⟨g,F,b⟩:=qO rfl b;refine SH (am Z6.c (TK rfl) rfl (TK rfl) (TK rfl) F) ?_;refine hq (H.set f (some (.tok 2 g.l.length))) ?_;refine S As (nil ?_);exact s _ g wA b
  refine ah.skip ?_;exact s _ y wA b
 rintro m b;try dsimp only at b
 have b:=ku C b;refine ag (S Mv (S As (nil ?_)));exact rt b
def xy (b:aj):Bool:=on (bif (decide (b.an=(1:Int))) then((decide (b.an=(1:Int)))) else((decide (b.an=(2:Int))))) fun f=>bif f then((decide (((b.aB.l.length:Nat):Int)=(0:Int)))) else(on (bif (decide (b.an=(3:Int))) then((decide (b.an=(3:Int)))) else((decide (b.an=(4:Int))))) fun g=>bif g then((decide (((b.aG.l.length:Nat):Int)=(0:Int)))) else(bif (decide (b.an=(5:Int))) then((decide (((b.aL.l.length:Nat):Int)=(0:Int)))) else(on (()) fun _=>false)))
def xz (b:aj):Option Bool:=some (xy b)
theorem NK (a0:aj):xz a0=some (xy a0):=rfl
theorem NL {g:aj}{r:Bool}(b:xz g=some r) (H:ai) :AC Tryz.prog 83 [.agg (aj.c g)] H fun v h'=>v=.a (.d (.bool r))/\h'=H:=by
 unfold xz xy at b;refine AC.oW 25 [.tmp 2] Tryz.call83 Tryz.func83 ?_;refine ag (S BX (S As (nil ?_)));refine aQ kN (fun(z:Unit)=>[]) (fun z=>H) (fun z=>some (false)=some r) ?_ ?_
 ·intro B k;refine ag (S Fv (S Ld (nil ?_)));refine block ?_;obtain⟨l,m,b⟩:=eL b;refine aQ (TA 1 (TA 4 kN)) (fun(z:Bool)=>[(5,.a (.d (.bool z)))]) (fun z=>H) (fun z=>l z=some r) ?_ ?_
  ·intro C i;refine ag (S BI (S As (nil ?_)));refine cP b (fun o b=>?_) (fun o b=>?_)
   ·refine ah.skip ?_;exact i _ (decide (g.an=(1:Int))) wA b
   refine region ?_;refine S BI (S As (nil ?_));exact i _ (decide (g.an=(2:Int))) wA b
  rintro E b;try dsimp only at b
  have b:=ku m b;refine cP b (fun p b=>?_) (fun p b=>?_)
  ·refine ag (S Fv (S Ld ?_));refine sLen (f:=Z7.c) (s:=g.aB) (TK rfl) rfl rfl rfl rfl fun F=>?_;refine S BI (S As (nil ?_));exact rt b
  obtain⟨q,t,b⟩:=eL b;refine aQ (TA 1 (TA 4 kN)) (fun(z:Bool)=>[(12,.a (.d (.bool z)))]) (fun z=>H) (fun z=>q z=some r) ?_ ?_
  ·intro G j;refine ag (S BI (S As (nil ?_)));refine cP b (fun u b=>?_) (fun u b=>?_)
   ·refine ah.skip ?_;exact j _ (decide (g.an=(3:Int))) wA b
   refine region ?_;refine S BI (S As (nil ?_));exact j _ (decide (g.an=(4:Int))) wA b
  rintro I b;try dsimp only at b
  have b:=ku t b;refine cP b (fun w b=>?_) (fun w b=>?_)
  ·refine ag (S Fv (S Ld ?_));refine sLen (f:=Z9.c) (s:=g.aG) (TK rfl) rfl rfl rfl rfl fun J=>?_;refine S BI (S As (nil ?_));exact rt b
  refine ag (S BI (S As (nil ?_)));refine cP b (fun x b=>?_) (fun x b=>?_)
  ·refine ag (S Fv (S Ld ?_));refine sLen (f:=Z8.c) (s:=g.aL) (TK rfl) rfl rfl rfl rfl fun K=>?_;refine S BI (S As (nil ?_));exact rt b
  refine ah.skip ?_;obtain⟨L,y,b⟩:=eL b;have b:=ku y b;exact k _ () wA b
 rintro _ b;try dsimp only at b
 refine ag (S As (nil ?_));exact rt b
def nG (b:Bs):List Bs->Unit ⊕ Bool
 | []=>Sum.inl ()
 | f::g=>on (f) fun i=>bif ((i==b)) then(Sum.inr true) else(nG b (g) )
def s9 (i:(Sl Bs)) (b:Bs):Bool:=on (nG b i.l ) fun f=>match f with|Sum.inl _=>(on (()) fun _=>false)|Sum.inr g=>(g)
def xA (f:(Sl Bs)) (b:Bs):Option Bool:=some (s9 f b)
theorem FW (a0:(Sl Bs)) (b:Bs):xA a0 b=some (s9 a0 b):=rfl
theorem FX {g:Sl Bs}{i:Bs}{w0:Option Nat}{r:Bool}(b:xA g i=some r) (H:ai) :AC Tryz.prog 122 [.d (Sl.d 1 aO w0 g),.d (.str i)] H fun v h'=>v=.a (.d (.bool r))/\h'=H:=by
 unfold xA s9 at b;refine AC.oW 18 [.tmp 4] Tryz.call122 Tryz.func122 ?_;refine ag (S As (nil ?_));refine aQ kN (fun(z:Unit)=>[]) (fun z=>H) (fun z=>some (false)=some r) ?_ ?_
 ·intro F u;refine ag (S As (nil ?_));refine block ?_;obtain⟨k,m,b⟩:=eL b;refine bA (TA 0 (TA 1 kN)) (fun(z:Nat)=>[(5,.a (.d (.int .i64 ((z:Nat):Int))))]) (fun z=>H) (fun z=>g.l.length-z) (fun z=>k (nG i (g.l.drop z) )=some r) 0 b wA ?_;rintro o b G w;try dsimp only at b
  refine ay fun x p=>?_;refine ag (S Mv (S Mv ?_));refine sLen (f:=aO) (s:=g) (TK rfl) rfl rfl rfl rfl fun I=>?_;refine S BI (nil ?_);refine ah.bN (fun l=>k (nG i l )=some r) b rfl (fun J q j b=>?_) (fun j b=>?_)
  ·rw [nG] at b;try dsimp only at j
   have K:=oD j;refine sk p ?_;clear p x;refine ay fun y t=>?_;refine block ?_;refine ag (S Mv (S Mv ?_));obtain⟨L,B,b⟩:=vP q b;refine S (ix aO o B) (S Ld (S Mv (S BS (nil ?_))));refine cP b (fun C b=>?_) (fun C b=>?_)
   ·refine ag (S As (nil ?_));refine ah.ret ?_;repeat (first|refine bF ?_|refine bG ?_)
    have b:=ku m b;obtain rfl:=oJ b;refine bn.bH H rfl ⟨rfl,rfl⟩ ?_;exact(fun _ _ h=>h)
   refine sk t ?_;clear t y;refine region ?_;refine S Mv ?_;refine SI ?_;refine S As (nil ?_);exact w _ (o+1) wA b (dl q)
  rw [nG] at b;have b:=ku m b;try dsimp only at b
  refine ah.exit ?_;obtain⟨M,E,b⟩:=eL b;have b:=ku E b;exact u _ () wA b
 rintro _ b;try dsimp only at b
 refine ag (S As (nil ?_));exact rt b
def s_ (b:az):Option Bool:=aR ((decide (((b.aF.l.length:Nat):Int)=(1:Int)))) (b.aF.l[0]?) (0:Int) fun f=>some ((decide (((b.aF.l.length:Nat):Int)=(1:Int)))&&(decide (f=(1:Int))))
def Aw (b:az):Option Bool:=s_ b
theorem NM (a0:az):Aw a0=s_ a0:=rfl
theorem NN {g:az}{r:Bool}(b:Aw g=some r) (H:ai) :AC Tryz.prog 154 [.agg (az.c g)] H fun v h'=>v=.a (.d (.bool r))/\h'=H:=by
 unfold Aw s_ at b;refine AC.oW 14 [.tmp 2] Tryz.call154 Tryz.func154 ?_;refine ag (S BX (S As (nil ?_)));refine ag (S Fv (S Ld ?_));refine sLen (f:=(bC .i64)) (s:=g.aF) (TK rfl) rfl rfl rfl rfl fun j=>?_;refine S BI (S Mv (G0 Fv ?_));refine G1 8 rfl Ld ?_;obtain⟨l,i,b⟩:=dQ rfl b;refine gC rfl rfl (fun hC=>aK (k:=9) rfl (ee (f:=(bC .i64)) (n:=0) (TK rfl) rfl (TK rfl) rfl rfl rfl (i hC))) rfl ?_
 refine G1 10 rfl Ld ?_;refine G1 11 rfl BI ?_;refine S PA (S As (nil ?_));exact rt b
def mr (k:ak) (i:Bs):List Z8->(Sl Bs)->Option ((Sl Bs))
 | [],f=>some f
 | l::m,f=>on (l) fun b=>on (eA k b.aA.aa) fun g=>(s_ b.aA).bind fun j=>on (bif (j&&(((b.aA.aa==i))||(g.2&&(decide (g.1.an=(5:Int)))))) then s9 f b.aA.aa else false) fun o=>Option.bind (bif ((j&&(((b.aA.aa==i))||(g.2&&(decide (g.1.an=(5:Int))))))&&(!o)) then((aW 16 f (⟨false,[b.aA.aa]⟩:Sl Bs)).bind fun p=>some p) else(some f)) fun q=>mr k i (m) q
def xB (i:ak) (b:aj) (j:Bs) (k:(Sl Bs)):Option (Sl Bs):=Option.bind (mr i j b.aL.l k) fun f=>on (f) fun g=>some g
def tc (f:ak) (b:aj) (g:Bs) (i:(Sl Bs)):Option (Sl Bs):=xB f b g i
theorem NO (a0:ak) (b:aj) (a2:Bs) (a3:(Sl Bs)):tc a0 b a2 a3=xB a0 b a2 a3:=rfl
theorem FY {i:ak}{g:aj}{j:Bs}{m:Sl Bs}{g3:Nat}{r:Sl Bs}(b:tc i g j m=some r) (H:ai) (Q:H g3=some (.tok 1 m.l.length)):AC Tryz.prog 121 [.agg (ak.c i),.agg (aj.c g),.d (.str j),.d (Sl.d 1 aO (some g3) m)] H fun v h'=>v=.a (.d (Sl.d 1 aO (some g3) r))/\h'=(H.set g3 (some (.tok 1 r.l.length))):=by
 unfold tc xB at b;refine AC.oW 62 [.tmp 8] Tryz.call121 Tryz.func121 ?_;refine ah.dx (h':=(H.set g3 (some (.tok 1 m.l.length)))) (by funext n_; simp only [ai.set]; (repeat' split)<;>simp_all) ?_;refine ag (S BX (S BX (S As (nil ?_))));refine aQ kN (fun(z:(Sl Bs))=>[(3,.a (.d (Sl.d 1 aO (some g3) z)))]) (fun z=>(H.set g3 (some (.tok 1 z.l.length)))) (fun z=>(some z)=some r) ?_ ?_
 ·intro R C;refine ag (S As (nil ?_));refine block ?_;obtain⟨o,E,b⟩:=b_ b;refine bA (TA 2 (TA 4 (TA 5 kN))) (fun(z:(Sl Bs)×Nat)=>[(3,.a (.d (Sl.d 1 aO (some g3) z.1))),(9,.a (.d (.int .i64 ((z.2:Nat):Int))))]) (fun z=>(H.set g3 (some (.tok 1 z.1.l.length)))) (fun z=>g.aL.l.length-z.2) (fun z=>Option.bind (mr i j (g.aL.l.drop z.2) z.1) o=some r) (m,0) b wA ?_
  rintro ⟨p,q⟩ b U F;try dsimp only at b
  refine ay fun G u=>?_;refine ag (S Mv (S Fv (S Ld ?_)));refine sLen (f:=Z8.c) (s:=g.aL) (TK rfl) rfl rfl rfl rfl fun W=>?_;refine S BI (nil ?_);refine ah.bN (fun l=>Option.bind (mr i j l p) o=some r) b rfl (fun X w t b=>?_) (fun t b=>?_)
  ·rw [mr] at b;try dsimp only at t
   have Y:=oD t;refine sk u ?_;clear u G;refine aQ (TA 2 (TA 4 (TA 5 (TA 9 kN)))) (fun(z:(Sl Bs))=>[(3,.a (.d (Sl.d 1 aO (some g3) z)))]) (fun z=>(H.set g3 (some (.tok 1 z.l.length)))) (fun z=>Option.bind (mr i j (g.aL.l.drop (q+1)) z) o=some r) ?_ ?_
   ·intro Z x;refine block ?_;refine ag (S Fv (S Ld (S Mv ?_)));obtain⟨aa,I,b⟩:=vO w b;refine S (ix Z8.c q I) (S Fv (S Ld ?_));refine Sl ?_;refine Sf ?_;refine nil ?_;refine bu 10 _ rfl (KA 2 (KA 3 (KA 4 (KA 5 (KA 9 aS.nil))))) ?_;refine ag (S Ld (S Fv (S Ld ?_)));obtain⟨ab,J,b⟩:=vO (lc _ _) b;refine Sc rfl rfl (lg J) ?_;refine S Mv (S EX (S EX ?_))
    refine Sl ?_;refine Sf ?_;refine S As (nil ?_);refine bu 11 _ rfl (KA 2 (KA 3 (KA 4 (KA 5 (KA 9 (KA 10 (KA 12 aS.nil))))))) ?_;refine ag (S Ld ?_);obtain⟨ad,K,b⟩:=qO (NM _) b;refine Sc rfl rfl (NN K) ?_;refine S Mv (G0 Fv ?_);refine G1 36 rfl Ld ?_;refine G0 Mv ?_;refine G2 37 38 rfl rfl BS ?_;refine G1 39 rfl Mv ?_;refine G0 Mv ?_;refine G1 41 rfl Mv ?_;refine G0 Fv ?_
    refine G1 43 rfl Ld ?_;refine G1 44 rfl BI ?_;refine gC rfl rfl (fun hC=>aK (k:=42) rfl (iM rfl rfl rfl)) rfl ?_;refine gC rfl rfl (fun hC=>aK (k:=40) rfl (sX rfl rfl rfl)) rfl ?_;refine S PA (S Mv (G0 Mv (G0 Fv ?_)));refine G1 51 rfl Ld ?_;obtain⟨ae,L,b⟩:=eH (fun _=>(FW _ _)) b;refine fw 50 52 rfl rfl rfl rfl rfl rfl (fun hC=>FX (L hC)) ?_;refine G1 53 rfl NB ?_
    refine S PA (nil ?_);obtain⟨af,y,b⟩:=dI b;refine cO b (fun M b=>?_) (fun M b=>?_)
    ·refine region ?_;refine S Mv (S Fv (S Ld (S BV ?_)));obtain⟨B,N,b⟩:=qO rfl b;refine SH (am aO (TK rfl) rfl (TK rfl) (TK rfl) N) ?_;refine hq (H.set g3 (some (.tok 1 B.l.length))) ?_;refine S As (nil ?_);have b:=ku y b;exact x _ B wA b
    refine ah.skip ?_;have b:=ku y b;exact x _ p wA b
   rintro O b;try dsimp only at b
   refine region ?_;refine S Mv ?_;refine SI ?_;refine S As (nil ?_);exact F _ (O,(q+1)) wA b (dl w)
  rw [mr] at b;have b:=ku E b;refine ah.exit ?_;obtain⟨al,P,b⟩:=bW b;have b:=ku P b;exact C _ p wA b
 rintro an b;try dsimp only at b
 refine ag (S Mv (S As (nil ?_)));exact rt b
def xC (b:aj)  (f:(Sl Bs)):Option Bool:=(xA f b.aa).bind fun g=>some g
def td (i:ak) (f:aj) :Nat->(Sl Bs)->Nat->Option Bool
 | 0,_,_=>none
 | j+1,b,g=>bif (decide (((g:Nat):Int)<((b.l.length:Nat):Int))) then((b.l[g]?).bind fun k=>(xu i k).bind fun m=>(tc i m.1 f.aa b).bind fun o=>(td i f j) o (g+1)) else(xC f  b)
def u9 (f:ak) (b:aj):Option Bool:=bif (!decide (b.an=(5:Int))) then(some false) else((tc f b b.aa (Sl.nil:Sl Bs)).bind fun g=>td f b F0 g 0)
theorem NQ {o:ak}{i:aj}{r:Bool}(b:u9 o i=some r) (H:ai) :AC Tryz.prog 84 [.agg (ak.c o),.agg (aj.c i)] H fun v h'=>v=.a (.d (.bool r))/\h'=H:=by
 unfold u9 at b;refine AC.oW 42 [.tmp 4] Tryz.call84 Tryz.func84 ?_;refine ah.tok 1 fun g j=>?_;refine ag (S BX (S BX (S As (nil ?_))));refine ay fun C p=>?_;refine ag (S Fv (S Ld (S BI (nil ?_))));refine cE b (fun E b=>?_) (fun E b=>?_)
 ·refine ag (S As (nil ?_));refine ah.ret ?_;repeat (first|refine bF ?_|refine bG ?_)
  obtain rfl:=oJ b;refine bn.bH H rfl ⟨rfl,rfl⟩ ?_
  first|exact ai.cm j|(simp only [ai.set_set]; exact ai.cm j)
 refine sk p ?_;clear p C;refine ag (S Ld (S Ld (S Fv (S Ld ?_))));obtain⟨q,F,b⟩:=bO b;refine sH (bP rfl rfl (AC.zS (.cons (.refl _) (.cons (.refl _) (.cons (.refl _) (.cons (js.nil (k':=1) (t:=g) av) .nil)))) (FY F _ av))) rfl ?_;refine hq (H.set g (some (.tok 1 q.l.length))) ?_;refine S As (nil ?_);refine aQ (TA 3 kN) (fun(z:(Sl Bs))=>[(5,.a (.d (Sl.d 1 aO (some g) z)))]) (fun z=>(H.set g (some (.tok 1 z.l.length)))) (fun z=>xC i z=some r) ?_ ?_
 ·intro P G;refine ag (S As (nil ?_));refine block ?_;refine bA (TA 2 (TA 3 kN)) (fun(z:Nat×(Sl Bs)×Nat)=>[(5,.a (.d (Sl.d 1 aO (some g) z.2.1))),(6,.a (.d (.int .i64 ((z.2.2:Nat):Int))))]) (fun z=>(H.set g (some (.tok 1 z.2.1.l.length)))) (fun z=>z.1) (fun z=>td o i z.1 z.2.1 z.2.2=some r) (F0,q,0) b wA ?_;rintro ⟨k,u,w⟩ b Q I;try dsimp only at b
  cases k with
  | zero=>cases b
  | succ k =>
    rw [td] at b;refine ay fun J x=>?_;refine ag (S Mv (S Mv ?_));refine sLen (f:=aO) (s:=u) (TK rfl) rfl rfl rfl rfl fun R=>?_;refine S BI (nil ?_);refine cE b (fun m b=>?_) (fun m b=>?_)
    ·try dsimp only at m
     have U:=oD m;refine sk x ?_;clear x J;refine ay fun K y=>?_;refine block ?_;refine ah.cr (Sd Ld (Sd Mv (Sd Mv ?_)));obtain⟨W,L,b⟩:=bO b;refine Sd (ix aO w L) (Sd Ld ?_);obtain⟨X,M,b⟩:=bO b;refine cM rfl rfl (lg M) ?_;refine Sd Mv (Sd EX (Sd EX ?_));refine au.sB (TK rfl) rfl rfl ?_ (by repeat (first|exact bL.nil|apply bL.cons))
     refine au.dB (eG (TK rfl) rfl rfl rfl rfl rfl) ?_;refine Sd As ?_;refine au.nil (by decide +kernel) ?_;refine bu 7 _ rfl (KA 2 (KA 3 (KA 5 (KA 6 aS.nil)))) ?_;refine region ?_;refine S Ld (S Ld (S Fv (S Ld (S Mv ?_))));obtain⟨B,N,b⟩:=bO b;refine sH (bP rfl rfl (FY N _ av)) rfl ?_;refine hq (H.set g (some (.tok 1 B.l.length))) ?_;refine S As (nil ?_)
     refine y _ ?_;clear y K;refine region ?_;refine S Mv ?_;refine SI ?_;refine S As (nil ?_);exact I _ (k,B,(w+1)) wA b (nS _)
    refine ah.exit ?_;exact G _ u wA b
 rintro Y b;try dsimp only at b
 unfold xC at b;refine ag (S Mv (S Fv (S Ld ?_)));obtain⟨Z,O,b⟩:=bO b;refine Sc rfl rfl (FX O) ?_;refine S As (nil ?_);refine ah.ret ?_;repeat (first|refine bF ?_|refine bG ?_)
 obtain rfl:=oJ b;refine bn.bH H rfl ⟨rfl,rfl⟩ ?_
 first|exact ai.cm j|(simp only [ai.set_set]; exact ai.cm j)
def u_  (b:(Sl Z6)):Option (Sl Z6):=some b
def pu (j:ak) (b:aj)  (f:(Sl Z6)):Option (Sl Z6):=(u9 j b).bind fun g=>bif g then((aW 24 f (⟨false,[(Z6.mk (5:Int) b.aa)]⟩:Sl Z6)).bind fun i=>u_   i) else(u_   f)
def tf (g:ak) (b:aj)  (f:(Sl Z6)):Option (Sl Z6):=bif (((((((b.aa==([81,117,101,114,121]:Bs)))||((b.aa==([77,117,116,97,116,105,111,110]:Bs))))||((b.aa==([83,117,98,115,99,114,105,112,116,105,111,110]:Bs))))&&(!decide (b.an=(1:Int))))||(decide (b.an<(1:Int))))||(decide ((5:Int)<b.an))) then((aW 24 f (⟨false,[(Z6.mk (9:Int) b.aa)]⟩:Sl Z6)).bind fun i=>pu g b  i) else(pu g b  f)
def tg (g:ak) (b:aj)  (i:Bool):Option (Sl Z6):=(s8 b.aa false i b.aa).bind fun f=>(xz b).bind fun j=>bif j then((aW 24 f (⟨false,[(Z6.mk (8:Int) b.aa)]⟩:Sl Z6)).bind fun k=>tf g b  k) else(tf g b  f)
def th (i:ak) (j:Int) (b:aj) :Nat->Bool->Int->Option (Sl Z6)
 | 0,_,_=>none
 | k+1,f,g=>bif (decide (g<j)) then(aR (!f) (dh i.aq.l g) aj.zero fun m=>(cG g (1:Int)).bind fun o=>(th i j b k) (f||((m.aa==b.aa))) o) else(tg i b  f)
def vb (g:ak) (b:Int):Option (Sl Z6):=(dh g.aq.l b).bind fun f=>(xw f.aa).bind fun i=>th g b f F0 i (0:Int)
theorem NR {i:ak}{m:Int}{r:Sl Z6}(b:vb i m=some r) (H:ai) :AC Tryz.prog 49 [.agg (ak.c i),.d (.int .i64 m)] H fun v h'=>v=.a (.d (Sl.d 2 Z6.c none r))/\h'=H:=by
 unfold vb at b;refine AC.oW 94 [.tmp 4] Tryz.call49 Tryz.func49 ?_;refine ag (S BX ?_);refine s0 (dR (k':=2) rfl) rfl ?_;refine nil ?_;refine ag (S Fv (S Ld (S Mv ?_)));obtain⟨j,F,b⟩:=bO b;refine s0 (jS (f:=aj.c) (TK rfl) rfl (TK rfl) rfl rfl rfl F) rfl ?_;refine S Ld ?_;refine Sl ?_;refine Sf ?_;refine nil ?_;refine bu 5 _ rfl (KA 1 (KA 2 aS.nil)) ?_;refine ag (S Fv (S Ld ?_))
 obtain⟨G,I,b⟩:=bO b;refine Sc rfl rfl (s5 I) ?_;refine S As (nil ?_);refine aQ (TA 2 (TA 5 kN)) (fun(z:Bool)=>[(6,.a (.d (.bool z)))]) (fun z=>H) (fun z=>tg i j z=some r) ?_ ?_
 ·intro ao J;refine ag (S As (nil ?_));refine block ?_;refine bA (TA 1 (TA 2 (TA 5 kN))) (fun(z:Nat×Bool×Int)=>[(6,.a (.d (.bool z.2.1))),(7,.a (.d (.int .i64 z.2.2)))]) (fun z=>H) (fun z=>z.1) (fun z=>th i m j z.1 z.2.1 z.2.2=some r) (F0,G,(0:Int)) b wA ?_;rintro ⟨o,p,ap⟩ b aq K;try dsimp only at b
  cases o with
  | zero=>cases b
  | succ o =>
    rw [th] at b;refine ay fun L q=>?_;refine ag (S Mv (S Mv (S BI (nil ?_))));refine cE b (fun M b=>?_) (fun M b=>?_)
    ·refine sk q ?_;clear q L;refine ay fun N s=>?_;refine block ?_;refine ah.draw rfl ?_;refine Sd Mv (Sd Mv (dr Fv ?_));refine dK 25 rfl Ld ?_;refine dr Mv ?_;obtain⟨O,P,b⟩:=gO b;refine au.gC rfl rfl (fun hC=>aK (k:=26) rfl (aK (k:=27) rfl (jS (f:=aj.c) (TK rfl) rfl (TK rfl) rfl rfl rfl (P hC)))) rfl ?_;refine dK 28 rfl Fv ?_;refine dK 29 rfl Ld ?_;refine dr Fv ?_
     refine dK 31 rfl Ld ?_;refine xk 30 32 rfl rfl BS ?_;refine Sd PO (Sd As ?_);refine au.nil (by decide +kernel) ?_;refine s _ ?_;clear s N;refine region ?_;refine S Mv ?_;obtain⟨Q,R,b⟩:=bO b;refine s0 (eR rfl rfl R) rfl ?_;refine S As (nil ?_);exact K _ (o,(p||((O.aa==j.aa))),Q) wA b (nS _)
    refine ah.exit ?_;exact J _ p wA b
 rintro aw b;try dsimp only at b
 unfold tg at b;refine ah.tok 2 fun g t=>?_;refine ag (S Fv (S Ld (S Mv (S Fv (S Ld ?_)))));obtain⟨u,U,b⟩:=bO b;refine sH (bP rfl rfl (NJ U _ av)) rfl ?_;refine hq (H.set g (some (.tok 2 u.l.length))) ?_;refine S As (nil ?_);refine aQ (TA 2 (TA 5 kN)) (fun(z:(Sl Z6))=>[(8,.a (.d (Sl.d 2 Z6.c (some g) z)))]) (fun z=>(H.set g (some (.tok 2 z.l.length)))) (fun z=>tf i j z=some r) ?_ ?_
 ·intro ax w;refine ag (S Ld ?_);obtain⟨az,W,b⟩:=bO b;refine Sc rfl rfl (NL W) ?_;refine nil ?_;refine cE b (fun X b=>?_) (fun X b=>?_)
  ·refine region ?_;refine S Mv (S Fv (S Ld (S BU (S BV ?_))));obtain⟨x,Y,b⟩:=bO b;refine SH (am Z6.c (TK rfl) rfl (TK rfl) (TK rfl) Y) ?_;refine hq (H.set g (some (.tok 2 x.l.length))) ?_;refine S As (nil ?_);exact w _ x wA b
  refine ah.skip ?_;exact w _ u wA b
 rintro Z b;try dsimp only at b
 unfold tf at b;refine ag (S Fv (S Ld (S BS (S Mv (G0 Fv ?_)))));refine G1 53 rfl Ld ?_;refine G1 54 rfl BS ?_;refine S PO (S Mv (G0 Fv ?_));refine G1 58 rfl Ld ?_;refine G1 59 rfl BS ?_;refine S PO (S As (nil ?_));refine aQ (TA 2 (TA 5 kN)) (fun(z:(Sl Z6))=>[(8,.a (.d (Sl.d 2 Z6.c (some g) z)))]) (fun z=>(H.set g (some (.tok 2 z.l.length)))) (fun z=>pu i j z=some r) ?_ ?_
 ·intro aA y;refine ag (S Mv (S Mv (G0 Fv ?_)));refine G1 64 rfl Ld ?_;refine G1 65 rfl BI ?_;refine S PA (S Mv (G0 Fv ?_));refine G1 69 rfl Ld ?_;refine G1 70 rfl BI ?_;refine S PO (S Mv (G0 Fv ?_));refine G1 74 rfl Ld ?_;refine G1 75 rfl BI ?_;refine S PO (nil ?_);refine cE b (fun ab b=>?_) (fun ab b=>?_)
  ·refine region ?_;refine S Mv (S Fv (S Ld (S BU (S BV ?_))));obtain⟨B,ad,b⟩:=bO b;refine SH (am Z6.c (TK rfl) rfl (TK rfl) (TK rfl) ad) ?_;refine hq (H.set g (some (.tok 2 B.l.length))) ?_;refine S As (nil ?_);exact y _ B wA b
  refine ah.skip ?_;exact y _ Z wA b
 rintro ae b;try dsimp only at b
 unfold pu at b;refine aQ kN (fun(z:(Sl Z6))=>[(8,.a (.d (Sl.d 2 Z6.c (some g) z)))]) (fun z=>(H.set g (some (.tok 2 z.l.length)))) (fun z=>u_ z=some r) ?_ ?_
 ·intro aB C;refine ag (S Ld (S Ld ?_));obtain⟨aC,af,b⟩:=bO b;refine Sc rfl rfl (NQ af) ?_;refine nil ?_;refine cE b (fun al b=>?_) (fun al b=>?_)
  ·refine region ?_;refine S Mv (S Fv (S Ld (S BU (S BV ?_))));obtain⟨E,an,b⟩:=bO b;refine SH (am Z6.c (TK rfl) rfl (TK rfl) (TK rfl) an) ?_;refine hq (H.set g (some (.tok 2 E.l.length))) ?_;refine S As (nil ?_);exact C _ E wA b
  refine ah.skip ?_;exact C _ ae wA b
 rintro aD b;try dsimp only at b
 unfold u_ at b;refine ag (S Mv (S As (nil ?_)));refine ah.dU 4 rfl ?_;refine ah.ret ?_;repeat (first|refine bF ?_|refine bG ?_)
 obtain rfl:=oJ b;refine bn.bH H rfl ⟨rfl,rfl⟩ ?_
 first|exact ai.cm t|(simp only [ai.set_set]; exact ai.cm t)
def xD (f:ak) (b:Int):Option (Sl Z6):=vb f b
theorem NS (a0:ak) (b:Int):vb a0 b=xD a0 b:=rfl
def lu (i:ak) (b:Bs):Bool:=on (eA i b) fun f=>on (gJ b) fun g=>(g||f.2)
def Ax (f:ak) (b:Bs):Option Bool:=some (lu f b)
theorem FZ (a0:ak) (b:Bs):Ax a0 b=some (lu a0 b):=rfl
theorem F1 {g:ak}{f:Bs}{r:Bool}(b:Ax g f=some r) (H:ai) :AC Tryz.prog 86 [.agg (ak.c g),.d (.str f)] H fun v h'=>v=.a (.d (.bool r))/\h'=H:=by
 unfold Ax lu at b;refine AC.oW 18 [.tmp 4] Tryz.call86 Tryz.func86 ?_;refine ag (S BX (S As (nil ?_)));refine ag (S Ld (S Mv ?_));obtain⟨k,i,b⟩:=vP (lc _ _) b;refine Sc rfl rfl (lg i) ?_;refine S Mv (S EX (S EX ?_));refine Sl ?_;refine Sf ?_;refine S As (nil ?_);refine bu 5 _ rfl (KA 1 (KA 6 aS.nil)) ?_;refine ag (S Mv ?_);obtain⟨l,j,b⟩:=vP (s4 _) b
 refine Sc rfl rfl (s5 j) ?_;refine S Mv (G0 Mv (S PO (S As (nil ?_))));exact rt b
def jw (b:Bs):List Z8->Unit ⊕ ((Z8×Bool))
 | []=>Sum.inl ()
 | f::g=>on (f) fun i=>bif ((i.aa==b)) then(on (f) fun j=>Sum.inr (j,true)) else(jw b (g) )
def gQ (i:(Sl Z8)) (b:Bs):(Z8×Bool):=on (jw b i.l ) fun f=>match f with|Sum.inl _=>(on (()) fun _=>((Z8.mk ([]:Bs) az.zero false af.zero (Sl.nil:Sl aC)),false))|Sum.inr g=>(g)
def Ay (f:(Sl Z8)) (b:Bs):Option (Z8×Bool):=some (gQ f b)
theorem xE (a0:(Sl Z8)) (b:Bs):Ay a0 b=some (gQ a0 b):=rfl
theorem xF {g:Sl Z8}{i:Bs}{w0:Option Nat}{r:Z8×Bool}(b:Ay g i=some r) (H:ai) :AC Tryz.prog 87 [.d (Sl.d 10 Z8.c w0 g),.d (.str i)] H fun v h'=>v=.cF [.agg (Z8.c r.1),.d (.bool r.2)]/\h'=H:=by
 unfold Ay gQ at b;refine AC.oW 25 [.cell 4 63,.tmp 5] Tryz.call87 Tryz.func87 ?_;refine ag ?_;refine Sl ?_;refine S As (nil ?_);refine eb (TA 4 kN) (fun(z:Z8)=>[]) (fun z=>[Z8.c z]) (fun z=>H) (fun z=>some (((Z8.mk ([]:Bs) az.zero false af.zero (Sl.nil:Sl aC)),false))=some r) ?_ ?_
 ·intro I w;refine ag (S As (nil ?_));refine block ?_;obtain⟨o,p,b⟩:=eL b;refine gb (TA 0 (TA 1 (TA 4 kN))) (fun(z:Nat×Z8)=>[(6,.a (.d (.int .i64 ((z.1:Nat):Int))))]) (fun z=>[Z8.c z.2]) (fun z=>H) (fun z=>g.l.length-z.1) (fun z=>o (jw i (g.l.drop z.1) )=some r) (0,Z8.zero) b wA ?_;rintro ⟨j,q⟩ b J x;try dsimp only at b
  refine ay fun y t=>?_;refine ag (S Mv (S Mv ?_));refine sLen (f:=Z8.c) (s:=g) (TK rfl) rfl rfl rfl rfl fun K=>?_;refine S BI (nil ?_);refine ah.bN (fun l=>o (jw i l )=some r) b rfl (fun L k m b=>?_) (fun m b=>?_)
  ·rw [jw] at b;try dsimp only at m
   have M:=oD m;refine sk t ?_;clear t y;refine ay fun B u=>?_;refine block ?_;refine ag (S Mv (S Mv ?_));obtain⟨N,C,b⟩:=vP k b;refine S (ix Z8.c j C) (S Fv (S Ld (S Mv (S BS (nil ?_)))));refine cP b (fun E b=>?_) (fun E b=>?_)
   ·refine ag (S Mv (S Mv ?_));obtain⟨O,F,b⟩:=vP k b;refine S (ix Z8.c j F) (S Ld ?_);refine Sf ?_;refine S As (nil ?_);refine ah.ret ?_;repeat (first|refine bF ?_|refine bG ?_)
    have b:=ku p b;obtain rfl:=oJ b;refine bn.bH H rfl ⟨rfl,rfl⟩ ?_;exact(fun _ _ h=>h)
   refine sk u ?_;clear u B;refine region ?_;refine S Mv ?_;refine SI ?_;refine S As (nil ?_);exact x _ ((j+1),q) wA b (dl k)
  rw [jw] at b;have b:=ku p b;try dsimp only at b
  refine ah.exit ?_;obtain⟨P,G,b⟩:=eL b;have b:=ku G b;exact w _ q wA b
 rintro Q b;try dsimp only at b
 refine ag (S BU ?_);refine Sf ?_;refine S As (nil ?_);exact rt b
def nH (i:ak) (b:Bs):Bool:=on (eA i b) fun f=>on (gJ b) fun g=>(g||(f.2&&(decide (f.1.an=(4:Int)))))
def Az (f:ak) (b:Bs):Option Bool:=some (nH f b)
theorem NT (a0:ak) (b:Bs):Az a0 b=some (nH a0 b):=rfl
theorem NU {g:ak}{f:Bs}{r:Bool}(b:Az g f=some r) (H:ai) :AC Tryz.prog 123 [.agg (ak.c g),.d (.str f)] H fun v h'=>v=.a (.d (.bool r))/\h'=H:=by
 unfold Az nH at b;refine AC.oW 23 [.tmp 4] Tryz.call123 Tryz.func123 ?_;refine ag (S BX (S As (nil ?_)));refine ag (S Ld (S Mv ?_));obtain⟨l,i,b⟩:=vP (lc _ _) b;refine Sc rfl rfl (lg i) ?_;refine S Mv (S EX (S EX ?_));refine Sl ?_;refine Sf ?_;refine S As (nil ?_);refine bu 5 _ rfl (KA 1 (KA 6 aS.nil)) ?_;refine ag (S Mv ?_);obtain⟨m,j,b⟩:=vP (s4 _) b
 refine Sc rfl rfl (s5 j) ?_;refine S Mv (G0 Mv ?_);refine G1 16 rfl Mv ?_;refine G0 Fv ?_;refine G1 18 rfl Ld ?_;refine G1 19 rfl BI ?_;refine gC rfl rfl (fun hC=>aK (k:=17) rfl (iM rfl rfl rfl)) rfl ?_;refine S PO (S As (nil ?_));exact rt b
def gR (g:ak) (b:Bs):Bool:=on (eA g b) fun f=>on (nH g b) fun i=>(i||(f.2&&(decide (f.1.an=(5:Int)))))
def AA (f:ak) (b:Bs):Option Bool:=some (gR f b)
theorem AB (a0:ak) (b:Bs):AA a0 b=some (gR a0 b):=rfl
theorem AD {g:ak}{f:Bs}{r:Bool}(b:AA g f=some r) (H:ai) :AC Tryz.prog 88 [.agg (ak.c g),.d (.str f)] H fun v h'=>v=.a (.d (.bool r))/\h'=H:=by
 unfold AA gR at b;refine AC.oW 24 [.tmp 4] Tryz.call88 Tryz.func88 ?_;refine ag (S BX (S As (nil ?_)));refine ag (S Ld (S Mv ?_));obtain⟨l,i,b⟩:=vP (lc _ _) b;refine Sc rfl rfl (lg i) ?_;refine S Mv (S EX (S EX ?_));refine Sl ?_;refine Sf ?_;refine S As (nil ?_);refine bu 5 _ rfl (KA 1 (KA 2 (KA 6 aS.nil))) ?_;refine ag (S Ld (S Mv ?_));obtain⟨m,j,b⟩:=vP (NT _ _) b
 refine Sc rfl rfl (NU j) ?_;refine S Mv (G0 Mv ?_);refine G1 17 rfl Mv ?_;refine G0 Fv ?_;refine G1 19 rfl Ld ?_;refine G1 20 rfl BI ?_;refine gC rfl rfl (fun hC=>aK (k:=18) rfl (iM rfl rfl rfl)) rfl ?_;refine S PO (S As (nil ?_));exact rt b
def mu (m:ak) (f:(Sl Z8)) (o:Bs) (p:Bs):List Z8->Nat->(Sl Z6)->Option ((Sl Z6))
 | [],g,i=>some i
 | b::q,g,i=>on (b) fun r=>(bM o r.aa).bind fun s=>(bM s p).bind fun j=>on ((⟨f.nl,f.l.take g⟩:Sl Z8)) fun t=>on (b) fun u=>on (gQ t u.aa) fun v=>on (b) fun w=>(lq w.aa false v.2 j).bind fun x=>(aW 24 i x).bind fun k=>on (b) fun y=>on (lu m y.aA.aa) fun z=>Option.bind (bif (!z) then((aW 24 k (⟨false,[(Z6.mk (8:Int) j)]⟩:Sl Z6)).bind fun B=>some B) else(on (b) fun C=>on (gR m C.aA.aa) fun E=>bif (!E) then((aW 24 k (⟨false,[(Z6.mk (10:Int) j)]⟩:Sl Z6)).bind fun F=>some F) else(some k))) fun G=>mu m f o p (q) (g+1) G
def nI (i:ak) (b:(Sl Z8)) (j:Bs) (k:Bs):Option (Sl Z6):=Option.bind (mu i b j k b.l 0 (Sl.nil:Sl Z6)) fun f=>on (f) fun g=>some g
def AE (f:ak) (b:(Sl Z8)) (g:Bs) (i:Bs):Option (Sl Z6):=nI f b g i
theorem F2 (a0:ak) (b:(Sl Z8)) (a2:Bs) (a3:Bs):AE a0 b a2 a3=nI a0 b a2 a3:=rfl
theorem F3 {m:ak}{j:Sl Z8}{o p:Bs}{G:Option Nat}{r:Sl Z6}(b:AE m j o p=some r) (H:ai) :AC Tryz.prog 52 [.agg (ak.c m),.d (Sl.d 10 Z8.c G j),.d (.str o),.d (.str p)] H fun v h'=>v=.a (.d (Sl.d 2 Z6.c none r))/\h'=H:=by
 unfold AE nI at b;refine AC.oW 80 [.tmp 8] Tryz.call52 Tryz.func52 ?_;refine ah.tok 2 fun g x=>?_;refine ag (S BX ?_);refine s0 (dR (k':=2) rfl) rfl ?_;refine nil ?_;refine ag (S As (nil ?_));refine ah.fJ 9 2 g rfl av ?_;refine aQ kN (fun(z:(Sl Z6))=>[(9,.a (.d (Sl.d 2 Z6.c (some g) z)))]) (fun z=>(H.set g (some (.tok 2 z.l.length)))) (fun z=>(some z)=some r) ?_ ?_
 ·intro ap I;refine ag (S As (nil ?_));refine block ?_;obtain⟨q,J,b⟩:=b_ b;refine bA (TA 1 (TA 2 (TA 3 (TA 4 kN)))) (fun(z:(Sl Z6)×Nat)=>[(9,.a (.d (Sl.d 2 Z6.c (some g) z.1))),(10,.a (.d (.int .i64 ((z.2:Nat):Int))))]) (fun z=>(H.set g (some (.tok 2 z.1.l.length)))) (fun z=>j.l.length-z.2) (fun z=>Option.bind (mu m j o p (j.l.drop z.2) z.2 z.1) q=some r) ((Sl.nil:Sl Z6),0) b wA ?_
  rintro ⟨y,i⟩ b aq K;try dsimp only at b
  refine ay fun L B=>?_;refine ag (S Mv (S Mv ?_));refine sLen (f:=Z8.c) (s:=j) (TK rfl) rfl rfl rfl rfl fun aw=>?_;refine S BI (nil ?_);refine ah.bN (fun l=>Option.bind (mu m j o p l i y) q=some r) b rfl (fun ax k t b=>?_) (fun t b=>?_)
  ·rw [mu] at b;try dsimp only at t
   have az:=oD t;refine sk B ?_;clear B L;refine aQ (TA 1 (TA 2 (TA 3 (TA 4 (TA 10 kN))))) (fun(z:(Sl Z6))=>[(9,.a (.d (Sl.d 2 Z6.c (some g) z)))]) (fun z=>(H.set g (some (.tok 2 z.l.length)))) (fun z=>Option.bind (mu m j o p (j.l.drop (i+1)) (i+1) z) q=some r) ?_ ?_
   ·intro aA u;refine block ?_;refine ag (S Mv (S Mv (S Mv ?_)));obtain⟨aB,M,b⟩:=vO k b;refine S (ix Z8.c i M) (S Fv (S Ld ?_));obtain⟨aC,N,b⟩:=qO rfl b;refine s0 (cL rfl rfl N) rfl ?_;refine S Mv ?_;obtain⟨aD,O,b⟩:=qO rfl b;refine s0 (cL rfl rfl O) rfl ?_;refine S As (nil ?_);refine ah.cr (Sd Mv (Sd Mv ?_));obtain⟨aE,P,b⟩:=vO (Q.qP (by omega)) b
    refine au.s0 (mm (f:=Z8.c) (l:=none) (r:=(some ((i:Nat):Int))) (TK rfl) rfl (TK rfl) rfl rfl trivial rfl P) rfl ?_;refine Sd Mv (Sd Mv ?_);obtain⟨aF,R,b⟩:=vO k b;refine Sd (ix Z8.c i R) (Sd Fv (Sd Ld ?_));obtain⟨aG,U,b⟩:=vO (xE _ _) b;refine cM rfl rfl (xF U) ?_;refine Sd Mv (Sd EX (Sd EX ?_));refine au.sB (TK rfl) rfl rfl ?_ (by repeat (first|exact bL.nil|apply bL.cons))
    refine au.dB (eG (TK rfl) rfl rfl rfl rfl rfl) ?_;refine Sd As ?_;refine au.nil (by decide +kernel) ?_;refine bu 12 _ rfl (KA 1 (KA 2 (KA 3 (KA 4 (KA 9 (KA 10 (KA 11 (KA 13 aS.nil)))))))) ?_;refine ag (S Mv (S Mv (S Mv ?_)));obtain⟨aH,W,b⟩:=vO k b;refine S (ix Z8.c i W) (S Fv (S Ld (S Mv (S Mv ?_))));obtain⟨aI,X,b⟩:=qO (xx _ _ _ _) b;refine Sc rfl rfl (Av X) ?_
    obtain⟨C,Y,b⟩:=qO rfl b;refine SH (am Z6.c (TK rfl) rfl (TK rfl) (TK rfl) Y) ?_;refine hq (H.set g (some (.tok 2 C.l.length))) ?_;refine S As (nil ?_);refine ah.cr (Sd Ld (Sd Mv (Sd Mv ?_)));obtain⟨aJ,Z,b⟩:=vO k b;refine Sd (ix Z8.c i Z) (Sd Fv (Sd Fv (Sd Ld ?_)));obtain⟨aK,aa,b⟩:=vO (FZ _ _) b;refine cM rfl rfl (F1 aa) ?_;refine Sd NB ?_;refine au.nil (by decide +kernel) ?_
    obtain⟨aL,w,b⟩:=dI b;refine cO b (fun ab b=>?_) (fun ab b=>?_)
    ·refine region ?_;refine S Mv (S Mv (S BU (S BV ?_)));obtain⟨E,ad,b⟩:=qO rfl b;refine SH (am Z6.c (TK rfl) rfl (TK rfl) (TK rfl) ad) ?_;refine hq (H.set g (some (.tok 2 E.l.length))) ?_;refine S As (nil ?_);have b:=ku w b;exact u _ E wA b
    refine ah.cr (Sd Ld (Sd Mv (Sd Mv ?_)));obtain⟨aM,ae,b⟩:=vO k b;refine Sd (ix Z8.c i ae) (Sd Fv (Sd Fv (Sd Ld ?_)));obtain⟨aN,af,b⟩:=vO (AB _ _) b;refine cM rfl rfl (AD af) ?_;refine Sd NB ?_;refine au.nil (by decide +kernel) ?_;refine cO b (fun aj b=>?_) (fun aj b=>?_)
    ·refine region ?_;refine S Mv (S Mv (S BU (S BV ?_)));obtain⟨F,al,b⟩:=qO rfl b;refine SH (am Z6.c (TK rfl) rfl (TK rfl) (TK rfl) al) ?_;refine hq (H.set g (some (.tok 2 F.l.length))) ?_;refine S As (nil ?_);have b:=ku w b;exact u _ F wA b
    refine ah.skip ?_;have b:=ku w b;exact u _ C wA b
   rintro an b;try dsimp only at b
   refine region ?_;refine S Mv ?_;refine SI ?_;refine S As (nil ?_);exact K _ (an,(i+1)) wA b (dl k)
  rw [mu] at b;have b:=ku J b;refine ah.exit ?_;obtain⟨aO,ao,b⟩:=bW b;have b:=ku ao b;exact I _ y wA b
 rintro aP b;try dsimp only at b
 refine ag (S Mv (S As (nil ?_)));refine ah.dU 8 rfl ?_;refine ah.ret ?_;repeat (first|refine bF ?_|refine bG ?_)
 obtain rfl:=oJ b;refine bn.bH H rfl ⟨rfl,rfl⟩ ?_
 first|exact ai.cm x|(simp only [ai.set_set]; exact ai.cm x)
def lz (b:Bs):List Z7->Unit ⊕ ((Z7×Bool))
 | []=>Sum.inl ()
 | f::g=>on (f) fun i=>bif ((i.aa==b)) then(on (f) fun j=>Sum.inr (j,true)) else(lz b (g) )
def nJ (i:aj) (b:Bs):(Z7×Bool):=on (lz b i.aB.l ) fun f=>match f with|Sum.inl _=>(on (()) fun _=>((Z7.mk ([]:Bs) (Sl.nil:Sl Z8) az.zero (Sl.nil:Sl aC)),false))|Sum.inr g=>(g)
def AF (f:aj) (b:Bs):Option (Z7×Bool):=some (nJ f b)
theorem F4 (a0:aj) (b:Bs):AF a0 b=some (nJ a0 b):=rfl
theorem F5 {g:aj}{i:Bs}{r:Z7×Bool}(b:AF g i=some r) (H:ai) :AC Tryz.prog 85 [.agg (aj.c g),.d (.str i)] H fun v h'=>v=.cF [.agg (Z7.c r.1),.d (.bool r.2)]/\h'=H:=by
 unfold AF nJ at b;refine AC.oW 28 [.cell 4 40,.tmp 5] Tryz.call85 Tryz.func85 ?_;refine ag (S BX ?_);refine Sl ?_;refine S As (nil ?_);refine eb (TA 4 kN) (fun(z:Z7)=>[]) (fun z=>[Z7.c z]) (fun z=>H) (fun z=>some (((Z7.mk ([]:Bs) (Sl.nil:Sl Z8) az.zero (Sl.nil:Sl aC)),false))=some r) ?_ ?_
 ·intro I w;refine ag (S As (nil ?_));refine block ?_;obtain⟨o,p,b⟩:=eL b;refine gb (TA 1 (TA 2 (TA 4 kN))) (fun(z:Nat×Z7)=>[(6,.a (.d (.int .i64 ((z.1:Nat):Int))))]) (fun z=>[Z7.c z.2]) (fun z=>H) (fun z=>g.aB.l.length-z.1) (fun z=>o (lz i (g.aB.l.drop z.1) )=some r) (0,Z7.zero) b wA ?_;rintro ⟨j,q⟩ b J x;try dsimp only at b
  refine ay fun y t=>?_;refine ag (S Mv (S Fv (S Ld ?_)));refine sLen (f:=Z7.c) (s:=g.aB) (TK rfl) rfl rfl rfl rfl fun K=>?_;refine S BI (nil ?_);refine ah.bN (fun l=>o (lz i l )=some r) b rfl (fun L k m b=>?_) (fun m b=>?_)
  ·rw [lz] at b;try dsimp only at m
   have M:=oD m;refine sk t ?_;clear t y;refine ay fun B u=>?_;refine block ?_;refine ag (S Fv (S Ld (S Mv ?_)));obtain⟨N,C,b⟩:=vP k b;refine S (ix Z7.c j C) (S Fv (S Ld (S Mv (S BS (nil ?_)))));refine cP b (fun E b=>?_) (fun E b=>?_)
   ·refine ag (S Fv (S Ld (S Mv ?_)));obtain⟨O,F,b⟩:=vP k b;refine S (ix Z7.c j F) (S Ld ?_);refine Sf ?_;refine S As (nil ?_);refine ah.ret ?_;repeat (first|refine bF ?_|refine bG ?_)
    have b:=ku p b;obtain rfl:=oJ b;refine bn.bH H rfl ⟨rfl,rfl⟩ ?_;exact(fun _ _ h=>h)
   refine sk u ?_;clear u B;refine region ?_;refine S Mv ?_;refine SI ?_;refine S As (nil ?_);exact x _ ((j+1),q) wA b (dl k)
  rw [lz] at b;have b:=ku p b;try dsimp only at b
  refine ah.exit ?_;obtain⟨P,G,b⟩:=eL b;have b:=ku G b;exact w _ q wA b
 rintro Q b;try dsimp only at b
 refine ag (S BU ?_);refine Sf ?_;refine S As (nil ?_);exact rt b
def lB (i:ak) (f:aj):List Z7->Nat->(Sl Z6)->Option ((Sl Z6))
 | [],j,k=>some k
 | p::q,j,k=>on (p) fun b=>(bM f.aa ([46]:Bs)).bind fun r=>(bM r b.aa).bind fun g=>on ((⟨f.aB.nl,f.aB.l.take j⟩:Sl Z7)) fun s=>on (nJ (aj.mk (0:Int) ([]:Bs) (Sl.nil:Sl Bs) (Sl.nil:Sl aC) s (Sl.nil:Sl Z9) (Sl.nil:Sl Z8)) b.aa) fun t=>(lq b.aa false t.2 g).bind fun u=>(aW 24 k u).bind fun m=>on (eA i b.aA.aa) fun o=>on (lu i b.aA.aa) fun v=>Option.bind (bif (!v) then((aW 24 m (⟨false,[(Z6.mk (8:Int) g)]⟩:Sl Z6)).bind fun w=>some w) else(on (gJ b.aA.aa) fun x=>bif (((!x)&&o.2)&&(decide (o.1.an=(5:Int)))) then((aW 24 m (⟨false,[(Z6.mk (10:Int) g)]⟩:Sl Z6)).bind fun y=>some y) else(some m))) fun z=>(bM g ([40]:Bs)).bind fun B=>(nI i b.aH B ([41]:Bs)).bind fun C=>(aW 24 z C).bind fun E=>on (E) fun F=>lB i f (q) (j+1) F
def tj (i:ak) (b:aj):Option (Sl Z6):=Option.bind (lB i b b.aB.l 0 (Sl.nil:Sl Z6)) fun f=>on (f) fun g=>some g
def AG (f:ak) (b:aj):Option (Sl Z6):=tj f b
theorem NV (a0:ak) (b:aj):AG a0 b=tj a0 b:=rfl
theorem NW {k:ak}{i:aj}{r:Sl Z6}(b:AG k i=some r) (H:ai) :AC Tryz.prog 50 [.agg (ak.c k),.agg (aj.c i)] H fun v h'=>v=.a (.d (Sl.d 2 Z6.c none r))/\h'=H:=by
 unfold AG tj at b;refine AC.oW 95 [.tmp 4] Tryz.call50 Tryz.func50 ?_;refine ah.tok 2 fun g w=>?_;refine ag (S BX (S BX ?_));refine s0 (dR (k':=2) rfl) rfl ?_;refine nil ?_;refine ag (S As (nil ?_));refine ah.fJ 5 2 g rfl av ?_;refine aQ kN (fun(z:(Sl Z6))=>[(5,.a (.d (Sl.d 2 Z6.c (some g) z)))]) (fun z=>(H.set g (some (.tok 2 z.l.length)))) (fun z=>(some z)=some r) ?_ ?_
 ·intro aA J;refine ag (S As (nil ?_));refine block ?_;obtain⟨m,K,b⟩:=b_ b;refine bA (TA 2 (TA 3 kN)) (fun(z:(Sl Z6)×Nat)=>[(5,.a (.d (Sl.d 2 Z6.c (some g) z.1))),(6,.a (.d (.int .i64 ((z.2:Nat):Int))))]) (fun z=>(H.set g (some (.tok 2 z.1.l.length)))) (fun z=>i.aB.l.length-z.2) (fun z=>Option.bind (lB k i (i.aB.l.drop z.2) z.2 z.1) m=some r) ((Sl.nil:Sl Z6),0) b wA ?_
  rintro ⟨x,j⟩ b aC L;try dsimp only at b
  refine ay fun M y=>?_;refine ag (S Mv (S Fv (S Ld ?_)));refine sLen (f:=Z7.c) (s:=i.aB) (TK rfl) rfl rfl rfl rfl fun aD=>?_;refine S BI (nil ?_);refine ah.bN (fun l=>Option.bind (lB k i l j x) m=some r) b rfl (fun aE B p b=>?_) (fun p b=>?_)
  ·rw [lB] at b;try dsimp only at p
   have aF:=oD p;refine sk y ?_;clear y M;refine aQ (TA 2 (TA 3 (TA 6 kN))) (fun(z:(Sl Z6))=>[(5,.a (.d (Sl.d 2 Z6.c (some g) z)))]) (fun z=>(H.set g (some (.tok 2 z.l.length)))) (fun z=>Option.bind (lB k i (i.aB.l.drop (j+1)) (j+1) z) m=some r) ?_ ?_
   ·intro aG N;refine block ?_;refine ag (S Fv (S Ld (S Mv ?_)));obtain⟨O,P,b⟩:=vO B b;refine S (ix Z7.c j P) (S Ld ?_);refine Sl ?_;refine Sf ?_;refine nil ?_;refine bu 7 _ rfl (KA 2 (KA 3 (KA 5 (KA 6 aS.nil)))) ?_;refine ag (S Fv (S Ld ?_));obtain⟨aI,R,b⟩:=qO rfl b;refine s0 (cL rfl rfl R) rfl ?_;refine S Fv (S Ld ?_);obtain⟨U,W,b⟩:=qO rfl b;refine s0 (cL rfl rfl W) rfl ?_
    refine S As (nil ?_);refine ah.cr (Sd Fv (Sd Ld (Sd Mv ?_)));obtain⟨aJ,X,b⟩:=vO (Q.qP (by omega)) b;refine au.s0 (mm (f:=Z7.c) (l:=none) (r:=(some ((j:Nat):Int))) (TK rfl) rfl (TK rfl) rfl rfl trivial rfl X) rfl ?_;refine Sd BU (Sd Fv (Sd Ld ?_));obtain⟨aK,Y,b⟩:=vO (F4 _ _) b;refine cM rfl rfl (F5 Y) ?_;refine Sd Mv (Sd EX (Sd EX ?_));refine au.sB (TK rfl) rfl rfl ?_ (by repeat (first|exact bL.nil|apply bL.cons))
    refine au.dB (eG (TK rfl) rfl rfl rfl rfl rfl) ?_;refine Sd As ?_;refine au.nil (by decide +kernel) ?_;refine bu 9 _ rfl (KA 2 (KA 3 (KA 5 (KA 6 (KA 7 (KA 8 (KA 10 aS.nil))))))) ?_;refine ag (S Mv (S Fv (S Ld (S Mv (S Mv ?_)))));obtain⟨aL,Z,b⟩:=qO (xx _ _ _ _) b;refine Sc rfl rfl (Av Z) ?_;obtain⟨C,aa,b⟩:=qO rfl b;refine SH (am Z6.c (TK rfl) rfl (TK rfl) (TK rfl) aa) ?_
    refine hq (H.set g (some (.tok 2 C.l.length))) ?_;refine S As (nil ?_);refine ag (S Ld (S Fv (S Fv (S Ld ?_))));obtain⟨aM,ab,b⟩:=vO (lc _ _) b;refine Sc rfl rfl (lg ab) ?_;refine S Mv (S EX (S EX ?_));refine Sl ?_;refine Sf ?_;refine S As (nil ?_);refine bu 11 _ rfl (KA 2 (KA 3 (KA 5 (KA 6 (KA 7 (KA 8 (KA 12 aS.nil))))))) ?_;refine aQ (TA 2 (TA 3 (TA 6 (TA 7 (TA 8 kN))))) (fun(z:(Sl Z6))=>[(5,.a (.d (Sl.d 2 Z6.c (some g) z)))]) (fun z=>(H.set g (some (.tok 2 z.l.length)))) (fun z=>Option.bind ((bM U ([40]:Bs)).bind fun E=>(nI k O.aH E ([41]:Bs)).bind fun F=>(aW 24 z F).bind fun o=>on (o) fun q=>lB k i (i.aB.l.drop (j+1)) (j+1) q) m=some r) ?_ ?_
    ·intro aN t;refine ag (S Ld (S Fv (S Fv (S Ld ?_))));obtain⟨aO,ad,b⟩:=vO (FZ _ _) b;refine Sc rfl rfl (F1 ad) ?_;refine S NB (nil ?_);obtain⟨aP,u,b⟩:=dI b;refine cO b (fun ae b=>?_) (fun ae b=>?_)
     ·refine region ?_;refine S Mv (S Mv (S BU (S BV ?_)));obtain⟨G,af,b⟩:=qO rfl b;refine SH (am Z6.c (TK rfl) rfl (TK rfl) (TK rfl) af) ?_;refine hq (H.set g (some (.tok 2 G.l.length))) ?_;refine S As (nil ?_);have b:=ku u b;exact t _ G wA b
     refine ag (S Fv (S Fv (S Ld ?_)));obtain⟨aR,al,b⟩:=vO (s4 _) b;refine Sc rfl rfl (s5 al) ?_;refine S NB (S Mv (G0 Mv (S PA (S Mv (G0 Fv ?_)))));refine G1 77 rfl Ld ?_;refine G1 78 rfl BI ?_;refine S PA (nil ?_);refine cO b (fun an b=>?_) (fun an b=>?_)
     ·refine region ?_;refine S Mv (S Mv (S BU (S BV ?_)));obtain⟨I,ao,b⟩:=qO rfl b;refine SH (am Z6.c (TK rfl) rfl (TK rfl) (TK rfl) ao) ?_;refine hq (H.set g (some (.tok 2 I.l.length))) ?_;refine S As (nil ?_);have b:=ku u b;exact t _ I wA b
     refine ah.skip ?_;have b:=ku u b;exact t _ C wA b
    rintro aT b;try dsimp only at b
    refine region ?_;refine S Mv (S Ld (S Fv (S Ld (S Mv ?_))));obtain⟨E,ap,b⟩:=qO rfl b;refine s0 (cL rfl rfl ap) rfl ?_;obtain⟨F,aq,b⟩:=qO (F2 _ _ _ _) b;refine Sc rfl rfl (F3 aq) ?_;obtain⟨o,aw,b⟩:=qO rfl b;refine SH (am Z6.c (TK rfl) rfl (TK rfl) (TK rfl) aw) ?_;refine hq (H.set g (some (.tok 2 o.l.length))) ?_;refine S As (nil ?_);obtain⟨aU,ax,b⟩:=gH b
    have b:=ku ax b;exact N _ o wA b
   rintro q b;try dsimp only at b
   refine region ?_;refine S Mv ?_;refine SI ?_;refine S As (nil ?_);exact L _ (q,(j+1)) wA b (dl B)
  rw [lB] at b;have b:=ku K b;refine ah.exit ?_;obtain⟨aV,az,b⟩:=bW b;have b:=ku az b;exact J _ x wA b
 rintro aX b;try dsimp only at b
 refine ag (S Mv (S As (nil ?_)));refine ah.dU 4 rfl ?_;refine ah.ret ?_;repeat (first|refine bF ?_|refine bG ?_)
 obtain rfl:=oJ b;refine bn.bH H rfl ⟨rfl,rfl⟩ ?_
 first|exact ai.cm w|(simp only [ai.set_set]; exact ai.cm w)
def nK (i:aj) (g:Z9):Nat->Nat->Bool->Option (Bool)
 | 0,f,b=>some b
 | j+1,f,b=>aR (!b) (i.aG.l[f]?) Z9.zero fun k=>nK i g (j) (f+1) (b||((k.aa==g.aa)))
def j3 (i:aj):List Z9->Nat->(Sl Z6)->Option ((Sl Z6))
 | [],f,g=>some g
 | j::k,f,g=>on (j) fun b=>Option.bind (nK i b f 0 false) fun l=>on (l) fun m=>(bM i.aa ([46]:Bs)).bind fun o=>(bM o b.aa).bind fun p=>(lq b.aa ((((b.aa==([116,114,117,101]:Bs)))||((b.aa==([102,97,108,115,101]:Bs))))||((b.aa==([110,117,108,108]:Bs)))) m p).bind fun q=>(aW 24 g q).bind fun r=>on (r) fun s=>j3 i (k) (f+1) s
def tq (b:aj):Option (Sl Z6):=Option.bind (j3 b b.aG.l 0 (Sl.nil:Sl Z6)) fun f=>on (f) fun g=>some g
def AH (b:aj):Option (Sl Z6):=tq b
theorem NX (a0:aj):AH a0=tq a0:=rfl
theorem NY {g:aj}{r:Sl Z6}(b:AH g=some r) (H:ai) :AC Tryz.prog 51 [.agg (aj.c g)] H fun v h'=>v=.a (.d (Sl.d 2 Z6.c none r))/\h'=H:=by
 unfold AH tq at b;refine AC.oW 58 [.tmp 2] Tryz.call51 Tryz.func51 ?_;refine ah.tok 2 fun i B=>?_;refine ag (S BX ?_);refine s0 (dR (k':=2) rfl) rfl ?_;refine nil ?_;refine ag (S As (nil ?_));refine ah.fJ 3 2 i rfl av ?_;refine aQ kN (fun(z:(Sl Z6))=>[(3,.a (.d (Sl.d 2 Z6.c (some i) z)))]) (fun z=>(H.set i (some (.tok 2 z.l.length)))) (fun z=>(some z)=some r) ?_ ?_
 ·intro au M;refine ag (S As (nil ?_));refine block ?_;obtain⟨p,N,b⟩:=b_ b;refine bA (TA 1 kN) (fun(z:(Sl Z6)×Nat)=>[(3,.a (.d (Sl.d 2 Z6.c (some i) z.1))),(4,.a (.d (.int .i64 ((z.2:Nat):Int))))]) (fun z=>(H.set i (some (.tok 2 z.1.l.length)))) (fun z=>g.aG.l.length-z.2) (fun z=>Option.bind (j3 g (g.aG.l.drop z.2) z.2 z.1) p=some r) ((Sl.nil:Sl Z6),0) b wA ?_
  rintro ⟨o,j⟩ b aw O;try dsimp only at b
  refine ay fun P C=>?_;refine ag (S Mv (S Fv (S Ld ?_)));refine sLen (f:=Z9.c) (s:=g.aG) (TK rfl) rfl rfl rfl rfl fun ax=>?_;refine S BI (nil ?_);refine ah.bN (fun l=>Option.bind (j3 g l j o) p=some r) b rfl (fun az E t b=>?_) (fun t b=>?_)
  ·rw [j3] at b;try dsimp only at t
   have aA:=oD t;refine sk C ?_;clear C P;refine aQ (TA 1 (TA 4 kN)) (fun(z:(Sl Z6))=>[(3,.a (.d (Sl.d 2 Z6.c (some i) z)))]) (fun z=>(H.set i (some (.tok 2 z.l.length)))) (fun z=>Option.bind (j3 g (g.aG.l.drop (j+1)) (j+1) z) p=some r) ?_ ?_
   ·intro aB Q;refine block ?_;refine ag (S Fv (S Ld (S Mv ?_)));obtain⟨m,R,b⟩:=vO E b;refine S (ix Z9.c j R) (S Fv (S Ld (S As (nil ?_))));refine ag (S As (nil ?_));refine aQ (TA 1 (TA 3 (TA 4 (TA 5 kN)))) (fun(z:Bool)=>[(6,.a (.d (.bool z)))]) (fun z=>(H.set i (some (.tok 2 o.l.length)))) (fun z=>Option.bind ((bM g.aa ([46]:Bs)).bind fun F=>(bM F m.aa).bind fun G=>(lq m.aa ((((m.aa==([116,114,117,101]:Bs)))||((m.aa==([102,97,108,115,101]:Bs))))||((m.aa==([110,117,108,108]:Bs)))) z G).bind fun I=>(aW 24 o I).bind fun q=>on (q) fun u=>j3 g (g.aG.l.drop (j+1)) (j+1) u) p=some r) ?_ ?_
    ·intro aC U;refine ag (S As (nil ?_));refine block ?_;obtain⟨J,W,b⟩:=dI b;refine bA (TA 1 (TA 3 (TA 4 (TA 5 kN)))) (fun(z:Bool×Nat)=>[(6,.a (.d (.bool z.1))),(7,.a (.d (.int .i64 ((z.2:Nat):Int))))]) (fun z=>(H.set i (some (.tok 2 o.l.length)))) (fun z=>j-z.2) (fun z=>Option.bind (nK g m (j-z.2) z.2 z.1) J=some r) (false,0) b wA ?_;rintro ⟨w,x⟩ b aD X
     try dsimp only at b
     refine ay fun Y K=>?_;refine ag (S Mv (S Mv (S BI (nil ?_))));refine ah.Fw (fun l=>Option.bind (nK g m l x w) J=some r) b rfl (fun Z y b=>?_) (fun y b=>?_)
     ·rw [nK] at b;try dsimp only at y
      have aE:=oD y;refine sk K ?_;clear K Y;refine ay fun ab L=>?_;refine block ?_;refine region ?_;refine S Mv (S Mv (G0 Fv ?_));refine G1 28 rfl Ld ?_;refine G0 Mv ?_;obtain⟨ad,ae,b⟩:=eS rfl b;refine gC rfl rfl (fun hC=>aK (k:=29) rfl (aK (k:=30) rfl (ee (f:=Z9.c) (n:=x) (TK rfl) rfl (TK rfl) rfl rfl rfl (ae hC)))) rfl ?_;refine G1 31 rfl Fv ?_
      refine G1 32 rfl Ld ?_;refine G0 Mv ?_;refine G2 33 34 rfl rfl BS ?_;refine S PO (S As (nil ?_));refine L _ ?_;clear L ab;refine region ?_;refine S Mv ?_;refine SI ?_;refine S As (nil ?_);exact X _ ((w||((ad.aa==m.aa))),(x+1)) wA b (dn Z)
     rw [nK] at b;have b:=ku W b;refine ah.exit ?_;obtain⟨aF,af,b⟩:=gH b;have b:=ku af b;exact U _ w wA b
    rintro aH b;try dsimp only at b
    refine region ?_;refine S Mv (S Mv (S Mv (S BS (S Mv (G0 Mv ?_)))));refine G1 42 rfl BS ?_;refine S PO (S Mv (G0 Mv ?_));refine G1 46 rfl BS ?_;refine S PO (S Mv (S Fv (S Ld ?_)));obtain⟨F,ak,b⟩:=qO rfl b;refine s0 (cL rfl rfl ak) rfl ?_;refine S Mv ?_;obtain⟨G,al,b⟩:=qO rfl b;refine s0 (cL rfl rfl al) rfl ?_;obtain⟨I,an,b⟩:=qO (xx _ _ _ _) b;refine Sc rfl rfl (Av an) ?_
    obtain⟨q,ao,b⟩:=qO rfl b;refine SH (am Z6.c (TK rfl) rfl (TK rfl) (TK rfl) ao) ?_;refine hq (H.set i (some (.tok 2 q.l.length))) ?_;refine S As (nil ?_);obtain⟨aI,ap,b⟩:=gH b;have b:=ku ap b;exact Q _ q wA b
   rintro u b;try dsimp only at b
   refine region ?_;refine S Mv ?_;refine SI ?_;refine S As (nil ?_);exact O _ (u,(j+1)) wA b (dl E)
  rw [j3] at b;have b:=ku N b;refine ah.exit ?_;obtain⟨aJ,aq,b⟩:=bW b;have b:=ku aq b;exact M _ o wA b
 rintro aL b;try dsimp only at b
 refine ag (S Mv (S As (nil ?_)));refine ah.dU 2 rfl ?_;refine ah.ret ?_;repeat (first|refine bF ?_|refine bG ?_)
 obtain rfl:=oJ b;refine bn.bH H rfl ⟨rfl,rfl⟩ ?_
 first|exact ai.cm B|(simp only [ai.set_set]; exact ai.cm B)
def mv (g:ak):List aj->Nat->(Sl Z6)->Option ((Sl Z6))
 | [],i,j=>some j
 | k::l,i,j=>on (k) fun b=>(xD g ((i:Nat):Int)).bind fun m=>(aW 24 j m).bind fun f=>on (bif (decide (b.an=(1:Int))) then((decide (b.an=(1:Int)))) else((decide (b.an=(2:Int))))) fun o=>Option.bind (bif o then((tj g b).bind fun p=>(aW 24 f p).bind fun q=>some q) else(bif (decide (b.an=(4:Int))) then((tq b).bind fun r=>(aW 24 f r).bind fun s=>some s) else(bif (decide (b.an=(5:Int))) then((bM b.aa ([46]:Bs)).bind fun t=>(nI g b.aL t ([]:Bs)).bind fun u=>(aW 24 f u).bind fun v=>some v) else(some f)))) fun w=>mv g (l) (i+1) w
def tr (b:ak) (g:Bool):Option (Sl Z6):=Option.bind (mv b b.aq.l 0 (Sl.nil:Sl Z6)) fun i=>on (i) fun f=>on (eA b ([81,117,101,114,121]:Bs)) fun j=>Option.bind (bif (g&&(!j.2)) then((aW 24 f (⟨false,[(Z6.mk (30:Int) ([81,117,101,114,121]:Bs))]⟩:Sl Z6)).bind fun k=>some k) else(some f)) fun m=>some m
def AI (f:ak) (b:Bool):Option (Sl Z6):=tr f b
theorem NZ (a0:ak) (b:Bool):AI a0 b=tr a0 b:=rfl
theorem N0 {i:ak}{p:Bool}{r:Sl Z6}(b:AI i p=some r) (H:ai){g:Nat}(aE:H g=some (.tok 2 0)):AC Tryz.prog 27 [.agg (ak.c i),.d (.bool p)] H fun v h'=>v=.a (.d (Sl.d 2 Z6.c (some g) r))/\h'=H.set g (some (.tok 2 r.l.length)):=by
 unfold AI tr at b;refine AC.oW 69 [.tmp 4] Tryz.call27 Tryz.func27 ?_;refine ah.dx (h':=(H.set g (some (.tok 2 0)))) (by funext n_; simp only [ai.set]; (repeat' split)<;>simp_all) ?_;refine ag (S BX (S As (nil ?_)));refine ag (S As (nil ?_));refine ah.fJ 5 2 g rfl av ?_;refine aQ (TA 1 (TA 2 kN)) (fun(z:(Sl Z6))=>[(5,.a (.d (Sl.d 2 Z6.c (some g) z)))]) (fun z=>(H.set g (some (.tok 2 z.l.length)))) (fun z=>(on (eA i ([81,117,101,114,121]:Bs)) fun w=>Option.bind (bif (p&&(!w.2)) then((aW 24 z (⟨false,[(Z6.mk (30:Int) ([81,117,101,114,121]:Bs))]⟩:Sl Z6)).bind fun k=>some k) else(some z)) fun x=>some x)=some r) ?_ ?_
 ·intro aF L;refine ag (S As (nil ?_));refine block ?_;obtain⟨q,M,b⟩:=b_ b;refine bA (TA 1 (TA 2 kN)) (fun(z:(Sl Z6)×Nat)=>[(5,.a (.d (Sl.d 2 Z6.c (some g) z.1))),(6,.a (.d (.int .i64 ((z.2:Nat):Int))))]) (fun z=>(H.set g (some (.tok 2 z.1.l.length)))) (fun z=>i.aq.l.length-z.2) (fun z=>Option.bind (mv i (i.aq.l.drop z.2) z.2 z.1) q=some r) ((Sl.nil:Sl Z6),0) b wA ?_
  rintro ⟨y,j⟩ b aG N;try dsimp only at b
  refine ay fun O B=>?_;refine ag (S Mv (S Fv (S Ld ?_)));refine sLen (f:=aj.c) (s:=i.aq) (TK rfl) rfl rfl rfl rfl fun aH=>?_;refine S BI (nil ?_);refine ah.bN (fun l=>Option.bind (mv i l j y) q=some r) b rfl (fun aI C t b=>?_) (fun t b=>?_)
  ·rw [mv] at b;try dsimp only at t
   have aJ:=oD t;refine sk B ?_;clear B O;refine aQ (TA 1 (TA 2 (TA 6 kN))) (fun(z:(Sl Z6))=>[(5,.a (.d (Sl.d 2 Z6.c (some g) z)))]) (fun z=>(H.set g (some (.tok 2 z.l.length)))) (fun z=>Option.bind (mv i (i.aq.l.drop (j+1)) (j+1) z) q=some r) ?_ ?_
   ·intro aK m;refine block ?_;refine ag (S Fv (S Ld (S Mv ?_)));obtain⟨E,P,b⟩:=vO C b;refine S (ix aj.c j P) (S Ld ?_);refine Sl ?_;refine Sf ?_;refine nil ?_;refine bu 7 _ rfl (KA 1 (KA 2 (KA 5 (KA 6 aS.nil)))) ?_;refine ag (S Mv (S Ld (S Mv ?_)));obtain⟨aL,Q,b⟩:=qO (NS _ _) b;refine Sc rfl rfl (NR Q) ?_;obtain⟨u,R,b⟩:=qO rfl b;refine SH (am Z6.c (TK rfl) rfl (TK rfl) (TK rfl) R) ?_
    refine hq (H.set g (some (.tok 2 u.l.length))) ?_;refine S As (nil ?_);refine ag (S Fv (S Ld (nil ?_)));refine block ?_;obtain⟨U,W,b⟩:=gH b;refine aQ (TA 1 (TA 2 (TA 5 (TA 6 (TA 7 (TA 28 kN)))))) (fun(z:Bool)=>[(29,.a (.d (.bool z)))]) (fun z=>(H.set g (some (.tok 2 u.l.length)))) (fun z=>U z=some r) ?_ ?_
    ·intro aM F;refine ag (S BI (S As (nil ?_)));refine cP b (fun X b=>?_) (fun X b=>?_)
     ·refine ah.skip ?_;exact F _ (decide (E.an=(1:Int))) wA b
     refine region ?_;refine S BI (S As (nil ?_));exact F _ (decide (E.an=(2:Int))) wA b
    rintro aN b;try dsimp only at b
    have b:=ku W b;obtain⟨aO,o,b⟩:=dI b;refine cO b (fun Y b=>?_) (fun Y b=>?_)
    ·refine region ?_;refine S Mv (S Ld (S Ld ?_));obtain⟨aP,Z,b⟩:=qO (NV _ _) b;refine Sc rfl rfl (NW Z) ?_;obtain⟨G,aa,b⟩:=qO rfl b;refine SH (am Z6.c (TK rfl) rfl (TK rfl) (TK rfl) aa) ?_;refine hq (H.set g (some (.tok 2 G.l.length))) ?_;refine S As (nil ?_);have b:=ku o b;exact m _ G wA b
    refine ag (S BI (S As (nil ?_)));refine cO b (fun ab b=>?_) (fun ab b=>?_)
    ·refine region ?_;refine S Mv (S Ld ?_);obtain⟨aR,ad,b⟩:=qO (NX _) b;refine Sc rfl rfl (NY ad) ?_;obtain⟨I,ae,b⟩:=qO rfl b;refine SH (am Z6.c (TK rfl) rfl (TK rfl) (TK rfl) ae) ?_;refine hq (H.set g (some (.tok 2 I.l.length))) ?_;refine S As (nil ?_);have b:=ku o b;exact m _ I wA b
    refine ag (S BI (S As (nil ?_)));refine cO b (fun af b=>?_) (fun af b=>?_)
    ·refine region ?_;refine S Mv (S Ld (S Fv (S Ld (S Fv (S Ld ?_)))));obtain⟨aT,al,b⟩:=qO rfl b;refine s0 (cL rfl rfl al) rfl ?_;obtain⟨aU,ao,b⟩:=qO (F2 _ _ _ _) b;refine Sc rfl rfl (F3 ao) ?_;obtain⟨J,ap,b⟩:=qO rfl b;refine SH (am Z6.c (TK rfl) rfl (TK rfl) (TK rfl) ap) ?_;refine hq (H.set g (some (.tok 2 J.l.length))) ?_;refine S As (nil ?_);have b:=ku o b
     exact m _ J wA b
    refine ah.skip ?_;have b:=ku o b;exact m _ u wA b
   rintro au b;try dsimp only at b
   refine region ?_;refine S Mv ?_;refine SI ?_;refine S As (nil ?_);exact N _ (au,(j+1)) wA b (dl C)
  rw [mv] at b;have b:=ku M b;refine ah.exit ?_;obtain⟨aV,aw,b⟩:=bW b;have b:=ku aw b;exact L _ y wA b
 rintro ax b;try dsimp only at b
 refine ag (S Ld ?_);obtain⟨w,az,b⟩:=vT (lc _ _) b;refine Sc rfl rfl (lg az) ?_;refine S Mv (S EX (S EX ?_));refine Sl ?_;refine Sf ?_;refine S As (nil ?_);refine bu 8 _ rfl (KA 1 (KA 5 (KA 9 aS.nil))) ?_;obtain⟨aA,aB,b⟩:=b_ b;refine aQ kN (fun(z:(Sl Z6))=>[(5,.a (.d (Sl.d 2 Z6.c (some g) z)))]) (fun z=>(H.set g (some (.tok 2 z.l.length)))) (fun z=>aA z=some r) ?_ ?_
 ·intro aX K;refine ag (S Mv (S Mv (G0 Mv ?_)));refine G1 61 rfl NB ?_;refine S PA (nil ?_);refine cO b (fun aC b=>?_) (fun aC b=>?_)
  ·refine region ?_;refine S Mv (S BU (S BV ?_));obtain⟨k,aD,b⟩:=qO rfl b;refine SH (am Z6.c (TK rfl) rfl (TK rfl) (TK rfl) aD) ?_;refine hq (H.set g (some (.tok 2 k.l.length))) ?_;refine S As (nil ?_);exact K _ k wA b
  refine ah.skip ?_;exact K _ ax wA b
 rintro x b;try dsimp only at b
 have b:=ku aB b;refine ag (S Mv (S As (nil ?_)));exact rt b
def qS (i:ak) (f:Bs) (j:Int):Int:=on (eA i f) fun b=>on (bif (!b.2) then gJ f else false) fun g=>bif ((!b.2)&&(!g)) then((8:Int)) else(bif (!decide (b.1.an=j)) then((9:Int)) else((0:Int)))
def AJ (f:ak) (b:Bs) (g:Int):Option Int:=some (qS f b g)
theorem F6 (a0:ak) (b:Bs) (a2:Int):AJ a0 b a2=some (qS a0 b a2):=rfl
theorem F7 {j:ak}{f:Bs}{k r:Int}(b:AJ j f k=some r) (H:ai) :AC Tryz.prog 89 [.agg (ak.c j),.d (.str f),.d (.int .i64 k)] H fun v h'=>v=.a (.d (.int .i64 r))/\h'=H:=by
 unfold AJ qS at b;refine AC.oW 26 [.tmp 6] Tryz.call89 Tryz.func89 ?_;refine ag (S BX (S As (nil ?_)));refine ag (S Ld (S Mv ?_));obtain⟨t,l,b⟩:=vP (lc _ _) b;refine Sc rfl rfl (lg l) ?_;refine S Mv (S EX (S EX ?_));refine Sl ?_;refine Sf ?_;refine S As (nil ?_);refine bu 7 _ rfl (KA 1 (KA 2 (KA 8 aS.nil))) ?_;refine ay fun m g=>?_;refine ag (S Mv (S NB (S Mv (G0 Mv ?_))))
 obtain⟨u,o,b⟩:=iu (fun _=>(s4 _)) b;refine dz 18 rfl rfl rfl rfl rfl (fun hC=>s5 (o hC)) ?_;refine G1 19 rfl NB ?_;refine S PA (nil ?_);refine cP b (fun p b=>?_) (fun p b=>?_)
 ·refine ag (S As (nil ?_));exact rt b
 refine sk g ?_;clear g m;refine ay fun q i=>?_;refine ag (S Fv (S Ld (S Mv (S BI (nil ?_)))));refine cP b (fun s b=>?_) (fun s b=>?_)
 ·refine ag (S As (nil ?_));exact rt b
 refine sk i ?_;clear i q;refine ag (S As (nil ?_));exact rt b
def nL (b:Bs):List Bs->Unit ⊕ Bool
 | []=>Sum.inl ()
 | f::g=>on (f) fun i=>bif ((i==b)) then(Sum.inr true) else(nL b (g) )
def mw (i:(Sl Bs)) (b:Bs):Bool:=on (nL b i.l ) fun f=>match f with|Sum.inl _=>(on (()) fun _=>false)|Sum.inr g=>(g)
def AK (f:(Sl Bs)) (b:Bs):Option Bool:=some (mw f b)
theorem AL (a0:(Sl Bs)) (b:Bs):AK a0 b=some (mw a0 b):=rfl
theorem AM {g:Sl Bs}{i:Bs}{w0:Option Nat}{r:Bool}(b:AK g i=some r) (H:ai) :AC Tryz.prog 90 [.d (Sl.d 1 aO w0 g),.d (.str i)] H fun v h'=>v=.a (.d (.bool r))/\h'=H:=by
 unfold AK mw at b;refine AC.oW 18 [.tmp 4] Tryz.call90 Tryz.func90 ?_;refine ag (S As (nil ?_));refine aQ kN (fun(z:Unit)=>[]) (fun z=>H) (fun z=>some (false)=some r) ?_ ?_
 ·intro F u;refine ag (S As (nil ?_));refine block ?_;obtain⟨k,m,b⟩:=eL b;refine bA (TA 0 (TA 1 kN)) (fun(z:Nat)=>[(5,.a (.d (.int .i64 ((z:Nat):Int))))]) (fun z=>H) (fun z=>g.l.length-z) (fun z=>k (nL i (g.l.drop z) )=some r) 0 b wA ?_;rintro o b G w;try dsimp only at b
  refine ay fun x p=>?_;refine ag (S Mv (S Mv ?_));refine sLen (f:=aO) (s:=g) (TK rfl) rfl rfl rfl rfl fun I=>?_;refine S BI (nil ?_);refine ah.bN (fun l=>k (nL i l )=some r) b rfl (fun J q j b=>?_) (fun j b=>?_)
  ·rw [nL] at b;try dsimp only at j
   have K:=oD j;refine sk p ?_;clear p x;refine ay fun y t=>?_;refine block ?_;refine ag (S Mv (S Mv ?_));obtain⟨L,B,b⟩:=vP q b;refine S (ix aO o B) (S Ld (S Mv (S BS (nil ?_))));refine cP b (fun C b=>?_) (fun C b=>?_)
   ·refine ag (S As (nil ?_));refine ah.ret ?_;repeat (first|refine bF ?_|refine bG ?_)
    have b:=ku m b;obtain rfl:=oJ b;refine bn.bH H rfl ⟨rfl,rfl⟩ ?_;exact(fun _ _ h=>h)
   refine sk t ?_;clear t y;refine region ?_;refine S Mv ?_;refine SI ?_;refine S As (nil ?_);exact w _ (o+1) wA b (dl q)
  rw [nL] at b;have b:=ku m b;try dsimp only at b
  refine ah.exit ?_;obtain⟨M,E,b⟩:=eL b;have b:=ku E b;exact u _ () wA b
 rintro _ b;try dsimp only at b
 refine ag (S As (nil ?_));exact rt b
def mz (f:(Sl Int)):List Int->Nat->Option (Unit ⊕ Bool)
 | [],b=>some (Sum.inl ())
 | g::i,b=>on (g) fun j=>(f.l[b]?).bind fun k=>bif (!decide (j=k)) then(some (Sum.inr false)) else(mz f (i) (b+1) )
def qU (f:(Sl Int)) (b:(Sl Int)):Option Bool:=bif (!decide (((f.l.length:Nat):Int)=((b.l.length:Nat):Int))) then(some false) else(Option.bind (mz b f.l 0 ) fun g=>match g with|Sum.inl _=>(on (()) fun _=>some true)|Sum.inr i=>(some i))
def AN (f:(Sl Int)) (b:(Sl Int)):Option Bool:=qU f b
theorem N1 (a0:(Sl Int)) (b:(Sl Int)):AN a0 b=qU a0 b:=rfl
theorem N2 {g i:Sl Int}{w0 w:Option Nat}{r:Bool}(b:AN g i=some r) (H:ai) :AC Tryz.prog 80 [.d (Sl.d 1 (bC .i64) w0 g),.d (Sl.d 1 (bC .i64) w i)] H fun v h'=>v=.a (.d (.bool r))/\h'=H:=by
 unfold AN qU at b;refine AC.oW 26 [.tmp 4] Tryz.call80 Tryz.func80 ?_;refine ag (S As (nil ?_));refine ay fun x m=>?_;refine ag (S Mv ?_);refine sLen (f:=(bC .i64)) (s:=g) (TK rfl) rfl rfl rfl rfl fun L=>?_;refine S Mv ?_;refine sLen (f:=(bC .i64)) (s:=i) (TK rfl) rfl rfl rfl rfl fun M=>?_;refine S BI (nil ?_);refine cE b (fun y b=>?_) (fun y b=>?_)
 ·refine ag (S As (nil ?_));exact rt b
 refine sk m ?_;clear m x;refine aQ kN (fun(z:Unit)=>[]) (fun z=>H) (fun z=>(some true)=some r) ?_ ?_
 ·intro N B;refine ag (S As (nil ?_));refine block ?_;obtain⟨o,p,b⟩:=b_ b;refine bA (TA 0 (TA 1 kN)) (fun(z:Nat)=>[(5,.a (.d (.int .i64 ((z:Nat):Int))))]) (fun z=>H) (fun z=>g.l.length-z) (fun z=>Option.bind (mz i (g.l.drop z) z ) o=some r) 0 b wA ?_;rintro j b O C;try dsimp only at b
  refine ay fun E q=>?_;refine ag (S Mv (S Mv ?_));refine sLen (f:=(bC .i64)) (s:=g) (TK rfl) rfl rfl rfl rfl fun P=>?_;refine S BI (nil ?_);refine ah.bN (fun l=>Option.bind (mz i l j ) o=some r) b rfl (fun Q t k b=>?_) (fun k b=>?_)
  ·rw [mz] at b;try dsimp only at k
   have R:=oD k;refine sk q ?_;clear q E;refine ay fun F u=>?_;refine block ?_;refine ah.cr (Sd Mv (Sd Mv ?_));obtain⟨U,G,b⟩:=vO t b;refine Sd (ix (bC .i64) j G) ?_;refine Sd Ld (Sd Mv (Sd Mv ?_));obtain⟨W,I,b⟩:=qO rfl b;refine Sd (ix (bC .i64) j I) ?_;refine Sd Ld (Sd BI ?_);refine au.nil (by decide +kernel) ?_;refine cO b (fun J b=>?_) (fun J b=>?_)
   ·refine ag (S As (nil ?_));refine ah.ret ?_;repeat (first|refine bF ?_|refine bG ?_)
    have b:=ku p b;obtain rfl:=oJ b;refine bn.bH H rfl ⟨rfl,rfl⟩ ?_;exact(fun _ _ h=>h)
   refine sk u ?_;clear u F;refine region ?_;refine S Mv ?_;refine SI ?_;refine S As (nil ?_);exact C _ (j+1) wA b (dl t)
  rw [mz] at b;have b:=ku p b;try dsimp only at b
  refine ah.exit ?_;obtain⟨X,K,b⟩:=bW b;have b:=ku K b;exact B _ () wA b
 rintro _ b;try dsimp only at b
 refine ag (S As (nil ?_));exact rt b
def mA (f:az) (b:az):Option Bool:=aR (((f.aa==b.aa))) (qU f.aF b.aF) false fun g=>some (((f.aa==b.aa))&&g)
def AO (f:az) (b:az):Option Bool:=mA f b
theorem AP (a0:az) (b:az):AO a0 b=mA a0 b:=rfl
theorem AR {g f:az}{r:Bool}(b:AO g f=some r) (H:ai) :AC Tryz.prog 46 [.agg (az.c g),.agg (az.c f)] H fun v h'=>v=.a (.d (.bool r))/\h'=H:=by
 unfold AO mA at b;refine AC.oW 17 [.tmp 4] Tryz.call46 Tryz.func46 ?_;refine ag (S BX (S BX (S As (nil ?_))));refine ag (S Fv (S Ld (S Fv (S Ld (S BS (S Mv (G0 Fv ?_)))))));refine G1 11 rfl Ld ?_;refine G0 Fv ?_;refine G1 13 rfl Ld ?_;obtain⟨j,i,b⟩:=dQ (N1 _ _) b;refine fw 12 14 rfl rfl rfl rfl rfl rfl (fun hC=>N2 (i hC)) ?_;refine S PA (S As (nil ?_));exact rt b
end Go.Proofs
