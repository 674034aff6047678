import Derived.Test.YtbbkbkhdciklaaaGreatDoorE3
import Derived.Test.YtbbkbkhdciklaaaGreatDoorTab
set_option maxRecDepth 100000
set_option maxHeartbeats 2000000
set_option linter.unusedVariables false
set_option linter.unusedSimpArgs false
namespace Go.Proofs
open Go Go.Ab
inductive af where
 | mk (aj:Int) (bL:Int) (bK:Bs) (Zl:Bool) (Zm:List af) (aX:(Sl Bs))
def af.aj:af->Int|.mk x _ _ _ _ _=>x
def af.bL:af->Int|.mk _ x _ _ _ _=>x
def af.bK:af->Bs|.mk _ _ x _ _ _=>x
def af.aB:af->(Sl af)|.mk _ _ _ nl l _=>⟨nl,l⟩
def af.aX:af->(Sl Bs)|.mk _ _ _ _ _ x=>x
noncomputable def af.D5:af->D:=@af.rec (fun _=>D) (fun _=>List (List D)) (fun _ _ _ nl _ _ b=>.slice 5 none nl b) [] (fun v _ b f=>((bM .i64) v.aj++(bM .i64) v.bL++aW v.bK++[b]++(fun s=>[Sl.d 1 aW none s]) v.aX)::f)
noncomputable def af.c (v:af):List D:=(bM .i64) v.aj++(bM .i64) v.bL++aW v.bK++[v.D5]++(fun s=>[Sl.d 1 aW none s]) v.aX
theorem af.D6 (v:af):v.D5=Sl.d 5 af.c none v.aB:=by
 cases v with
 | mk f g j nl l k =>
  show D.slice 5 none nl _=D.slice 5 none nl (l.map af.c)
  congr 1
  induction l with
  | nil=>rfl
  | cons a r b=>exact congrArg (af.c a::·) b
theorem af.dX (v:af):some (A.d (v.D5))=some (A.d (Sl.d 5 af.c none v.aB)):=congrArg (fun x=>some (A.d x)) (af.D6 v)
noncomputable def af.cu (v:af):List D:=(bM .i64) v.aj++(bM .i64) v.bL++aW v.bK++[Sl.d 5 af.c none v.aB]++(fun s=>[Sl.d 1 aW none s]) v.aX
theorem af.kI (v:af):v.c=v.cu:=by unfold af.c af.cu; rw [af.D6]
def af.zero:af:=.mk (0:Int) (0:Int) ([]:Bs) true [] (Sl.nil:Sl Bs)
structure aO where
 aa:Bs
 dr:af
noncomputable def aO.c (x:aO):List D:=aW x.aa++af.c x.dr
def aO.zero:aO:=⟨([]:Bs),af.zero⟩
structure aP where
 aa:Bs
 aG:(Sl aO)
noncomputable def aP.c (x:aP):List D:=[.str x.aa,Sl.d 6 aO.c none x.aG]
def aP.zero:aP:=⟨([]:Bs),(Sl.nil:Sl aO)⟩
structure ax where
 aa:Bs
 av:(Sl Int)
noncomputable def ax.c (x:ax):List D:=[.str x.aa,Sl.d 1 (bM .i64) none x.av]
def ax.zero:ax:=⟨([]:Bs),(Sl.nil:Sl Int)⟩
structure az where
 aa:Bs
 aM:ax
 eC:Bool
 dZ:af
 bS:(Sl aP)
noncomputable def az.c (x:az):List D:=aW x.aa++ax.c x.aM++rR x.eC++af.c x.dZ++(fun s=>[Sl.d 2 aP.c none s]) x.bS
def az.zero:az:=⟨([]:Bs),ax.zero,false,af.zero,(Sl.nil:Sl aP)⟩
structure aT where
 aa:Bs
 aG:(Sl az)
 aM:ax
 bS:(Sl aP)
noncomputable def aT.c (x:aT):List D:=aW x.aa++(fun s=>[Sl.d 10 az.c none s]) x.aG++ax.c x.aM++(fun s=>[Sl.d 2 aP.c none s]) x.bS
def aT.zero:aT:=⟨([]:Bs),(Sl.nil:Sl az),ax.zero,(Sl.nil:Sl aP)⟩
structure bC where
 aa:Bs
 bS:(Sl aP)
noncomputable def bC.c (x:bC):List D:=[.str x.aa,Sl.d 2 aP.c none x.bS]
def bC.zero:bC:=⟨([]:Bs),(Sl.nil:Sl aP)⟩
structure ay where
 aj:Int
 aa:Bs
 cN:(Sl Bs)
 bS:(Sl aP)
 bA:(Sl aT)
 bV:(Sl bC)
 bG:(Sl az)
noncomputable def ay.c (x:ay):List D:=[.int .i64 x.aj,.str x.aa,Sl.d 1 aW none x.cN,Sl.d 2 aP.c none x.bS,Sl.d 5 aT.c none x.bA,Sl.d 2 bC.c none x.bV,Sl.d 10 az.c none x.bG]
def ay.zero:ay:=⟨(0:Int),([]:Bs),(Sl.nil:Sl Bs),(Sl.nil:Sl aP),(Sl.nil:Sl aT),(Sl.nil:Sl bC),(Sl.nil:Sl az)⟩
structure an where
 aA:(Sl ay)
noncomputable def an.c (x:an):List D:=[Sl.d 7 ay.c none x.aA]
structure bN where
 aa:Bs
 aM:ax
 eC:Bool
 dZ:af
noncomputable def bN.c (x:bN):List D:=aW x.aa++ax.c x.aM++rR x.eC++af.c x.dZ
def bN.zero:bN:=⟨([]:Bs),ax.zero,false,af.zero⟩
inductive ai where
 | mk (aj:Int) (cq:Bs) (aa:Bs) (b9:Bs) (aG:(Sl aO)) (bS:(Sl aP)) (Zn:Bool) (Zo:List ai)
def ai.aj:ai->Int|.mk x _ _ _ _ _ _ _=>x
def ai.cq:ai->Bs|.mk _ x _ _ _ _ _ _=>x
def ai.aa:ai->Bs|.mk _ _ x _ _ _ _ _=>x
def ai.b9:ai->Bs|.mk _ _ _ x _ _ _ _=>x
def ai.aG:ai->(Sl aO)|.mk _ _ _ _ x _ _ _=>x
def ai.bS:ai->(Sl aP)|.mk _ _ _ _ _ x _ _=>x
def ai.aK:ai->(Sl ai)|.mk _ _ _ _ _ _ nl l=>⟨nl,l⟩
noncomputable def ai.Jg:ai->D:=@ai.rec (fun _=>D) (fun _=>List (List D)) (fun _ _ _ _ _ _ nl _ b=>.slice 7 none nl b) [] (fun v _ b f=>((bM .i64) v.aj++aW v.cq++aW v.aa++aW v.b9++(fun s=>[Sl.d 6 aO.c none s]) v.aG++(fun s=>[Sl.d 2 aP.c none s]) v.bS++[b])::f)
noncomputable def ai.c (v:ai):List D:=(bM .i64) v.aj++aW v.cq++aW v.aa++aW v.b9++(fun s=>[Sl.d 6 aO.c none s]) v.aG++(fun s=>[Sl.d 2 aP.c none s]) v.bS++[v.Jg]
theorem ai.gD (v:ai):v.Jg=Sl.d 7 ai.c none v.aK:=by
 cases v with
 | mk f g j k m p nl l =>
  show D.slice 7 none nl _=D.slice 7 none nl (l.map ai.c)
  congr 1
  induction l with
  | nil=>rfl
  | cons a r b=>exact congrArg (ai.c a::·) b
def ai.zero:ai:=.mk (0:Int) ([]:Bs) ([]:Bs) ([]:Bs) (Sl.nil:Sl aO) (Sl.nil:Sl aP) true []
structure bJ where
 aj:Int
 aa:Bs
 fe:(Sl bN)
 aK:(Sl ai)
noncomputable def bJ.c (x:bJ):List D:=[.int .i64 x.aj,.str x.aa,Sl.d 9 bN.c none x.fe,Sl.d 7 ai.c none x.aK]
structure aY where
 aa:Bs
 b9:Bs
 aK:(Sl ai)
noncomputable def aY.c (x:aY):List D:=[.str x.aa,.str x.b9,Sl.d 7 ai.c none x.aK]
def aY.zero:aY:=⟨([]:Bs),([]:Bs),(Sl.nil:Sl ai)⟩
structure aR where
 bw:(Sl bJ)
 aL:(Sl aY)
noncomputable def aR.c (x:aR):List D:=[Sl.d 4 bJ.c none x.bw,Sl.d 3 aY.c none x.aL]
structure Z9 where
 D7:Int
 P6:Bs
def Z9.c (x:Z9):List D:=[.int .i64 x.D7,.str x.P6]
def Z9.zero:Z9:=⟨(0:Int),([]:Bs)⟩
structure Z3 where
 Fd:an
 Fq:aR
 aC:(Sl Z9)
noncomputable def Z3.cg (t2:Option Nat) (x:Z3):List D:=an.c x.Fd++aR.c x.Fq++[Sl.d 2 Z9.c t2 x.aC]
structure Z2 where
 Fd:an
 Fq:aR
 aC:(Sl Z9)
noncomputable def Z2.cg (t2:Option Nat) (x:Z2):List D:=an.c x.Fd++aR.c x.Fq++[Sl.d 2 Z9.c t2 x.aC]
structure bf where
 Fd:an
 dG:(Sl bN)
 aC:(Sl Z9)
noncomputable def bf.cg (t2:Option Nat) (x:bf):List D:=an.c x.Fd++(fun s=>[Sl.d 9 bN.c none s]) x.dG++[Sl.d 2 Z9.c t2 x.aC]
structure Z5 where
 lB:an
 dK:aR
 P7:Unit
noncomputable def Z5.c (gK:Nat) (x:Z5):List D:=an.c x.lB++aR.c x.dK++(fun _=>[.map gK]) x.P7
structure Z6 where
 er:Bs
 eD:ai
noncomputable def Z6.c (x:Z6):List D:=[.str x.er,.view (ai.c x.eD)]
structure Z8 where
 Fd:an
 dw:(Sl Z9)
noncomputable def Z8.cg (t1:Option Nat) (x:Z8):List D:=an.c x.Fd++[Sl.d 2 Z9.c t1 x.dw]
structure Z0 where
 Fd:an
 aC:(Sl Z9)
noncomputable def Z0.cg (t1:Option Nat) (x:Z0):List D:=an.c x.Fd++[Sl.d 2 Z9.c t1 x.aC]
structure Z7 where
 Fd:an
 dG:af
 gU:Bool
 fM:Int
 eE:Int
noncomputable def Z7.c (x:Z7):List D:=an.c x.Fd++af.c x.dG++rR x.gU++(bM .i64) x.fM++(bM .i64) x.eE
structure Z4 where
 Fx:Z6
 Fy:Z6
 jN:Bool
noncomputable def Z4.c (x:Z4):List D:=Z6.c x.Fx++Z6.c x.Fy++rR x.jN
structure Z1 where
 Fd:an
 dG:af
 iU:Bool
 iC:Int
noncomputable def Z1.c (x:Z1):List D:=an.c x.Fd++af.c x.dG++rR x.iU++(bM .i64) x.iC
structure Zp where
end Go.Proofs
namespace Go.Proofs
open Go Go.Ab Go.RowKit
section
variable {H:Type}{B:DataW H->Nat}(hB:xA B)
noncomputable def af.sz:af->Nat:=@af.rec (fun _=>Nat) (fun _=>Nat) (fun f g j nl l k b=>(fun _=>1) f+((fun _=>1) g+(Bs.sz j+((1+b)+((Sl.sz Bs.sz) k+(0)))))) 0 (fun _ _ b m=>b+m)
noncomputable def af.xC:List af->Nat:=@af.rec_1 (fun _=>Nat) (fun _=>Nat) (fun f g j nl l k b=>(fun _=>1) f+((fun _=>1) g+(Bs.sz j+((1+b)+((Sl.sz Bs.sz) k+(0)))))) 0 (fun _ _ b m=>b+m)
theorem af.D8 (l:List af):af.xC l=(l.map af.sz).sum:=by
 induction l with
 | nil=>rfl
 | cons a r b=>exact congrArg (af.sz a+·) b
theorem af.xD (x:af):x.sz=(fun _=>1) x.aj+((fun _=>1) x.bL+(Bs.sz x.bK+((Sl.sz af.sz) x.aB+((Sl.sz Bs.sz) x.aX+(0))))):=by
 cases x with
 | mk b f g nl l j =>
  show (fun _=>1) b+((fun _=>1) f+(Bs.sz g+((1+af.xC l)+((Sl.sz Bs.sz) j+(0)))))=_;rw [af.D8]; rfl
def af.wf:af->Prop:=@af.rec (fun _=>Prop) (fun _=>Prop) (fun f g j nl l k b=>i64 f/\(i64 g/\((fun _=>True) j/\(((nl=true->l=[])/\l.length<=dI/\b)/\((Sl.wf (fun _=>True)) k/\(True)))))) True (fun _ _ b m=>b/\m)
def af.rW:List af->Prop:=@af.rec_1 (fun _=>Prop) (fun _=>Prop) (fun f g j nl l k b=>i64 f/\(i64 g/\((fun _=>True) j/\(((nl=true->l=[])/\l.length<=dI/\b)/\((Sl.wf (fun _=>True)) k/\(True)))))) True (fun _ _ b m=>b/\m)
theorem af.D9 (l:List af):af.rW l↔∀x∈l,af.wf x:=by
 induction l with
 | nil=>exact⟨fun _ _ h=>(by cases h),fun _=>trivial⟩
 | cons a r b =>
  show (af.wf a/\af.rW r)↔_;rw [b]; simp
theorem af.ux (x:af):x.wf↔i64 x.aj/\(i64 x.bL/\((fun _=>True) x.bK/\((Sl.wf af.wf) x.aB/\((Sl.wf (fun _=>True)) x.aX/\(True))))):=by
 cases x with
 | mk b f g nl l j =>
  show (i64 b/\(i64 f/\((fun _=>True) g/\(((nl=true->l=[])/\l.length<=dI/\af.rW l)/\((Sl.wf (fun _=>True)) j/\(True))))))↔_;rw [af.D9]; exact Iff.rfl
include hB in
theorem D_:∀N,di Tryz.prog B N 110 af.c af.sz af.wf:=by
 have key:∀N M,M<=N->di Tryz.prog B M 110 af.c af.sz af.wf:=by
  intro N;induction N with
  | zero=>intro M f; rw [Nat.le_zero.1 f]; exact .zero
  | succ N g =>
   intro M f;cases M with
   | zero=>exact .zero
   | succ b =>
    have hit:di Tryz.prog B b 108 (fun s:Sl af=>[Sl.d 5 af.c none s]) (Sl.sz af.sz) (Sl.wf af.wf):=by
     cases b with
     | zero=>exact .zero
     | succ M=>exact de.D2 hB (Tryz.br 108 _ rfl) rfl (Tryz.br 110 _ rfl) rfl (by decide) (fun _=>rfl) (g M (by omega))
    refine di.struct hB (Tryz.br 110 _ rfl) rfl (cm.cons (n:=5) (o:=0) (o':=1) (Tryz.br 3 _ rfl) rfl ((de.int hB (Tryz.br 3 _ rfl) rfl) b) (cm.cons (n:=5) (o:=1) (o':=2) (Tryz.br 3 _ rfl) rfl ((de.int hB (Tryz.br 3 _ rfl) rfl) b) (cm.cons (n:=5) (o:=2) (o':=3) (Tryz.br 9 _ rfl) rfl ((de.str hB (Tryz.br 9 _ rfl) rfl) b) (cm.cons (n:=5) (o:=3) (o':=4) (Tryz.br 108 _ rfl) rfl hit (cm.cons (n:=5) (o:=4) (o':=5) (Tryz.br 41 _ rfl) rfl ((de.slice hB (Tryz.br 41 _ rfl) rfl (Tryz.br 9 _ rfl) rfl (by decide) (fun _=>rfl) (de.str hB (Tryz.br 9 _ rfl) rfl)) b) (cm.nil (n:=5))))))) (fun a=>af.mk a.1 a.2.1 a.2.2.1 a.2.2.2.1.nl a.2.2.2.1.l a.2.2.2.2.1) (fun a=>?_) (fun a=>by rw [af.xD]; exact Nat.le_refl _) (fun a h=>by rw [af.ux]; exact h)
    unfold af.c;rw [af.D6];rfl
 exact fun N=>key N N (Nat.le_refl _)
noncomputable def aO.sz (x:aO):Nat:=Bs.sz x.aa+(af.sz x.dr+(0))
def aO.wf (x:aO):Prop:=(fun _=>True) x.aa/\(af.wf x.dr/\(True))
include hB in
theorem Jh:∀N,di Tryz.prog B N 133 aO.c aO.sz aO.wf:=kG.struct hB (Tryz.br 133 _ rfl) rfl (fun b=>(cm.cons (n:=6) (o:=0) (o':=1) (Tryz.br 9 _ rfl) rfl ((de.str hB (Tryz.br 9 _ rfl) rfl) b) (cm.cons (n:=6) (o:=1) (o':=6) (Tryz.br 110 _ rfl) rfl ((D_ hB) b) (cm.nil (n:=6))))) (fun a=>(⟨a.1,a.2.1⟩:aO)) (fun _=>rfl) (fun _=>Nat.le_refl _) (fun _ h=>h)
noncomputable def aP.sz (x:aP):Nat:=Bs.sz x.aa+((Sl.sz aO.sz) x.aG+(0))
def aP.wf (x:aP):Prop:=(fun _=>True) x.aa/\((Sl.wf aO.wf) x.aG/\(True))
include hB in
theorem xE:∀N,di Tryz.prog B N 176 aP.c aP.sz aP.wf:=kG.struct hB (Tryz.br 176 _ rfl) rfl (fun b=>(cm.cons (n:=2) (o:=0) (o':=1) (Tryz.br 9 _ rfl) rfl ((de.str hB (Tryz.br 9 _ rfl) rfl) b) (cm.cons (n:=2) (o:=1) (o':=2) (Tryz.br 59 _ rfl) rfl ((de.slice hB (Tryz.br 59 _ rfl) rfl (Tryz.br 133 _ rfl) rfl (by decide) (fun _=>rfl) (Jh hB)) b) (cm.nil (n:=2))))) (fun a=>(⟨a.1,a.2.1⟩:aP)) (fun _=>rfl) (fun _=>Nat.le_refl _) (fun _ h=>h)
noncomputable def ax.sz (x:ax):Nat:=Bs.sz x.aa+((Sl.sz (fun _=>1)) x.av+(0))
def ax.wf (x:ax):Prop:=(fun _=>True) x.aa/\((Sl.wf i64) x.av/\(True))
include hB in
theorem Ea:∀N,di Tryz.prog B N 56 ax.c ax.sz ax.wf:=kG.struct hB (Tryz.br 56 _ rfl) rfl (fun b=>(cm.cons (n:=2) (o:=0) (o':=1) (Tryz.br 9 _ rfl) rfl ((de.str hB (Tryz.br 9 _ rfl) rfl) b) (cm.cons (n:=2) (o:=1) (o':=2) (Tryz.br 54 _ rfl) rfl ((de.slice hB (Tryz.br 54 _ rfl) rfl (Tryz.br 3 _ rfl) rfl (by decide) (fun _=>rfl) (de.int hB (Tryz.br 3 _ rfl) rfl)) b) (cm.nil (n:=2))))) (fun a=>(⟨a.1,a.2.1⟩:ax)) (fun _=>rfl) (fun _=>Nat.le_refl _) (fun _ h=>h)
noncomputable def az.sz (x:az):Nat:=Bs.sz x.aa+(ax.sz x.aM+((fun _=>1) x.eC+(af.sz x.dZ+((Sl.sz aP.sz) x.bS+(0)))))
def az.wf (x:az):Prop:=(fun _=>True) x.aa/\(ax.wf x.aM/\((fun _=>True) x.eC/\(af.wf x.dZ/\((Sl.wf aP.wf) x.bS/\(True)))))
include hB in
theorem Ji:∀N,di Tryz.prog B N 112 az.c az.sz az.wf:=kG.struct hB (Tryz.br 112 _ rfl) rfl (fun b=>(cm.cons (n:=10) (o:=0) (o':=1) (Tryz.br 9 _ rfl) rfl ((de.str hB (Tryz.br 9 _ rfl) rfl) b) (cm.cons (n:=10) (o:=1) (o':=3) (Tryz.br 56 _ rfl) rfl ((Ea hB) b) (cm.cons (n:=10) (o:=3) (o':=4) (Tryz.br 4 _ rfl) rfl ((de.bool hB (Tryz.br 4 _ rfl) rfl) b) (cm.cons (n:=10) (o:=4) (o':=9) (Tryz.br 110 _ rfl) rfl ((D_ hB) b) (cm.cons (n:=10) (o:=9) (o':=10) (Tryz.br 42 _ rfl) rfl ((de.slice hB (Tryz.br 42 _ rfl) rfl (Tryz.br 176 _ rfl) rfl (by decide) (fun _=>rfl) (xE hB)) b) (cm.nil (n:=10)))))))) (fun a=>(⟨a.1,a.2.1,a.2.2.1,a.2.2.2.1,a.2.2.2.2.1⟩:az)) (fun _=>rfl) (fun _=>Nat.le_refl _) (fun _ h=>h)
noncomputable def aT.sz (x:aT):Nat:=Bs.sz x.aa+((Sl.sz az.sz) x.aG+(ax.sz x.aM+((Sl.sz aP.sz) x.bS+(0))))
def aT.wf (x:aT):Prop:=(fun _=>True) x.aa/\((Sl.wf az.wf) x.aG/\(ax.wf x.aM/\((Sl.wf aP.wf) x.bS/\(True))))
include hB in
theorem P8:∀N,di Tryz.prog B N 58 aT.c aT.sz aT.wf:=kG.struct hB (Tryz.br 58 _ rfl) rfl (fun b=>(cm.cons (n:=5) (o:=0) (o':=1) (Tryz.br 9 _ rfl) rfl ((de.str hB (Tryz.br 9 _ rfl) rfl) b) (cm.cons (n:=5) (o:=1) (o':=2) (Tryz.br 45 _ rfl) rfl ((de.slice hB (Tryz.br 45 _ rfl) rfl (Tryz.br 112 _ rfl) rfl (by decide) (fun _=>rfl) (Ji hB)) b) (cm.cons (n:=5) (o:=2) (o':=4) (Tryz.br 56 _ rfl) rfl ((Ea hB) b) (cm.cons (n:=5) (o:=4) (o':=5) (Tryz.br 42 _ rfl) rfl ((de.slice hB (Tryz.br 42 _ rfl) rfl (Tryz.br 176 _ rfl) rfl (by decide) (fun _=>rfl) (xE hB)) b) (cm.nil (n:=5))))))) (fun a=>(⟨a.1,a.2.1,a.2.2.1,a.2.2.2.1⟩:aT)) (fun _=>rfl) (fun _=>Nat.le_refl _) (fun _ h=>h)
noncomputable def bC.sz (x:bC):Nat:=Bs.sz x.aa+((Sl.sz aP.sz) x.bS+(0))
def bC.wf (x:bC):Prop:=(fun _=>True) x.aa/\((Sl.wf aP.wf) x.bS/\(True))
include hB in
theorem P9:∀N,di Tryz.prog B N 107 bC.c bC.sz bC.wf:=kG.struct hB (Tryz.br 107 _ rfl) rfl (fun b=>(cm.cons (n:=2) (o:=0) (o':=1) (Tryz.br 9 _ rfl) rfl ((de.str hB (Tryz.br 9 _ rfl) rfl) b) (cm.cons (n:=2) (o:=1) (o':=2) (Tryz.br 42 _ rfl) rfl ((de.slice hB (Tryz.br 42 _ rfl) rfl (Tryz.br 176 _ rfl) rfl (by decide) (fun _=>rfl) (xE hB)) b) (cm.nil (n:=2))))) (fun a=>(⟨a.1,a.2.1⟩:bC)) (fun _=>rfl) (fun _=>Nat.le_refl _) (fun _ h=>h)
noncomputable def ay.sz (x:ay):Nat:=(fun _=>1) x.aj+(Bs.sz x.aa+((Sl.sz Bs.sz) x.cN+((Sl.sz aP.sz) x.bS+((Sl.sz aT.sz) x.bA+((Sl.sz bC.sz) x.bV+((Sl.sz az.sz) x.bG+(0)))))))
def ay.wf (x:ay):Prop:=i64 x.aj/\((fun _=>True) x.aa/\((Sl.wf (fun _=>True)) x.cN/\((Sl.wf aP.wf) x.bS/\((Sl.wf aT.wf) x.bA/\((Sl.wf bC.wf) x.bV/\((Sl.wf az.wf) x.bG/\(True)))))))
include hB in
theorem P_:∀N,di Tryz.prog B N 47 ay.c ay.sz ay.wf:=kG.struct hB (Tryz.br 47 _ rfl) rfl (fun b=>(cm.cons (n:=7) (o:=0) (o':=1) (Tryz.br 3 _ rfl) rfl ((de.int hB (Tryz.br 3 _ rfl) rfl) b) (cm.cons (n:=7) (o:=1) (o':=2) (Tryz.br 9 _ rfl) rfl ((de.str hB (Tryz.br 9 _ rfl) rfl) b) (cm.cons (n:=7) (o:=2) (o':=3) (Tryz.br 41 _ rfl) rfl ((de.slice hB (Tryz.br 41 _ rfl) rfl (Tryz.br 9 _ rfl) rfl (by decide) (fun _=>rfl) (de.str hB (Tryz.br 9 _ rfl) rfl)) b) (cm.cons (n:=7) (o:=3) (o':=4) (Tryz.br 42 _ rfl) rfl ((de.slice hB (Tryz.br 42 _ rfl) rfl (Tryz.br 176 _ rfl) rfl (by decide) (fun _=>rfl) (xE hB)) b) (cm.cons (n:=7) (o:=4) (o':=5) (Tryz.br 43 _ rfl) rfl ((de.slice hB (Tryz.br 43 _ rfl) rfl (Tryz.br 58 _ rfl) rfl (by decide) (fun _=>rfl) (P8 hB)) b) (cm.cons (n:=7) (o:=5) (o':=6) (Tryz.br 44 _ rfl) rfl ((de.slice hB (Tryz.br 44 _ rfl) rfl (Tryz.br 107 _ rfl) rfl (by decide) (fun _=>rfl) (P9 hB)) b) (cm.cons (n:=7) (o:=6) (o':=7) (Tryz.br 45 _ rfl) rfl ((de.slice hB (Tryz.br 45 _ rfl) rfl (Tryz.br 112 _ rfl) rfl (by decide) (fun _=>rfl) (Ji hB)) b) (cm.nil (n:=7)))))))))) (fun a=>(⟨a.1,a.2.1,a.2.2.1,a.2.2.2.1,a.2.2.2.2.1,a.2.2.2.2.2.1,a.2.2.2.2.2.2.1⟩:ay)) (fun _=>rfl) (fun _=>Nat.le_refl _) (fun _ h=>h)
noncomputable def an.sz (x:an):Nat:=(Sl.sz ay.sz) x.aA+(0)
def an.wf (x:an):Prop:=(Sl.wf ay.wf) x.aA/\(True)
include hB in
theorem Qb:∀N,di Tryz.prog B N 24 an.c an.sz an.wf:=kG.struct hB (Tryz.br 24 _ rfl) rfl (fun b=>(cm.cons (n:=1) (o:=0) (o':=1) (Tryz.br 22 _ rfl) rfl ((de.slice hB (Tryz.br 22 _ rfl) rfl (Tryz.br 47 _ rfl) rfl (by decide) (fun _=>rfl) (P_ hB)) b) (cm.nil (n:=1)))) (fun a=>(⟨a.1⟩:an)) (fun _=>rfl) (fun _=>Nat.le_refl _) (fun _ h=>h)
noncomputable def bN.sz (x:bN):Nat:=Bs.sz x.aa+(ax.sz x.aM+((fun _=>1) x.eC+(af.sz x.dZ+(0))))
def bN.wf (x:bN):Prop:=(fun _=>True) x.aa/\(ax.wf x.aM/\((fun _=>True) x.eC/\(af.wf x.dZ/\(True))))
include hB in
theorem Qd:∀N,di Tryz.prog B N 127 bN.c bN.sz bN.wf:=kG.struct hB (Tryz.br 127 _ rfl) rfl (fun b=>(cm.cons (n:=9) (o:=0) (o':=1) (Tryz.br 9 _ rfl) rfl ((de.str hB (Tryz.br 9 _ rfl) rfl) b) (cm.cons (n:=9) (o:=1) (o':=3) (Tryz.br 56 _ rfl) rfl ((Ea hB) b) (cm.cons (n:=9) (o:=3) (o':=4) (Tryz.br 4 _ rfl) rfl ((de.bool hB (Tryz.br 4 _ rfl) rfl) b) (cm.cons (n:=9) (o:=4) (o':=9) (Tryz.br 110 _ rfl) rfl ((D_ hB) b) (cm.nil (n:=9))))))) (fun a=>(⟨a.1,a.2.1,a.2.2.1,a.2.2.2.1⟩:bN)) (fun _=>rfl) (fun _=>Nat.le_refl _) (fun _ h=>h)
noncomputable def ai.sz:ai->Nat:=@ai.rec (fun _=>Nat) (fun _=>Nat) (fun f g j k m p nl l b=>(fun _=>1) f+(Bs.sz g+(Bs.sz j+(Bs.sz k+((Sl.sz aO.sz) m+((Sl.sz aP.sz) p+((1+b)+(0)))))))) 0 (fun _ _ b q=>b+q)
noncomputable def ai.xC:List ai->Nat:=@ai.rec_1 (fun _=>Nat) (fun _=>Nat) (fun f g j k m p nl l b=>(fun _=>1) f+(Bs.sz g+(Bs.sz j+(Bs.sz k+((Sl.sz aO.sz) m+((Sl.sz aP.sz) p+((1+b)+(0)))))))) 0 (fun _ _ b q=>b+q)
theorem ai.D8 (l:List ai):ai.xC l=(l.map ai.sz).sum:=by
 induction l with
 | nil=>rfl
 | cons a r b=>exact congrArg (ai.sz a+·) b
theorem ai.xD (x:ai):x.sz=(fun _=>1) x.aj+(Bs.sz x.cq+(Bs.sz x.aa+(Bs.sz x.b9+((Sl.sz aO.sz) x.aG+((Sl.sz aP.sz) x.bS+((Sl.sz ai.sz) x.aK+(0))))))):=by
 cases x with
 | mk b f g j k m nl l =>
  show (fun _=>1) b+(Bs.sz f+(Bs.sz g+(Bs.sz j+((Sl.sz aO.sz) k+((Sl.sz aP.sz) m+((1+ai.xC l)+(0)))))))=_;rw [ai.D8]; rfl
def ai.wf:ai->Prop:=@ai.rec (fun _=>Prop) (fun _=>Prop) (fun f g j k m p nl l b=>i64 f/\((fun _=>True) g/\((fun _=>True) j/\((fun _=>True) k/\((Sl.wf aO.wf) m/\((Sl.wf aP.wf) p/\(((nl=true->l=[])/\l.length<=dI/\b)/\(True)))))))) True (fun _ _ b q=>b/\q)
def ai.rW:List ai->Prop:=@ai.rec_1 (fun _=>Prop) (fun _=>Prop) (fun f g j k m p nl l b=>i64 f/\((fun _=>True) g/\((fun _=>True) j/\((fun _=>True) k/\((Sl.wf aO.wf) m/\((Sl.wf aP.wf) p/\(((nl=true->l=[])/\l.length<=dI/\b)/\(True)))))))) True (fun _ _ b q=>b/\q)
theorem ai.D9 (l:List ai):ai.rW l↔∀x∈l,ai.wf x:=by
 induction l with
 | nil=>exact⟨fun _ _ h=>(by cases h),fun _=>trivial⟩
 | cons a r b =>
  show (ai.wf a/\ai.rW r)↔_;rw [b]; simp
theorem ai.ux (x:ai):x.wf↔i64 x.aj/\((fun _=>True) x.cq/\((fun _=>True) x.aa/\((fun _=>True) x.b9/\((Sl.wf aO.wf) x.aG/\((Sl.wf aP.wf) x.bS/\((Sl.wf ai.wf) x.aK/\(True))))))):=by
 cases x with
 | mk b f g j k m nl l =>
  show (i64 b/\((fun _=>True) f/\((fun _=>True) g/\((fun _=>True) j/\((Sl.wf aO.wf) k/\((Sl.wf aP.wf) m/\(((nl=true->l=[])/\l.length<=dI/\ai.rW l)/\(True))))))))↔_;rw [ai.D9]; exact Iff.rfl
include hB in
theorem Jj:∀N,di Tryz.prog B N 61 ai.c ai.sz ai.wf:=by
 have key:∀N M,M<=N->di Tryz.prog B M 61 ai.c ai.sz ai.wf:=by
  intro N;induction N with
  | zero=>intro M f; rw [Nat.le_zero.1 f]; exact .zero
  | succ N g =>
   intro M f;cases M with
   | zero=>exact .zero
   | succ b =>
    have hit:di Tryz.prog B b 38 (fun s:Sl ai=>[Sl.d 7 ai.c none s]) (Sl.sz ai.sz) (Sl.wf ai.wf):=by
     cases b with
     | zero=>exact .zero
     | succ M=>exact de.D2 hB (Tryz.br 38 _ rfl) rfl (Tryz.br 61 _ rfl) rfl (by decide) (fun _=>rfl) (g M (by omega))
    refine di.struct hB (Tryz.br 61 _ rfl) rfl (cm.cons (n:=7) (o:=0) (o':=1) (Tryz.br 3 _ rfl) rfl ((de.int hB (Tryz.br 3 _ rfl) rfl) b) (cm.cons (n:=7) (o:=1) (o':=2) (Tryz.br 9 _ rfl) rfl ((de.str hB (Tryz.br 9 _ rfl) rfl) b) (cm.cons (n:=7) (o:=2) (o':=3) (Tryz.br 9 _ rfl) rfl ((de.str hB (Tryz.br 9 _ rfl) rfl) b) (cm.cons (n:=7) (o:=3) (o':=4) (Tryz.br 9 _ rfl) rfl ((de.str hB (Tryz.br 9 _ rfl) rfl) b) (cm.cons (n:=7) (o:=4) (o':=5) (Tryz.br 59 _ rfl) rfl ((de.slice hB (Tryz.br 59 _ rfl) rfl (Tryz.br 133 _ rfl) rfl (by decide) (fun _=>rfl) (Jh hB)) b) (cm.cons (n:=7) (o:=5) (o':=6) (Tryz.br 42 _ rfl) rfl ((de.slice hB (Tryz.br 42 _ rfl) rfl (Tryz.br 176 _ rfl) rfl (by decide) (fun _=>rfl) (xE hB)) b) (cm.cons (n:=7) (o:=6) (o':=7) (Tryz.br 38 _ rfl) rfl hit (cm.nil (n:=7))))))))) (fun a=>ai.mk a.1 a.2.1 a.2.2.1 a.2.2.2.1 a.2.2.2.2.1 a.2.2.2.2.2.1 a.2.2.2.2.2.2.1.nl a.2.2.2.2.2.2.1.l) (fun a=>?_) (fun a=>by rw [ai.xD]; exact Nat.le_refl _) (fun a h=>by rw [ai.ux]; exact h)
    unfold ai.c;rw [ai.gD];rfl
 exact fun N=>key N N (Nat.le_refl _)
noncomputable def bJ.sz (x:bJ):Nat:=(fun _=>1) x.aj+(Bs.sz x.aa+((Sl.sz bN.sz) x.fe+((Sl.sz ai.sz) x.aK+(0))))
def bJ.wf (x:bJ):Prop:=i64 x.aj/\((fun _=>True) x.aa/\((Sl.wf bN.wf) x.fe/\((Sl.wf ai.wf) x.aK/\(True))))
include hB in
theorem Qf:∀N,di Tryz.prog B N 40 bJ.c bJ.sz bJ.wf:=kG.struct hB (Tryz.br 40 _ rfl) rfl (fun b=>(cm.cons (n:=4) (o:=0) (o':=1) (Tryz.br 3 _ rfl) rfl ((de.int hB (Tryz.br 3 _ rfl) rfl) b) (cm.cons (n:=4) (o:=1) (o':=2) (Tryz.br 9 _ rfl) rfl ((de.str hB (Tryz.br 9 _ rfl) rfl) b) (cm.cons (n:=4) (o:=2) (o':=3) (Tryz.br 37 _ rfl) rfl ((de.slice hB (Tryz.br 37 _ rfl) rfl (Tryz.br 127 _ rfl) rfl (by decide) (fun _=>rfl) (Qd hB)) b) (cm.cons (n:=4) (o:=3) (o':=4) (Tryz.br 38 _ rfl) rfl ((de.slice hB (Tryz.br 38 _ rfl) rfl (Tryz.br 61 _ rfl) rfl (by decide) (fun _=>rfl) (Jj hB)) b) (cm.nil (n:=4))))))) (fun a=>(⟨a.1,a.2.1,a.2.2.1,a.2.2.2.1⟩:bJ)) (fun _=>rfl) (fun _=>Nat.le_refl _) (fun _ h=>h)
noncomputable def aY.sz (x:aY):Nat:=Bs.sz x.aa+(Bs.sz x.b9+((Sl.sz ai.sz) x.aK+(0)))
def aY.wf (x:aY):Prop:=(fun _=>True) x.aa/\((fun _=>True) x.b9/\((Sl.wf ai.wf) x.aK/\(True)))
include hB in
theorem Qg:∀N,di Tryz.prog B N 74 aY.c aY.sz aY.wf:=kG.struct hB (Tryz.br 74 _ rfl) rfl (fun b=>(cm.cons (n:=3) (o:=0) (o':=1) (Tryz.br 9 _ rfl) rfl ((de.str hB (Tryz.br 9 _ rfl) rfl) b) (cm.cons (n:=3) (o:=1) (o':=2) (Tryz.br 9 _ rfl) rfl ((de.str hB (Tryz.br 9 _ rfl) rfl) b) (cm.cons (n:=3) (o:=2) (o':=3) (Tryz.br 38 _ rfl) rfl ((de.slice hB (Tryz.br 38 _ rfl) rfl (Tryz.br 61 _ rfl) rfl (by decide) (fun _=>rfl) (Jj hB)) b) (cm.nil (n:=3)))))) (fun a=>(⟨a.1,a.2.1,a.2.2.1⟩:aY)) (fun _=>rfl) (fun _=>Nat.le_refl _) (fun _ h=>h)
noncomputable def aR.sz (x:aR):Nat:=(Sl.sz bJ.sz) x.bw+((Sl.sz aY.sz) x.aL+(0))
def aR.wf (x:aR):Prop:=(Sl.wf bJ.wf) x.bw/\((Sl.wf aY.wf) x.aL/\(True))
include hB in
theorem Qh:∀N,di Tryz.prog B N 28 aR.c aR.sz aR.wf:=kG.struct hB (Tryz.br 28 _ rfl) rfl (fun b=>(cm.cons (n:=2) (o:=0) (o':=1) (Tryz.br 25 _ rfl) rfl ((de.slice hB (Tryz.br 25 _ rfl) rfl (Tryz.br 40 _ rfl) rfl (by decide) (fun _=>rfl) (Qf hB)) b) (cm.cons (n:=2) (o:=1) (o':=2) (Tryz.br 26 _ rfl) rfl ((de.slice hB (Tryz.br 26 _ rfl) rfl (Tryz.br 74 _ rfl) rfl (by decide) (fun _=>rfl) (Qg hB)) b) (cm.nil (n:=2))))) (fun a=>(⟨a.1,a.2.1⟩:aR)) (fun _=>rfl) (fun _=>Nat.le_refl _) (fun _ h=>h)
end
theorem af.bH (x:af):x.sz=0+1+1+Bs.sz x.bK+(Sl.sz af.sz) x.aB+(Sl.sz Bs.sz) x.aX:=by
 rw [af.xD]; try dsimp only
 omega
theorem af.pos (x:af):1<=x.sz:=by
 rw [af.bH]; have:=Bs.gf x.bK; omega
theorem af.Qi {x:af}(h:x.wf):i64 x.bL:=((af.ux x).1 h).2.1
theorem af.Qj {x:af}(h:x.wf):(Sl.wf af.wf) x.aB:=((af.ux x).1 h).2.2.2.1
theorem af.Qk {x:af}(h:x.wf):(Sl.wf (fun _=>True)) x.aX:=((af.ux x).1 h).2.2.2.2.1
theorem aO.bH (x:aO):x.sz=0+Bs.sz x.aa+af.sz x.dr:=by
 unfold aO.sz; try dsimp only
 omega
theorem aO.pos (x:aO):1<=x.sz:=by
 rw [aO.bH]; have:=Bs.gf x.aa; omega
theorem aP.bH (x:aP):x.sz=0+Bs.sz x.aa+(Sl.sz aO.sz) x.aG:=by
 unfold aP.sz; try dsimp only
 omega
theorem aP.pos (x:aP):1<=x.sz:=by
 rw [aP.bH]; have:=Bs.gf x.aa; omega
theorem ax.bH (x:ax):x.sz=0+Bs.sz x.aa+(Sl.sz (fun _=>1)) x.av:=by
 unfold ax.sz; try dsimp only
 omega
theorem ax.Ql {x:ax}(h:x.wf):(Sl.wf i64) x.av:=h.2.1
theorem az.bH (x:az):x.sz=0+Bs.sz x.aa+ax.sz x.aM+1+af.sz x.dZ+(Sl.sz aP.sz) x.bS:=by
 unfold az.sz; try dsimp only
 omega
theorem az.pos (x:az):1<=x.sz:=by
 rw [az.bH]; have:=Bs.gf x.aa; omega
theorem az.nU {x:az}(h:x.wf):ax.wf x.aM:=h.2.1
theorem az.Eb {x:az}(h:x.wf):af.wf x.dZ:=h.2.2.2.1
theorem aT.bH (x:aT):x.sz=0+Bs.sz x.aa+(Sl.sz az.sz) x.aG+ax.sz x.aM+(Sl.sz aP.sz) x.bS:=by
 unfold aT.sz; try dsimp only
 omega
theorem aT.pos (x:aT):1<=x.sz:=by
 rw [aT.bH]; have:=Bs.gf x.aa; omega
theorem aT.Jk {x:aT}(h:x.wf):(Sl.wf az.wf) x.aG:=h.2.1
theorem aT.nU {x:aT}(h:x.wf):ax.wf x.aM:=h.2.2.1
theorem bC.bH (x:bC):x.sz=0+Bs.sz x.aa+(Sl.sz aP.sz) x.bS:=by
 unfold bC.sz; try dsimp only
 omega
theorem bC.pos (x:bC):1<=x.sz:=by
 rw [bC.bH]; have:=Bs.gf x.aa; omega
theorem ay.bH (x:ay):x.sz=0+1+Bs.sz x.aa+(Sl.sz Bs.sz) x.cN+(Sl.sz aP.sz) x.bS+(Sl.sz aT.sz) x.bA+(Sl.sz bC.sz) x.bV+(Sl.sz az.sz) x.bG:=by
 unfold ay.sz; try dsimp only
 omega
theorem ay.pos (x:ay):1<=x.sz:=by
 rw [ay.bH]; have:=Bs.gf x.aa; omega
theorem ay.Ec {x:ay}(h:x.wf):(Sl.wf aT.wf) x.bA:=h.2.2.2.2.1
theorem ay.Ed {x:ay}(h:x.wf):(Sl.wf az.wf) x.bG:=h.2.2.2.2.2.2.1
theorem an.bH (x:an):x.sz=0+(Sl.sz ay.sz) x.aA:=by
 unfold an.sz; try dsimp only
 omega
theorem an.AL {x:an}(h:x.wf):(Sl.wf ay.wf) x.aA:=h.1
theorem bN.bH (x:bN):x.sz=0+Bs.sz x.aa+ax.sz x.aM+1+af.sz x.dZ:=by
 unfold bN.sz; try dsimp only
 omega
theorem bN.pos (x:bN):1<=x.sz:=by
 rw [bN.bH]; have:=Bs.gf x.aa; omega
theorem bN.nU {x:bN}(h:x.wf):ax.wf x.aM:=h.2.1
theorem bN.Eb {x:bN}(h:x.wf):af.wf x.dZ:=h.2.2.2.1
theorem ai.bH (x:ai):x.sz=0+1+Bs.sz x.cq+Bs.sz x.aa+Bs.sz x.b9+(Sl.sz aO.sz) x.aG+(Sl.sz aP.sz) x.bS+(Sl.sz ai.sz) x.aK:=by
 rw [ai.xD]; try dsimp only
 omega
theorem bJ.bH (x:bJ):x.sz=0+1+Bs.sz x.aa+(Sl.sz bN.sz) x.fe+(Sl.sz ai.sz) x.aK:=by
 unfold bJ.sz; try dsimp only
 omega
theorem bJ.pos (x:bJ):1<=x.sz:=by
 rw [bJ.bH]; have:=Bs.gf x.aa; omega
theorem bJ.Qm {x:bJ}(h:x.wf):(Sl.wf bN.wf) x.fe:=h.2.2.1
theorem aY.bH (x:aY):x.sz=0+Bs.sz x.aa+Bs.sz x.b9+(Sl.sz ai.sz) x.aK:=by
 unfold aY.sz; try dsimp only
 omega
theorem aY.pos (x:aY):1<=x.sz:=by
 rw [aY.bH]; have:=Bs.gf x.aa; omega
theorem aR.bH (x:aR):x.sz=0+(Sl.sz bJ.sz) x.bw+(Sl.sz aY.sz) x.aL:=by
 unfold aR.sz; try dsimp only
 omega
theorem aR.Qn {x:aR}(h:x.wf):(Sl.wf bJ.wf) x.bw:=h.1
end Go.Proofs
namespace Go.Proofs
open Go Go.Ab
open aI aq ag dR fO
attribute [local irreducible] aI aH ag aq
abbrev At [b:bP] (n:Nat) (a:List A) (H:ah) (Q:V->ah->Prop):Prop:=AC Tryz.prog n a H Q
variable {ak:bP}
variable {gK:Nat}
def kJ (b:Bs):List ay->Unit ⊕ ((ay×Bool))
 | []=>Sum.inl ()
 | f::g=>on (f) fun j=>bif ((j.aa==b)) then(on (f) fun k=>Sum.inr (k,true)) else(kJ b (g) )
def fH (j:an) (b:Bs):(ay×Bool):=on (kJ b j.aA.l ) fun f=>match f with|Sum.inl _=>(on (()) fun _=>((ay.mk 0 [] Sl.nil Sl.nil Sl.nil Sl.nil Sl.nil),false))|Sum.inr g=>(g)
def xF (f:an) (b:Bs):Option (ay×Bool):=some (fH f b)
theorem Jl (a0:an) (b:Bs):xF a0 b=some (fH a0 b):=rfl
theorem kK {f g r}(b:xF f g=some r) (H:ah) :At 9 [.agg (an.c f),.d (.str g)] H (RT (.b_ [.agg (ay.c r.1),.d (.bool r.2)]) H):=by
 unfold xF fH at b;refine AC.oW 28 [.cell 4 47,.tmp 5] Tryz.call9 Tryz.func9 ?_;refine Y5 ?_;refine fh (tl [4]) (fun(z:ay)=>[]) (fun z=>[ay.c z]) (fun z=>H) (fun z=>some (((ay.mk 0 [] Sl.nil Sl.nil Sl.nil Sl.nil Sl.nil),false))=some r) ?_ ?_
 ·intro F t;refine Y4 ?_;obtain⟨p,q,b⟩:=eH b;refine iA (tl [1,2,4]) (fun(z:Nat×ay)=>[(6,vi z.1)]) (fun z=>[ay.c z.2]) (fun z=>H) (fun z=>f.aA.l.length-z.1) (fun z=>p (kJ g (f.aA.l.drop z.1) )=some r) (0,ay.zero) b wA ?_;rintro ⟨j,s⟩ b G u;try dsimp only at b
  refine ar fun I v=>Y4 ?_;refine aV ay.c f.aA fun J=>Y2 ?_;refine ag.bW (fun l=>p (kJ g l )=some r) b rfl (fun K k m b=>?_) (fun m b=>?_)
  ·rw [kJ] at b;try dsimp only at m
   have L:=oD m;refine sk v (ar fun M w=>Y5 ?_);obtain⟨N,y,b⟩:=vP k b;refine S (ix ay.c j y) (Y5 ?_);refine cP b (fun B b=>?_) (fun B b=>?_)
   ·refine Y4 ?_;obtain⟨O,C,b⟩:=vP k b;refine S (ix ay.c j C) (Y4 ?_);exact rs (ku q b:)
   refine sk w (Y5 ?_);exact u _ ((j+1),s) wA b (dl k)
  rw [kJ] at b;have b:=ku q b;try dsimp only at b
  refine ag.exit ?_;obtain⟨P,E,b⟩:=eH b;exact t _ s wA (ku E b:)
 rintro Q b;try dsimp only at b
 refine Y5 ?_;exact rt b
def fu (b:Bs):Bool:=(((((b==([73,110,116]:Bs)))||((b==([83,116,114,105,110,103]:Bs))))||((b==([66,111,111,108,101,97,110]:Bs))))||((b==([73,68]:Bs))))
def AM (b:Bs):Option Bool:=some (fu b)
theorem Qo (a0:Bs):AM a0=some (fu a0):=rfl
theorem uy {f r}(b:AM f=some r) (H:ah) :At 57 [.d (.str f)] H (RT (.a (.d (.bool r))) H):=by
 unfold AM fu at b;refine AC.oW 17 [.tmp 2] Tryz.call57 Tryz.func57 ?_;refine Y8 ?_;refine Gk 6 ?_;refine Y3 ?_;refine Gk 10 ?_;refine Y3 ?_;refine Gk 14 ?_;refine Y3 ?_;exact rt b
def Ee (b:Int):Bool:=((((decide ((65:Int)<=b))&&(decide (b<=(90:Int))))||((decide ((97:Int)<=b))&&(decide (b<=(122:Int)))))||(decide (b=(95:Int))))
theorem Qp {f r}(b:some (Ee f)=some r) (H:ah) :At 74 [.d (.int .u8 f)] H (RT (.a (.d (.bool r))) H):=by
 unfold Ee at b;refine AC.oW 21 [.tmp 2] Tryz.call74 Tryz.func74 ?_;refine Y8 ?_;refine Gk 6 ?_;refine Y3 ?_;refine Gk 10 ?_;refine Gk 11 ?_;refine Y1 ?_;refine Gk 13 ?_;refine bE 12 rfl (fun hC=>f_ rfl rfl rfl) ?_;refine Y3 ?_;refine Gk 18 ?_;refine Y3 ?_;exact rt b
def Ef (b:Int):Bool:=((decide ((48:Int)<=b))&&(decide (b<=(57:Int))))
theorem Qq {f r}(b:some (Ef f)=some r) (H:ah) :At 75 [.d (.int .u8 f)] H (RT (.a (.d (.bool r))) H):=by
 unfold Ef at b;refine AC.oW 9 [.tmp 2] Tryz.call75 Tryz.func75 ?_;refine Y8 ?_;refine Gk 6 ?_;refine Y3 ?_;exact rt b
def uA :List UInt8->Nat->Unit ⊕ Bool
 | [],b=>Sum.inl ()
 | g::j,b=>on (g) fun k=>on (Ee ((k.toNat:Nat):Int)) fun f=>on (bif ((!f)&&!(decide (((b:Nat):Int)=(0:Int)))) then g else(0:UInt8)) fun l=>on (bif ((!f)&&!(decide (((b:Nat):Int)=(0:Int)))) then Ef ((l.toNat:Nat):Int) else false) fun m=>bif ((!f)&&((decide (((b:Nat):Int)=(0:Int)))||(!m))) then(Sum.inr false) else(uA  (j) (b+1) )
def fB (b:Bs):Bool:=bif ((decide (((b.length:Nat):Int)<(1:Int)))||(decide ((64:Int)<((b.length:Nat):Int)))) then(false) else(on (uA  b 0 ) fun f=>match f with|Sum.inl _=>(on (()) fun _=>true)|Sum.inr g=>(g))
def AN (b:Bs):Option Bool:=some (fB b)
theorem gV {g r}(b:AN g=some r) (H:ah) :At 31 [.d (.str g)] H (RT (.a (.d (.bool r))) H):=by
 unfold AN fB at b;refine AC.oW 34 [.tmp 2] Tryz.call31 Tryz.func31 ?_;refine Y3 ?_;refine ar fun I q=>Y2 ?_;refine uo (TK rfl) rfl rfl rfl rfl fun J=>?_;refine Y3 ?_;refine bE 8 rfl (fun hC=>Ao (TK rfl) rfl rfl rfl) ?_;refine Gk 9 ?_;refine Y2 ?_;refine cP b (fun s b=>?_) (fun s b=>?_)
 ·refine Y3 ?_;exact rt b
 refine sk q (aN kN (fun(z:Unit)=>[]) (fun z=>H) (fun z=>some (true)=some r) ?_ ?_)
 ·intro K t;refine Y4 ?_;obtain⟨m,p,b⟩:=eH b;refine bx (tl [0]) (fun(z:Nat)=>[(3,vi z)]) (fun z=>H) (fun z=>g.length-z) (fun z=>m (uA  (g.drop z) z )=some r) 0 b wA ?_;rintro f b L u;try dsimp only at b
  refine ar fun M v=>Y3 ?_;refine uo (TK rfl) rfl rfl rfl rfl fun N=>?_;refine Y2 ?_;refine ag.bW (fun l=>m (uA  l f )=some r) b rfl (fun O j k b=>?_) (fun k b=>?_)
  ·rw [uA] at b;try dsimp only at k
   have P:=oD k;refine sk v (ar fun Q w=>Y4 ?_);obtain⟨R,y,b⟩:=vP j b;refine s0 (rS (n:=f) (TK rfl) rfl rfl rfl y) rfl ?_;obtain⟨S,B,b⟩:=eL b;refine Sc rfl rfl (Qp B) (Y3 ?_);refine Gk 24 ?_;refine Gk 25 ?_;refine Y2 ?_;obtain⟨U,C,b⟩:=lz (fun _=>j) b;refine fc 27 28 rfl rfl (fun hC=>rS (n:=f) (TK rfl) rfl rfl rfl (C hC)) ?_
   obtain⟨W,E,b⟩:=lz (fun _=>rfl) b;refine dx 29 rfl rfl rfl rfl rfl (fun hC=>Qq (E hC)) ?_;refine Gk 30 ?_;refine bE 26 rfl (fun hC=>kB rfl rfl rfl) ?_;refine Y2 ?_;refine cP b (fun F b=>?_) (fun F b=>?_)
   ·refine Y3 ?_;exact rs (ku p b:)
   refine sk w (Y5 ?_);exact u _ (f+1) wA b (dl j)
  rw [uA] at b;have b:=ku p b;try dsimp only at b
  refine ag.exit ?_;obtain⟨X,G,b⟩:=eH b;exact t _ () wA (ku G b:)
 rintro _ b;try dsimp only at b
 refine Y3 ?_;exact rt b
def uB (b:Bs):Option Bool:=a_ ((decide ((2:Int)<=((b.length:Nat):Int)))) (b[0]?) (0:UInt8) fun f=>a_ (((decide ((2:Int)<=((b.length:Nat):Int)))&&(decide (((f.toNat:Nat):Int)=(95:Int))))) (b[1]?) (0:UInt8) fun g=>some (((decide ((2:Int)<=((b.length:Nat):Int)))&&(decide (((f.toNat:Nat):Int)=(95:Int))))&&(decide (((g.toNat:Nat):Int)=(95:Int))))
theorem Qr {f r}(b:uB f=some r) (H:ah) :At 157 [.d (.str f)] H (RT (.a (.d (.bool r))) H):=by
 unfold uB at b;refine AC.oW 16 [.tmp 2] Tryz.call157 Tryz.func157 ?_;refine Y5 ?_;refine uo (TK rfl) rfl rfl rfl rfl fun k=>?_;refine Y3 ?_;obtain⟨l,g,b⟩:=dV b;refine bE 7 rfl (fun hC=>rS (n:=0) (TK rfl) rfl rfl rfl (g hC)) ?_;refine Gk 8 ?_;refine Y3 ?_;obtain⟨m,j,b⟩:=dV b;refine bE 12 rfl (fun hC=>rS (n:=1) (TK rfl) rfl rfl rfl (j hC)) ?_;refine Gk 13 ?_;refine Y3 ?_
 exact rt b
def xG (f:Bs):Option Bool:=on (fB f) fun b=>a_ (b) (uB f) false fun g=>some (b&&(!g))
theorem Jm {f r}(b:xG f=some r) (H:ah) :At 111 [.d (.str f)] H (RT (.a (.d (.bool r))) H):=by
 unfold xG at b;refine AC.oW 10 [.tmp 2] Tryz.call111 Tryz.func111 ?_;refine Y5 ?_;obtain⟨k,g,b⟩:=dD b;refine Sc rfl rfl (gV g) (Y2 ?_);obtain⟨l,j,b⟩:=dV b;refine dx 6 rfl rfl rfl rfl rfl (fun hC=>Qr (j hC)) ?_;refine Gk 7 ?_;refine Y3 ?_;exact rt b
def lC (p:Bs) (b:Bool) (q:Bool) (g:Bs):Option (Sl Z9):=a_ (!b) (xG p) false fun j=>Option.bind (bif (b||(!j)) then((bq 24 (Sl.nil:Sl Z9) (⟨false,[(Z9.mk 6 g)]⟩:Sl Z9)).bind fun k=>some k) else(some (Sl.nil:Sl Z9))) fun f=>Option.bind (bif q then((bq 24 f (⟨false,[(Z9.mk 7 g)]⟩:Sl Z9)).bind fun l=>some l) else(some f)) fun m=>some m
def uC (f:Bs) (b:Bool) (g:Bool) (j:Bs):Option (Sl Z9):=lC f b g j
theorem Qt (a0:Bs) (b:Bool) (a2:Bool) (a3:Bs):uC a0 b a2 a3=lC a0 b a2 a3:=rfl
theorem Eg {u l j k r}(b:uC u l j k=some r) (H:ah) :At 58 [.d (.str u),.d (.bool l),.d (.bool j),.d (.str k)] H (RT (.a (.d (Sl.d 2 Z9.c none r))) H):=by
 unfold uC lC at b;refine AC.oW 28 [.tmp 8] Tryz.call58 Tryz.func58 ?_;refine ag.tok 2 fun f I=>?_;refine Y1 ?_;refine s0 (dM (k':=2) rfl) rfl ?_;refine Y4 ?_;refine ag.gv 9 2 f rfl au ?_
 refine aN (tl [2,3]) (fun(z:(Sl Z9))=>[(9,.a (.d (Sl.d 2 Z9.c (some f) z)))]) (fun z=>(tS H f 2 z)) (fun z=>(Option.bind (bif j then((bq 24 z (⟨false,[(Z9.mk 7 k)]⟩:Sl Z9)).bind fun g=>some g) else(some z)) fun m=>some m)=some r) ?_ ?_
 ·intro J p;refine Y4 ?_;obtain⟨K,v,b⟩:=dV b;refine dx 12 rfl rfl rfl rfl rfl (fun hC=>Jm (v hC)) ?_;refine Gk 13 ?_;refine Y2 ?_;obtain⟨L,q,b⟩:=b5 b;refine cO b (fun w b=>?_) (fun w b=>?_)
  ·refine Y5 ?_;obtain⟨s,y,b⟩:=aQ b;refine SH (am Z9.c (TK rfl) rfl (TK rfl) (TK rfl) y) ?_;refine hq (tS H f 2 s) (Y2 ?_);exact p _ s wA (ku q b:)
  refine ag.skip ?_;exact p _ (Sl.nil:Sl Z9) wA (ku q b:)
 rintro B b;try dsimp only at b
 obtain⟨C,E,b⟩:=b5 b;refine aN kN (fun(z:(Sl Z9))=>[(9,.a (.d (Sl.d 2 Z9.c (some f) z)))]) (fun z=>(tS H f 2 z)) (fun z=>C z=some r) ?_ ?_
 ·intro M t;refine Y3 ?_;refine cO b (fun F b=>?_) (fun F b=>?_)
  ·refine Y5 ?_;obtain⟨g,G,b⟩:=aQ b;refine SH (am Z9.c (TK rfl) rfl (TK rfl) (TK rfl) G) ?_;refine hq (tS H f 2 g) (Y2 ?_);exact t _ g wA b
  refine ag.skip ?_;exact t _ B wA b
 rintro m b;try dsimp only at b
 have b:=ku E b;refine Y4 ?_;refine ag.eG 8 rfl ?_;refine ry ?_;obtain rfl:=oJ b;refine bR.cK H rfl ⟨rfl,rfl⟩ ?_;exact sy
theorem Qu {v:Bs}{m j:Bool}{k:Bs}{r:Sl Z9}(b:uC v m j k=some r) (H:ah){f:Nat}(J:H f=some (.tok 2 0)):At 58 [.d (.str v),.d (.bool m),.d (.bool j),.d (.str k)] H (RT (.a (.d (Sl.d 2 Z9.c (some f) r))) (H.set f (some (.tok 2 r.l.length)))):=by
 unfold uC lC at b;refine AC.oW 28 [.tmp 8] Tryz.call58 Tryz.func58 ?_;refine hz (H.set f (some (.tok 2 0))) (Y6 ?_);refine ag.gv 9 2 f rfl au ?_;refine aN (tl [2,3]) (fun(z:(Sl Z9))=>[(9,.a (.d (Sl.d 2 Z9.c (some f) z)))]) (fun z=>(tS H f 2 z)) (fun z=>(Option.bind (bif j then((bq 24 z (⟨false,[(Z9.mk 7 k)]⟩:Sl Z9)).bind fun g=>some g) else(some z)) fun p=>some p)=some r) ?_ ?_
 ·intro K q;refine Y4 ?_;obtain⟨L,w,b⟩:=dV b;refine dx 12 rfl rfl rfl rfl rfl (fun hC=>Jm (w hC)) ?_;refine Gk 13 ?_;refine Y2 ?_;obtain⟨M,s,b⟩:=b5 b;refine cO b (fun y b=>?_) (fun y b=>?_)
  ·refine Y5 ?_;obtain⟨t,B,b⟩:=aQ b;refine SH (am Z9.c (TK rfl) rfl (TK rfl) (TK rfl) B) ?_;refine hq (tS H f 2 t) (Y2 ?_);exact q _ t wA (ku s b:)
  refine ag.skip ?_;exact q _ (Sl.nil:Sl Z9) wA (ku s b:)
 rintro C b;try dsimp only at b
 obtain⟨E,F,b⟩:=b5 b;refine aN kN (fun(z:(Sl Z9))=>[(9,.a (.d (Sl.d 2 Z9.c (some f) z)))]) (fun z=>(tS H f 2 z)) (fun z=>E z=some r) ?_ ?_
 ·intro N u;refine Y3 ?_;refine cO b (fun G b=>?_) (fun G b=>?_)
  ·refine Y5 ?_;obtain⟨g,I,b⟩:=aQ b;refine SH (am Z9.c (TK rfl) rfl (TK rfl) (TK rfl) I) ?_;refine hq (tS H f 2 g) (Y2 ?_);exact u _ g wA b
  refine ag.skip ?_;exact u _ C wA b
 rintro p b;try dsimp only at b
 have b:=ku F b;refine Y4 ?_;exact rt b
def AO (b:ay):Bool:=on (bif (decide (b.aj=(1:Int))) then((decide (b.aj=(1:Int)))) else((decide (b.aj=(2:Int))))) fun f=>bif f then((decide (((b.bA.l.length:Nat):Int)=(0:Int)))) else(on (bif (decide (b.aj=(3:Int))) then((decide (b.aj=(3:Int)))) else((decide (b.aj=(4:Int))))) fun g=>bif g then((decide (((b.bV.l.length:Nat):Int)=(0:Int)))) else(bif (decide (b.aj=(5:Int))) then((decide (((b.bG.l.length:Nat):Int)=(0:Int)))) else(on (()) fun _=>false)))
def AP (b:ay):Option Bool:=some (AO b)
theorem Qv (a0:ay):AP a0=some (AO a0):=rfl
theorem Qw {f r}(b:AP f=some r) (H:ah) :At 59 [.agg (ay.c f)] H (RT (.a (.d (.bool r))) H):=by
 unfold AP AO at b;refine AC.oW 25 [.tmp 2] Tryz.call59 Tryz.func59 ?_;refine Y4 ?_;refine aN kN (fun(z:Unit)=>[]) (fun z=>H) (fun z=>some (false)=some r) ?_ ?_
 ·intro B k;refine Y5 ?_;obtain⟨l,m,b⟩:=eH b;refine aN (tl [1,4]) (fun(z:Bool)=>[(5,.a (.d (.bool z)))]) (fun z=>H) (fun z=>l z=some r) ?_ ?_
  ·intro C g;refine Y4 ?_;refine cP b (fun p b=>?_) (fun p b=>?_)
   ·refine ag.skip ?_;exact g _ (decide (f.aj=(1:Int))) wA b
   refine Y4 ?_;exact g _ (decide (f.aj=(2:Int))) wA b
  rintro E b;try dsimp only at b
  have b:=ku m b;refine cP b (fun q b=>?_) (fun q b=>?_)
  ·refine Y3 ?_;refine aV aT.c f.bA fun F=>Y3 ?_;exact rt b
  obtain⟨s,t,b⟩:=eH b;refine aN (tl [1,4]) (fun(z:Bool)=>[(12,.a (.d (.bool z)))]) (fun z=>H) (fun z=>s z=some r) ?_ ?_
  ·intro G j;refine Y4 ?_;refine cP b (fun u b=>?_) (fun u b=>?_)
   ·refine ag.skip ?_;exact j _ (decide (f.aj=(3:Int))) wA b
   refine Y4 ?_;exact j _ (decide (f.aj=(4:Int))) wA b
  rintro I b;try dsimp only at b
  have b:=ku t b;refine cP b (fun v b=>?_) (fun v b=>?_)
  ·refine Y3 ?_;refine aV bC.c f.bV fun J=>Y3 ?_;exact rt b
  refine Y4 ?_;refine cP b (fun w b=>?_) (fun w b=>?_)
  ·refine Y3 ?_;refine aV az.c f.bG fun K=>Y3 ?_;exact rt b
  refine ag.skip ?_;obtain⟨L,y,b⟩:=eH b;exact k _ () wA (ku y b:)
 rintro _ b;try dsimp only at b
 refine Y3 ?_;exact rt b
def nV (b:Bs):List Bs->Unit ⊕ Bool
 | []=>Sum.inl ()
 | f::g=>on (f) fun j=>bif ((j==b)) then(Sum.inr true) else(nV b (g) )
def uD (j:(Sl Bs)) (b:Bs):Bool:=on (nV b j.l ) fun f=>match f with|Sum.inl _=>(on (()) fun _=>false)|Sum.inr g=>(g)
def AR (f:(Sl Bs)) (b:Bs):Option Bool:=some (uD f b)
theorem Qx (a0:(Sl Bs)) (b:Bs):AR a0 b=some (uD a0 b):=rfl
theorem Jn {f g w0 r}(b:AR f g=some r) (H:ah) :At 113 [.d (Sl.d 1 aW w0 f),.d (.str g)] H (RT (.a (.d (.bool r))) H):=by
 unfold AR uD at b;refine AC.oW 18 [.tmp 4] Tryz.call113 Tryz.func113 ?_;refine Y3 ?_;refine aN kN (fun(z:Unit)=>[]) (fun z=>H) (fun z=>some (false)=some r) ?_ ?_
 ·intro C s;refine Y4 ?_;obtain⟨k,m,b⟩:=eH b;refine bx (tl [0,1]) (fun(z:Nat)=>[(5,vi z)]) (fun z=>H) (fun z=>f.l.length-z) (fun z=>k (nV g (f.l.drop z) )=some r) 0 b wA ?_;rintro p b E t;try dsimp only at b
  refine ar fun F u=>Y3 ?_;refine aV aW f fun G=>Y2 ?_;refine ag.bW (fun l=>k (nV g l )=some r) b rfl (fun I q j b=>?_) (fun j b=>?_)
  ·rw [nV] at b;try dsimp only at j
   have J:=oD j;refine sk u (ar fun K v=>Y4 ?_);obtain⟨L,w,b⟩:=vP q b;refine S (ix aW p w) (Y4 ?_);refine cP b (fun y b=>?_) (fun y b=>?_)
   ·refine Y3 ?_;exact rs (ku m b:)
   refine sk v (Y5 ?_);exact t _ (p+1) wA b (dl q)
  rw [nV] at b;have b:=ku m b;try dsimp only at b
  refine ag.exit ?_;obtain⟨M,B,b⟩:=eH b;exact s _ () wA (ku B b:)
 rintro _ b;try dsimp only at b
 refine Y3 ?_;exact rt b
def xH (b:ax):Option Bool:=a_ ((decide (((b.av.l.length:Nat):Int)=(1:Int)))) (b.av.l[0]?) (0:Int) fun f=>some ((decide (((b.av.l.length:Nat):Int)=(1:Int)))&&(decide (f=(1:Int))))
theorem Qy {f r}(b:xH f=some r) (H:ah) :At 158 [.agg (ax.c f)] H (RT (.a (.d (.bool r))) H):=by
 unfold xH at b;refine AC.oW 14 [.tmp 2] Tryz.call158 Tryz.func158 ?_;refine Y7 ?_;refine aV (bM .i64) f.av fun j=>Y3 ?_;refine Gk 8 ?_;obtain⟨k,g,b⟩:=dV b;refine bE 9 rfl (fun hC=>ix (bM .i64) 0 (g hC)) ?_;refine Gk 10 ?_;refine Gk 11 ?_;refine Y3 ?_;exact rt b
def mC (l:an) (j:Bs):List az->(Sl Bs)->Option ((Sl Bs))
 | [],f=>some f
 | m::p,f=>on (m) fun b=>on (fH l b.aM.aa) fun g=>(xH b.aM).bind fun k=>on (bif (k&&(((b.aM.aa==j))||(g.2&&(decide (g.1.aj=(5:Int)))))) then uD f b.aM.aa else false) fun q=>Option.bind (bif ((k&&(((b.aM.aa==j))||(g.2&&(decide (g.1.aj=(5:Int))))))&&(!q)) then((bq 16 f (⟨false,[b.aM.aa]⟩:Sl Bs)).bind fun r=>some r) else(some f)) fun s=>mC l j (p) s
def AS (j:an) (b:ay) (k:Bs) (m:(Sl Bs)):Option (Sl Bs):=Option.bind (mC j k b.bG.l m) fun f=>on (f) fun g=>some g
def uE (f:an) (b:ay) (g:Bs) (j:(Sl Bs)):Option (Sl Bs):=AS f b g j
theorem Qz (a0:an) (b:ay) (a2:Bs) (a3:(Sl Bs)):uE a0 b a2 a3=AS a0 b a2 a3:=rfl
theorem Jo {g f j k g3 r}(b:uE g f j k=some r) (H:ah) (O:H g3=some (.tok 1 k.l.length)):At 112 [.agg (an.c g),.agg (ay.c f),.d (.str j),.d (Sl.d 1 aW (some g3) k)] H (RT (.a (.d (Sl.d 1 aW (some g3) r))) ((tS H g3 1 r))):=by
 unfold uE AS at b;refine AC.oW 62 [.tmp 8] Tryz.call112 Tryz.func112 ?_;refine hz (tS H g3 1 k) (Y5 ?_);refine aN kN (fun(z:(Sl Bs))=>[(3,.a (.d (Sl.d 1 aW (some g3) z)))]) (fun z=>(tS H g3 1 z)) (fun z=>(some z)=some r) ?_ ?_
 ·intro P y;refine Y4 ?_;obtain⟨m,B,b⟩:=b5 b;refine bx (tl [2,4,5]) (fun(z:(Sl Bs)×Nat)=>[(3,.a (.d (Sl.d 1 aW (some g3) z.1))),(9,vi z.2)]) (fun z=>(tS H g3 1 z.1)) (fun z=>f.bG.l.length-z.2) (fun z=>Option.bind (mC g j (f.bG.l.drop z.2) z.1) m=some r) (k,0) b wA ?_;rintro ⟨p,q⟩ b Q C;try dsimp only at b
  refine ar fun R E=>Y4 ?_;refine aV az.c f.bG fun U=>Y2 ?_;refine ag.bW (fun l=>Option.bind (mC g j l p) m=some r) b rfl (fun W t s b=>?_) (fun s b=>?_)
  ·rw [mC] at b;try dsimp only at s
   have X:=oD s;refine sk E (aN (tl [2,4,5,9]) (fun(z:(Sl Bs))=>[(3,.a (.d (Sl.d 1 aW (some g3) z)))]) (fun z=>(tS H g3 1 z)) (fun z=>Option.bind (mC g j (f.bG.l.drop (q+1)) z) m=some r) ?_ ?_)
   ·intro Y u;refine Y5 ?_;obtain⟨Z,F,b⟩:=vO t b;refine S (ix az.c q F) (Y5 ?_);refine bl 10 _ rfl (kl [2,3,4,5,9]) ?_;refine Y4 ?_;obtain⟨aa,G,b⟩:=dm b;refine Sc rfl rfl (kK G) (Y7 ?_);refine bl 11 _ rfl (kl [2,3,4,5,9,10,12]) ?_;refine Y2 ?_;obtain⟨ab,I,b⟩:=aQ b;refine Sc rfl rfl (Qy I) (Y2 ?_);refine Gk 36 ?_;refine Y1 ?_
    refine G2 37 38 rfl rfl BS ?_;refine Gk 39 ?_;refine Y1 ?_;refine Gk 41 ?_;refine Y1 ?_;refine Gk 43 ?_;refine Gk 44 ?_;refine bE 42 rfl (fun hC=>f_ rfl rfl rfl) ?_;refine bE 40 rfl (fun hC=>kB rfl rfl rfl) ?_;refine Y4 ?_;refine Gk 51 ?_;obtain⟨ad,J,b⟩:=fo (fun _=>rfl) b;refine fV 50 52 rfl rfl rfl rfl rfl rfl (fun hC=>Jn (J hC)) ?_;refine Gk 53 ?_;refine Y2 ?_
    obtain⟨ae,v,b⟩:=eB b;refine cO b (fun K b=>?_) (fun K b=>?_)
    ·refine Y5 ?_;obtain⟨w,L,b⟩:=aQ b;refine SH (am aW (TK rfl) rfl (TK rfl) (TK rfl) L) ?_;refine hq (tS H g3 1 w) (Y2 ?_);exact u _ w wA (ku v b:)
    refine ag.skip ?_;exact u _ p wA (ku v b:)
   rintro M b;try dsimp only at b
   refine Y5 ?_;exact C _ (M,(q+1)) wA b (dl t)
  rw [mC] at b;have b:=ku B b;refine ag.exit ?_;obtain⟨af,N,b⟩:=b8 b;exact y _ p wA (ku N b:)
 rintro ai b;try dsimp only at b
 refine Y4 ?_;exact rt b
def AT (b:ay)  (f:(Sl Bs)):Option Bool:=(AR f b.aa).bind fun g=>some g
def uF (j:an) (f:ay) :Nat->(Sl Bs)->Nat->Option Bool
 | 0,_,_=>none
 | k+1,b,g=>bif (decide (((g:Nat):Int)<((b.l.length:Nat):Int))) then((b.l[g]?).bind fun m=>(xF j m).bind fun p=>(uE j p.1 f.aa b).bind fun q=>(uF j f k) q (g+1)) else(AT f  b)
def xI (f:an) (b:ay):Option Bool:=bif (!decide (b.aj=(5:Int))) then(some false) else((uE f b b.aa (Sl.nil:Sl Bs)).bind fun g=>uF f b F0 g 0)
theorem QA {l g r}(b:xI l g=some r) (H:ah) :At 60 [.agg (an.c l),.agg (ay.c g)] H (RT (.a (.d (.bool r))) H):=by
 unfold xI at b;refine AC.oW 42 [.tmp 4] Tryz.call60 Tryz.func60 ?_;refine ag.tok 1 fun f K=>?_;refine Y5 ?_;refine ar fun L u=>Y5 ?_;refine cE b (fun v b=>?_) (fun v b=>?_)
 ·refine Y3 ?_;refine ry ?_;obtain rfl:=oJ b;refine bR.cK H rfl ⟨rfl,rfl⟩ ?_;exact sy
 refine sk u (Y5 ?_);obtain⟨m,w,b⟩:=bO b;refine sH (bF rfl rfl (AC.uk (.cons (.refl _) (.cons (.refl _) (.cons (.refl _) (.cons (jf.nil (k':=1) (t:=f) au) .nil)))) (Jo w _ au))) rfl ?_;refine hq (tS H f 1 m) (Y2 ?_);refine aN (tl [3]) (fun(z:(Sl Bs))=>[(5,.a (.d (Sl.d 1 aW (some f) z)))]) (fun z=>(tS H f 1 z)) (fun z=>AT g z=some r) ?_ ?_
 ·intro M y;refine Y4 ?_;refine bx (tl [2,3]) (fun(z:Nat×(Sl Bs)×Nat)=>[(5,.a (.d (Sl.d 1 aW (some f) z.2.1))),(6,vi z.2.2)]) (fun z=>(tS H f 1 z.2.1)) (fun z=>z.1) (fun z=>uF l g z.1 z.2.1 z.2.2=some r) (F0,m,0) b wA ?_;rintro ⟨j,p,q⟩ b N B;try dsimp only at b
  cases j with
  | zero=>cases b
  | succ j =>
    rw [uF] at b;refine ar fun O C=>Y3 ?_;refine aV aW p fun P=>Y2 ?_;refine cE b (fun k b=>?_) (fun k b=>?_)
    ·try dsimp only at k
     have Q:=oD k;refine sk C (ar fun R E=>Y5 ?_);obtain⟨S,F,b⟩:=bO b;refine Sd (ix aW q F) (Y1 ?_);obtain⟨U,G,b⟩:=bO b;refine ck rfl rfl (kK G) (Y7 ?_);refine bl 7 _ rfl (kl [2,3,5,6]) ?_;refine Y6 ?_;obtain⟨s,I,b⟩:=bO b;refine sH (bF rfl rfl (Jo I _ au)) rfl ?_;refine hq (tS H f 1 s) (Y2 ?_);refine E _ ?_;refine Y5 ?_
     exact B _ (j,s,(q+1)) wA b (nS _)
    refine ag.exit ?_;exact y _ p wA b
 rintro W b;try dsimp only at b
 unfold AT at b;refine Y4 ?_;obtain⟨X,J,b⟩:=bO b;refine Sc rfl rfl (Jn J) (Y2 ?_);refine ry ?_;obtain rfl:=oJ b;refine bR.cK H rfl ⟨rfl,rfl⟩ ?_;exact sy
def xJ  (b:(Sl Z9)):Option (Sl Z9):=some b
def pY (k:an) (b:ay)  (f:(Sl Z9)):Option (Sl Z9):=(xI k b).bind fun g=>bif g then((bq 24 f (⟨false,[(Z9.mk 5 b.aa)]⟩:Sl Z9)).bind fun j=>xJ   j) else(xJ   f)
def uG (g:an) (b:ay)  (f:(Sl Z9)):Option (Sl Z9):=bif (((((((b.aa==([81,117,101,114,121]:Bs)))||((b.aa==([77,117,116,97,116,105,111,110]:Bs))))||((b.aa==([83,117,98,115,99,114,105,112,116,105,111,110]:Bs))))&&(!decide (b.aj=(1:Int))))||(decide (b.aj<(1:Int))))||(decide ((5:Int)<b.aj))) then((bq 24 f (⟨false,[(Z9.mk 9 b.aa)]⟩:Sl Z9)).bind fun j=>pY g b  j) else(pY g b  f)
def uH (g:an) (b:ay)  (j:Bool):Option (Sl Z9):=(uC b.aa false j b.aa).bind fun f=>(AP b).bind fun k=>bif k then((bq 24 f (⟨false,[(Z9.mk 8 b.aa)]⟩:Sl Z9)).bind fun l=>uG g b  l) else(uG g b  f)
def uI (j:an) (k:Int) (b:ay) :Nat->Bool->Int->Option (Sl Z9)
 | 0,_,_=>none
 | m+1,f,g=>bif (decide (g<k)) then(a_ (!f) (dc j.aA.l g) ay.zero fun p=>(cV g (1:Int)).bind fun q=>(uI j k b m) (f||((p.aa==b.aa))) q) else(uH j b  f)
def AU (g:an) (b:Int):Option (Sl Z9):=(dc g.aA.l b).bind fun f=>(AM f.aa).bind fun j=>uI g b f F0 j (0:Int)
theorem QB {j l r}(b:AU j l=some r) (H:ah) :At 23 [.agg (an.c j),.d (.int .i64 l)] H (RT (.a (.d (Sl.d 2 Z9.c none r))) H):=by
 unfold AU at b;refine AC.oW 94 [.tmp 4] Tryz.call23 Tryz.func23 ?_;refine Y2 ?_;refine s0 (dM (k':=2) rfl) rfl ?_;refine Y5 ?_;obtain⟨k,B,b⟩:=bO b;refine s0 (iK (f:=ay.c) (TK rfl) rfl (TK rfl) rfl rfl rfl B) rfl ?_;refine Y4 ?_;refine bl 5 _ rfl (kl [1,2]) ?_;refine Y3 ?_;obtain⟨C,E,b⟩:=bO b;refine Sc rfl rfl (uy E) (Y2 ?_)
 refine aN (tl [2,5]) (fun(z:Bool)=>[(6,.a (.d (.bool z)))]) (fun z=>H) (fun z=>uH j k z=some r) ?_ ?_
 ·intro af F;refine Y4 ?_;refine bx (tl [1,2,5]) (fun(z:Nat×Bool×Int)=>[(6,.a (.d (.bool z.2.1))),(7,.a (.d (.int .i64 z.2.2)))]) (fun z=>H) (fun z=>z.1) (fun z=>uI j l k z.1 z.2.1 z.2.2=some r) (F0,C,(0:Int)) b wA ?_;rintro ⟨m,p,ai⟩ b aj G;try dsimp only at b
  cases m with
  | zero=>cases b
  | succ m =>
    rw [uI] at b;refine ar fun ak I=>Y5 ?_;refine cE b (fun J b=>?_) (fun J b=>?_)
    ·refine sk I (ar fun al K=>Y1 ?_);refine ag.draw rfl ?_;refine Y3 ?_;refine cG 25 ?_;refine Y1 ?_;obtain⟨L,M,b⟩:=gO b;refine nQ 26 27 rfl rfl (fun hC=>iK (f:=ay.c) (TK rfl) rfl (TK rfl) rfl rfl rfl (M hC)) ?_;refine cG 28 ?_;refine cG 29 ?_;refine Y1 ?_;refine cG 31 ?_;refine D3 30 32 rfl rfl BS ?_;refine Y3 ?_;refine K _ ?_;refine Y2 ?_;obtain⟨N,O,b⟩:=bO b
     refine S (gh O) (Y2 ?_);exact G _ (m,(p||((L.aa==k.aa))),N) wA b (nS _)
    refine ag.exit ?_;exact F _ p wA b
 rintro ao b;try dsimp only at b
 unfold uH at b;refine ag.tok 2 fun g ap=>?_;refine Y6 ?_;obtain⟨q,P,b⟩:=bO b;refine sH (bF rfl rfl (Qu P _ au)) rfl ?_;refine hq (tS H g 2 q) (Y2 ?_);refine aN (tl [2,5]) (fun(z:(Sl Z9))=>[(8,.a (.d (Sl.d 2 Z9.c (some g) z)))]) (fun z=>(tS H g 2 z)) (fun z=>uG j k z=some r) ?_ ?_
 ·intro av s;refine Y2 ?_;obtain⟨aw,Q,b⟩:=bO b;refine Sc rfl rfl (Qw Q) (Y1 ?_);refine cE b (fun R b=>?_) (fun R b=>?_)
  ·refine Y6 ?_;obtain⟨t,U,b⟩:=bO b;refine SH (am Z9.c (TK rfl) rfl (TK rfl) (TK rfl) U) ?_;refine hq (tS H g 2 t) (Y2 ?_);exact s _ t wA b
  refine ag.skip ?_;exact s _ q wA b
 rintro W b;try dsimp only at b
 unfold uG at b;refine Y6 ?_;refine Gk 53 ?_;refine Gk 54 ?_;refine Y3 ?_;refine Gk 58 ?_;refine Gk 59 ?_;refine Y3 ?_;refine aN (tl [2,5]) (fun(z:(Sl Z9))=>[(8,.a (.d (Sl.d 2 Z9.c (some g) z)))]) (fun z=>(tS H g 2 z)) (fun z=>pY j k z=some r) ?_ ?_
 ·intro ax u;refine Y4 ?_;refine Gk 64 ?_;refine Gk 65 ?_;refine Y3 ?_;refine Gk 69 ?_;refine Gk 70 ?_;refine Y3 ?_;refine Gk 74 ?_;refine Gk 75 ?_;refine Y2 ?_;refine cE b (fun X b=>?_) (fun X b=>?_)
  ·refine Y6 ?_;obtain⟨v,Y,b⟩:=bO b;refine SH (am Z9.c (TK rfl) rfl (TK rfl) (TK rfl) Y) ?_;refine hq (tS H g 2 v) (Y2 ?_);exact u _ v wA b
  refine ag.skip ?_;exact u _ W wA b
 rintro Z b;try dsimp only at b
 unfold pY at b;refine aN kN (fun(z:(Sl Z9))=>[(8,.a (.d (Sl.d 2 Z9.c (some g) z)))]) (fun z=>(tS H g 2 z)) (fun z=>xJ z=some r) ?_ ?_
 ·intro az w;refine Y3 ?_;obtain⟨aA,ab,b⟩:=bO b;refine Sc rfl rfl (QA ab) (Y1 ?_);refine cE b (fun ad b=>?_) (fun ad b=>?_)
  ·refine Y6 ?_;obtain⟨y,ae,b⟩:=bO b;refine SH (am Z9.c (TK rfl) rfl (TK rfl) (TK rfl) ae) ?_;refine hq (tS H g 2 y) (Y2 ?_);exact w _ y wA b
  refine ag.skip ?_;exact w _ Z wA b
 rintro aB b;try dsimp only at b
 unfold xJ at b;refine Y4 ?_;refine ag.eG 4 rfl ?_;refine ry ?_;obtain rfl:=oJ b;refine bR.cK H rfl ⟨rfl,rfl⟩ ?_;exact sy
def Eh (f:an) (b:Int):Option (Sl Z9):=AU f b
def mD (j:an) (b:Bs):Bool:=on (fH j b) fun f=>on (fu b) fun g=>(g||f.2)
theorem Jp {g f r}(b:some (mD g f)=some r) (H:ah) :At 62 [.agg (an.c g),.d (.str f)] H (RT (.a (.d (.bool r))) H):=by
 unfold mD at b;refine AC.oW 18 [.tmp 4] Tryz.call62 Tryz.func62 ?_;refine Y7 ?_;obtain⟨l,j,b⟩:=eL b;refine Sc rfl rfl (kK j) (Y7 ?_);refine bl 5 _ rfl (kl [1,6]) ?_;refine Y2 ?_;obtain⟨m,k,b⟩:=eL b;refine Sc rfl rfl (uy k) (Y5 ?_);exact rt b
def lD (b:Bs):List az->Unit ⊕ ((az×Bool))
 | []=>Sum.inl ()
 | f::g=>on (f) fun j=>bif ((j.aa==b)) then(on (f) fun k=>Sum.inr (k,true)) else(lD b (g) )
def lE (j:(Sl az)) (b:Bs):(az×Bool):=on (lD b j.l ) fun f=>match f with|Sum.inl _=>(on (()) fun _=>((az.mk [] ax.zero false af.zero Sl.nil),false))|Sum.inr g=>(g)
theorem AV {f g w0 r}(b:some (lE f g)=some r) (H:ah) :At 63 [.d (Sl.d 10 az.c w0 f),.d (.str g)] H (RT (.b_ [.agg (az.c r.1),.d (.bool r.2)]) H):=by
 unfold lE at b;refine AC.oW 25 [.cell 4 112,.tmp 5] Tryz.call63 Tryz.func63 ?_;refine Y4 ?_;refine fh (tl [4]) (fun(z:az)=>[]) (fun z=>[az.c z]) (fun z=>H) (fun z=>some (((az.mk [] ax.zero false af.zero Sl.nil),false))=some r) ?_ ?_
 ·intro F t;refine Y4 ?_;obtain⟨p,q,b⟩:=eH b;refine iA (tl [0,1,4]) (fun(z:Nat×az)=>[(6,vi z.1)]) (fun z=>[az.c z.2]) (fun z=>H) (fun z=>f.l.length-z.1) (fun z=>p (lD g (f.l.drop z.1) )=some r) (0,az.zero) b wA ?_;rintro ⟨j,s⟩ b G u;try dsimp only at b
  refine ar fun I v=>Y3 ?_;refine aV az.c f fun J=>Y2 ?_;refine ag.bW (fun l=>p (lD g l )=some r) b rfl (fun K k m b=>?_) (fun m b=>?_)
  ·rw [lD] at b;try dsimp only at m
   have L:=oD m;refine sk v (ar fun M w=>Y4 ?_);obtain⟨N,y,b⟩:=vP k b;refine S (ix az.c j y) (Y5 ?_);refine cP b (fun B b=>?_) (fun B b=>?_)
   ·refine Y3 ?_;obtain⟨O,C,b⟩:=vP k b;refine S (ix az.c j C) (Y4 ?_);exact rs (ku q b:)
   refine sk w (Y5 ?_);exact u _ ((j+1),s) wA b (dl k)
  rw [lD] at b;have b:=ku q b;try dsimp only at b
  refine ag.exit ?_;obtain⟨P,E,b⟩:=eH b;exact t _ s wA (ku E b:)
 rintro Q b;try dsimp only at b
 refine Y5 ?_;exact rt b
def Ei (j:an) (b:Bs):Bool:=on (fH j b) fun f=>on (fu b) fun g=>(g||(f.2&&(decide (f.1.aj=(4:Int)))))
theorem QC {g f r}(b:some (Ei g f)=some r) (H:ah) :At 114 [.agg (an.c g),.d (.str f)] H (RT (.a (.d (.bool r))) H):=by
 unfold Ei at b;refine AC.oW 23 [.tmp 4] Tryz.call114 Tryz.func114 ?_;refine Y7 ?_;obtain⟨l,j,b⟩:=eL b;refine Sc rfl rfl (kK j) (Y7 ?_);refine bl 5 _ rfl (kl [1,6]) ?_;refine Y2 ?_;obtain⟨m,k,b⟩:=eL b;refine Sc rfl rfl (uy k) (Y2 ?_);refine Gk 16 ?_;refine Y1 ?_;refine Gk 18 ?_;refine Gk 19 ?_;refine bE 17 rfl (fun hC=>f_ rfl rfl rfl) ?_;refine Y3 ?_;exact rt b
def lF (g:an) (b:Bs):Bool:=on (fH g b) fun f=>on (Ei g b) fun j=>(j||(f.2&&(decide (f.1.aj=(5:Int)))))
theorem Ej {g f r}(b:some (lF g f)=some r) (H:ah) :At 64 [.agg (an.c g),.d (.str f)] H (RT (.a (.d (.bool r))) H):=by
 unfold lF at b;refine AC.oW 24 [.tmp 4] Tryz.call64 Tryz.func64 ?_;refine Y7 ?_;obtain⟨l,j,b⟩:=eL b;refine Sc rfl rfl (kK j) (Y7 ?_);refine bl 5 _ rfl (kl [1,2,6]) ?_;refine Y3 ?_;obtain⟨m,k,b⟩:=eL b;refine Sc rfl rfl (QC k) (Y2 ?_);refine Gk 17 ?_;refine Y1 ?_;refine Gk 19 ?_;refine Gk 20 ?_;refine bE 18 rfl (fun hC=>f_ rfl rfl rfl) ?_;refine Y3 ?_;exact rt b
def mF (p:an) (f:(Sl az)) (q:Bs) (r:Bs):List az->Nat->(Sl Z9)->Option ((Sl Z9))
 | [],g,j=>some j
 | b::s,g,j=>on (b) fun t=>(cC q t.aa).bind fun u=>(cC u r).bind fun k=>on ((⟨f.nl,f.l.take g⟩:Sl az)) fun v=>on (b) fun w=>on (lE v w.aa) fun y=>on (b) fun z=>(lC z.aa false y.2 k).bind fun B=>(bq 24 j B).bind fun m=>on (b) fun C=>on (mD p C.aM.aa) fun E=>Option.bind (bif (!E) then((bq 24 m (⟨false,[(Z9.mk 8 k)]⟩:Sl Z9)).bind fun F=>some F) else(on (b) fun G=>on (lF p G.aM.aa) fun H=>bif (!H) then((bq 24 m (⟨false,[(Z9.mk 10 k)]⟩:Sl Z9)).bind fun I=>some I) else(some m))) fun J=>mF p f q r (s) (g+1) J
def pZ (j:an) (b:(Sl az)) (k:Bs) (m:Bs):Option (Sl Z9):=Option.bind (mF j b k m b.l 0 (Sl.nil:Sl Z9)) fun f=>on (f) fun g=>some g
theorem Jq {p k q s F r}(b:pZ p k q s=some r) (H:ah) :At 26 [.agg (an.c p),.d (Sl.d 10 az.c F k),.d (.str q),.d (.str s)] H (RT (.a (.d (Sl.d 2 Z9.c none r))) H):=by
 unfold pZ at b;refine AC.oW 80 [.tmp 8] Tryz.call26 Tryz.func26 ?_;refine ag.tok 2 fun g al=>?_;refine Y2 ?_;refine s0 (dM (k':=2) rfl) rfl ?_;refine Y4 ?_;refine ag.gv 9 2 g rfl au ?_;refine aN kN (fun(z:(Sl Z9))=>[(9,.a (.d (Sl.d 2 Z9.c (some g) z)))]) (fun z=>(tS H g 2 z)) (fun z=>(some z)=some r) ?_ ?_
 ·intro ao G;refine Y4 ?_;obtain⟨t,I,b⟩:=b5 b;refine bx (tl [1,2,3,4]) (fun(z:(Sl Z9)×Nat)=>[(9,.a (.d (Sl.d 2 Z9.c (some g) z.1))),(10,vi z.2)]) (fun z=>(tS H g 2 z.1)) (fun z=>k.l.length-z.2) (fun z=>Option.bind (mF p k q s (k.l.drop z.2) z.2 z.1) t=some r) ((Sl.nil:Sl Z9),0) b wA ?_;rintro ⟨y,j⟩ b ap J;try dsimp only at b
  refine ar fun av K=>Y3 ?_;refine aV az.c k fun aw=>Y2 ?_;refine ag.bW (fun l=>Option.bind (mF p k q s l j y) t=some r) b rfl (fun ax m u b=>?_) (fun u b=>?_)
  ·rw [mF] at b;try dsimp only at u
   have ay:=oD u;refine sk K (aN (tl [1,2,3,4,10]) (fun(z:(Sl Z9))=>[(9,.a (.d (Sl.d 2 Z9.c (some g) z)))]) (fun z=>(tS H g 2 z)) (fun z=>Option.bind (mF p k q s (k.l.drop (j+1)) (j+1) z) t=some r) ?_ ?_)
   ·intro aA v;refine Y5 ?_;obtain⟨aB,L,b⟩:=vO m b;refine S (ix az.c j L) (Y2 ?_);obtain⟨aC,M,b⟩:=aQ b;refine S (eN M) (Y1 ?_);obtain⟨aD,N,b⟩:=aQ b;refine S (eN N) (Y5 ?_);obtain⟨aE,O,b⟩:=vO (Q.mB (by omega)) b;refine aH.s0 (jg (f:=az.c) (l:=none) (r:=(some ((j:Nat):Int))) (TK rfl) rfl (TK rfl) rfl rfl trivial rfl O) rfl ?_;refine Y2 ?_
    obtain⟨aF,P,b⟩:=vO m b;refine Sd (ix az.c j P) (Y2 ?_);obtain⟨aG,R,b⟩:=dm b;refine ck rfl rfl (AV R) (Y7 ?_);refine bl 12 _ rfl (kl [1,2,3,4,9,10,11,13]) ?_;refine Y4 ?_;obtain⟨aJ,U,b⟩:=vO m b;refine S (ix az.c j U) (Y4 ?_);obtain⟨aK,W,b⟩:=aQ b;refine Sc rfl rfl (Eg W) ?_;obtain⟨B,X,b⟩:=aQ b
    refine SH (am Z9.c (TK rfl) rfl (TK rfl) (TK rfl) X) ?_;refine hq (tS H g 2 B) (Y6 ?_);obtain⟨aL,Y,b⟩:=vO m b;refine Sd (ix az.c j Y) (Y3 ?_);obtain⟨aM,Z,b⟩:=dm b;refine ck rfl rfl (Jp Z) (Y2 ?_);obtain⟨aO,w,b⟩:=eB b;refine cO b (fun aa b=>?_) (fun aa b=>?_)
    ·refine Y5 ?_;obtain⟨C,ab,b⟩:=aQ b;refine SH (am Z9.c (TK rfl) rfl (TK rfl) (TK rfl) ab) ?_;refine hq (tS H g 2 C) (Y2 ?_);exact v _ C wA (ku w b:)
    refine Y4 ?_;obtain⟨aP,ad,b⟩:=vO m b;refine Sd (ix az.c j ad) (Y3 ?_);obtain⟨aR,ae,b⟩:=dm b;refine ck rfl rfl (Ej ae) (Y2 ?_);refine cO b (fun af b=>?_) (fun af b=>?_)
    ·refine Y5 ?_;obtain⟨E,ai,b⟩:=aQ b;refine SH (am Z9.c (TK rfl) rfl (TK rfl) (TK rfl) ai) ?_;refine hq (tS H g 2 E) (Y2 ?_);exact v _ E wA (ku w b:)
    refine ag.skip ?_;exact v _ B wA (ku w b:)
   rintro aj b;try dsimp only at b
   refine Y5 ?_;exact J _ (aj,(j+1)) wA b (dl m)
  rw [mF] at b;have b:=ku I b;refine ag.exit ?_;obtain⟨aS,ak,b⟩:=b8 b;exact G _ y wA (ku ak b:)
 rintro aT b;try dsimp only at b
 refine Y4 ?_;refine ag.eG 8 rfl ?_;refine ry ?_;obtain rfl:=oJ b;refine bR.cK H rfl ⟨rfl,rfl⟩ ?_;exact sy
def lG (b:Bs):List aT->Unit ⊕ ((aT×Bool))
 | []=>Sum.inl ()
 | f::g=>on (f) fun j=>bif ((j.aa==b)) then(on (f) fun k=>Sum.inr (k,true)) else(lG b (g) )
def p7 (j:ay) (b:Bs):(aT×Bool):=on (lG b j.bA.l ) fun f=>match f with|Sum.inl _=>(on (()) fun _=>((aT.mk [] Sl.nil ax.zero Sl.nil),false))|Sum.inr g=>(g)
theorem Jr {f g r}(b:some (p7 f g)=some r) (H:ah) :At 61 [.agg (ay.c f),.d (.str g)] H (RT (.b_ [.agg (aT.c r.1),.d (.bool r.2)]) H):=by
 unfold p7 at b;refine AC.oW 28 [.cell 4 58,.tmp 5] Tryz.call61 Tryz.func61 ?_;refine Y5 ?_;refine fh (tl [4]) (fun(z:aT)=>[]) (fun z=>[aT.c z]) (fun z=>H) (fun z=>some (((aT.mk [] Sl.nil ax.zero Sl.nil),false))=some r) ?_ ?_
 ·intro F t;refine Y4 ?_;obtain⟨p,q,b⟩:=eH b;refine iA (tl [1,2,4]) (fun(z:Nat×aT)=>[(6,vi z.1)]) (fun z=>[aT.c z.2]) (fun z=>H) (fun z=>f.bA.l.length-z.1) (fun z=>p (lG g (f.bA.l.drop z.1) )=some r) (0,aT.zero) b wA ?_;rintro ⟨j,s⟩ b G u;try dsimp only at b
  refine ar fun I v=>Y4 ?_;refine aV aT.c f.bA fun J=>Y2 ?_;refine ag.bW (fun l=>p (lG g l )=some r) b rfl (fun K k m b=>?_) (fun m b=>?_)
  ·rw [lG] at b;try dsimp only at m
   have L:=oD m;refine sk v (ar fun M w=>Y5 ?_);obtain⟨N,y,b⟩:=vP k b;refine S (ix aT.c j y) (Y5 ?_);refine cP b (fun B b=>?_) (fun B b=>?_)
   ·refine Y4 ?_;obtain⟨O,C,b⟩:=vP k b;refine S (ix aT.c j C) (Y4 ?_);exact rs (ku q b:)
   refine sk w (Y5 ?_);exact u _ ((j+1),s) wA b (dl k)
  rw [lG] at b;have b:=ku q b;try dsimp only at b
  refine ag.exit ?_;obtain⟨P,E,b⟩:=eH b;exact t _ s wA (ku E b:)
 rintro Q b;try dsimp only at b
 refine Y5 ?_;exact rt b
def lH (j:an) (f:ay):List aT->Nat->(Sl Z9)->Option ((Sl Z9))
 | [],k,m=>some m
 | r::s,k,m=>on (r) fun b=>(cC f.aa ([46]:Bs)).bind fun t=>(cC t b.aa).bind fun g=>on ((⟨f.bA.nl,f.bA.l.take k⟩:Sl aT)) fun u=>on (p7 (ay.mk 0 [] Sl.nil Sl.nil u Sl.nil Sl.nil) b.aa) fun v=>(lC b.aa false v.2 g).bind fun w=>(bq 24 m w).bind fun p=>on (fH j b.aM.aa) fun q=>on (mD j b.aM.aa) fun y=>Option.bind (bif (!y) then((bq 24 p (⟨false,[(Z9.mk 8 g)]⟩:Sl Z9)).bind fun z=>some z) else(on (fu b.aM.aa) fun B=>bif (((!B)&&q.2)&&(decide (q.1.aj=(5:Int)))) then((bq 24 p (⟨false,[(Z9.mk 10 g)]⟩:Sl Z9)).bind fun C=>some C) else(some p))) fun E=>(cC g ([40]:Bs)).bind fun F=>(pZ j b.aG F ([41]:Bs)).bind fun G=>(bq 24 E G).bind fun H=>on (H) fun I=>lH j f (s) (k+1) I
def xK (j:an) (b:ay):Option (Sl Z9):=Option.bind (lH j b b.bA.l 0 (Sl.nil:Sl Z9)) fun f=>on (f) fun g=>some g
theorem QD {m j r}(b:xK m j=some r) (H:ah) :At 24 [.agg (an.c m),.agg (ay.c j)] H (RT (.a (.d (Sl.d 2 Z9.c none r))) H):=by
 unfold xK at b;refine AC.oW 95 [.tmp 4] Tryz.call24 Tryz.func24 ?_;refine ag.tok 2 fun g aw=>?_;refine Y3 ?_;refine s0 (dM (k':=2) rfl) rfl ?_;refine Y4 ?_;refine ag.gv 5 2 g rfl au ?_;refine aN kN (fun(z:(Sl Z9))=>[(5,.a (.d (Sl.d 2 Z9.c (some g) z)))]) (fun z=>(tS H g 2 z)) (fun z=>(some z)=some r) ?_ ?_
 ·intro ax I;refine Y4 ?_;obtain⟨p,J,b⟩:=b5 b;refine bx (tl [2,3]) (fun(z:(Sl Z9)×Nat)=>[(5,.a (.d (Sl.d 2 Z9.c (some g) z.1))),(6,vi z.2)]) (fun z=>(tS H g 2 z.1)) (fun z=>j.bA.l.length-z.2) (fun z=>Option.bind (lH m j (j.bA.l.drop z.2) z.2 z.1) p=some r) ((Sl.nil:Sl Z9),0) b wA ?_;rintro ⟨w,k⟩ b az K;try dsimp only at b
  refine ar fun aA L=>Y4 ?_;refine aV aT.c j.bA fun aB=>Y2 ?_;refine ag.bW (fun l=>Option.bind (lH m j l k w) p=some r) b rfl (fun aC y s b=>?_) (fun s b=>?_)
  ·rw [lH] at b;try dsimp only at s
   have aD:=oD s;refine sk L (aN (tl [2,3,6]) (fun(z:(Sl Z9))=>[(5,.a (.d (Sl.d 2 Z9.c (some g) z)))]) (fun z=>(tS H g 2 z)) (fun z=>Option.bind (lH m j (j.bA.l.drop (k+1)) (k+1) z) p=some r) ?_ ?_)
   ·intro aE M;refine Y5 ?_;obtain⟨N,O,b⟩:=vO y b;refine S (ix aT.c k O) (Y4 ?_);refine bl 7 _ rfl (kl [2,3,5,6]) ?_;refine Y3 ?_;obtain⟨aF,P,b⟩:=aQ b;refine S (eN P) (Y2 ?_);obtain⟨R,U,b⟩:=aQ b;refine S (eN U) (Y6 ?_);obtain⟨aJ,W,b⟩:=vO (Q.mB (by omega)) b
    refine aH.s0 (jg (f:=aT.c) (l:=none) (r:=(some ((k:Nat):Int))) (TK rfl) rfl (TK rfl) rfl rfl trivial rfl W) rfl ?_;refine Y3 ?_;obtain⟨aK,X,b⟩:=dm b;refine ck rfl rfl (Jr X) (Y7 ?_);refine bl 9 _ rfl (kl [2,3,5,6,7,8,10]) ?_;refine Y6 ?_;obtain⟨aL,Y,b⟩:=aQ b;refine Sc rfl rfl (Eg Y) ?_;obtain⟨B,Z,b⟩:=aQ b
    refine SH (am Z9.c (TK rfl) rfl (TK rfl) (TK rfl) Z) ?_;refine hq (tS H g 2 B) (Y7 ?_);obtain⟨aM,aa,b⟩:=dm b;refine Sc rfl rfl (kK aa) (Y7 ?_);refine bl 11 _ rfl (kl [2,3,5,6,7,8,12]) ?_
    refine aN (tl [2,3,6,7,8]) (fun(z:(Sl Z9))=>[(5,.a (.d (Sl.d 2 Z9.c (some g) z)))]) (fun z=>(tS H g 2 z)) (fun z=>Option.bind ((cC R ([40]:Bs)).bind fun C=>(pZ m N.aG C ([41]:Bs)).bind fun E=>(bq 24 z E).bind fun q=>on (q) fun t=>lH m j (j.bA.l.drop (k+1)) (k+1) t) p=some r) ?_ ?_
    ·intro aO u;refine Y5 ?_;obtain⟨aP,ab,b⟩:=dm b;refine Sc rfl rfl (Jp ab) (Y2 ?_);obtain⟨aR,v,b⟩:=eB b;refine cO b (fun ad b=>?_) (fun ad b=>?_)
     ·refine Y5 ?_;obtain⟨F,ae,b⟩:=aQ b;refine SH (am Z9.c (TK rfl) rfl (TK rfl) (TK rfl) ae) ?_;refine hq (tS H g 2 F) (Y2 ?_);exact u _ F wA (ku v b:)
     refine Y4 ?_;obtain⟨aS,af,b⟩:=dm b;refine Sc rfl rfl (uy af) (Y6 ?_);refine Gk 77 ?_;refine Gk 78 ?_;refine Y2 ?_;refine cO b (fun ai b=>?_) (fun ai b=>?_)
     ·refine Y5 ?_;obtain⟨G,aj,b⟩:=aQ b;refine SH (am Z9.c (TK rfl) rfl (TK rfl) (TK rfl) aj) ?_;refine hq (tS H g 2 G) (Y2 ?_);exact u _ G wA (ku v b:)
     refine ag.skip ?_;exact u _ B wA (ku v b:)
    rintro aU b;try dsimp only at b
    refine Y6 ?_;obtain⟨C,ak,b⟩:=aQ b;refine S (eN ak) ?_;obtain⟨E,al,b⟩:=aQ b;refine Sc rfl rfl (Jq al) ?_;obtain⟨q,ao,b⟩:=aQ b;refine SH (am Z9.c (TK rfl) rfl (TK rfl) (TK rfl) ao) ?_;refine hq (tS H g 2 q) (Y2 ?_);obtain⟨aW,ap,b⟩:=gB b;exact M _ q wA (ku ap b:)
   rintro t b;try dsimp only at b
   refine Y5 ?_;exact K _ (t,(k+1)) wA b (dl y)
  rw [lH] at b;have b:=ku J b;refine ag.exit ?_;obtain⟨aX,av,b⟩:=b8 b;exact I _ w wA (ku av b:)
 rintro aY b;try dsimp only at b
 refine Y4 ?_;refine ag.eG 4 rfl ?_;refine ry ?_;obtain rfl:=oJ b;refine bR.cK H rfl ⟨rfl,rfl⟩ ?_;exact sy
def nW (j:ay) (g:bC):Nat->Nat->Bool->Option (Bool)
 | 0,f,b=>some b
 | k+1,f,b=>a_ (!b) (j.bV.l[f]?) bC.zero fun m=>nW j g (k) (f+1) (b||((m.aa==g.aa)))
def kL (j:ay):List bC->Nat->(Sl Z9)->Option ((Sl Z9))
 | [],f,g=>some g
 | k::l,f,g=>on (k) fun b=>Option.bind (nW j b f 0 false) fun m=>on (m) fun p=>(cC j.aa ([46]:Bs)).bind fun q=>(cC q b.aa).bind fun r=>(lC b.aa ((((b.aa==([116,114,117,101]:Bs)))||((b.aa==([102,97,108,115,101]:Bs))))||((b.aa==([110,117,108,108]:Bs)))) p r).bind fun s=>(bq 24 g s).bind fun t=>on (t) fun u=>kL j (l) (f+1) u
def xL (b:ay):Option (Sl Z9):=Option.bind (kL b b.bV.l 0 (Sl.nil:Sl Z9)) fun f=>on (f) fun g=>some g
theorem QE {f r}(b:xL f=some r) (H:ah) :At 25 [.agg (ay.c f)] H (RT (.a (.d (Sl.d 2 Z9.c none r))) H):=by
 unfold xL at b;refine AC.oW 58 [.tmp 2] Tryz.call25 Tryz.func25 ?_;refine ag.tok 2 fun g aj=>?_;refine Y2 ?_;refine s0 (dM (k':=2) rfl) rfl ?_;refine Y4 ?_;refine ag.gv 3 2 g rfl au ?_;refine aN kN (fun(z:(Sl Z9))=>[(3,.a (.d (Sl.d 2 Z9.c (some g) z)))]) (fun z=>(tS H g 2 z)) (fun z=>(some z)=some r) ?_ ?_
 ·intro ak G;refine Y4 ?_;obtain⟨p,I,b⟩:=b5 b;refine bx (tl [1]) (fun(z:(Sl Z9)×Nat)=>[(3,.a (.d (Sl.d 2 Z9.c (some g) z.1))),(4,vi z.2)]) (fun z=>(tS H g 2 z.1)) (fun z=>f.bV.l.length-z.2) (fun z=>Option.bind (kL f (f.bV.l.drop z.2) z.2 z.1) p=some r) ((Sl.nil:Sl Z9),0) b wA ?_;rintro ⟨m,j⟩ b al J;try dsimp only at b
  refine ar fun an K=>Y4 ?_;refine aV bC.c f.bV fun ao=>Y2 ?_;refine ag.bW (fun l=>Option.bind (kL f l j m) p=some r) b rfl (fun ap y s b=>?_) (fun s b=>?_)
  ·rw [kL] at b;try dsimp only at s
   have av:=oD s;refine sk K (aN (tl [1,4]) (fun(z:(Sl Z9))=>[(3,.a (.d (Sl.d 2 Z9.c (some g) z)))]) (fun z=>(tS H g 2 z)) (fun z=>Option.bind (kL f (f.bV.l.drop (j+1)) (j+1) z) p=some r) ?_ ?_)
   ·intro aw L;refine Y5 ?_;obtain⟨k,M,b⟩:=vO y b;refine S (ix bC.c j M) (Y7 ?_)
    refine aN (tl [1,3,4,5]) (fun(z:Bool)=>[(6,.a (.d (.bool z)))]) (fun z=>(tS H g 2 m)) (fun z=>Option.bind ((cC f.aa ([46]:Bs)).bind fun B=>(cC B k.aa).bind fun C=>(lC k.aa ((((k.aa==([116,114,117,101]:Bs)))||((k.aa==([102,97,108,115,101]:Bs))))||((k.aa==([110,117,108,108]:Bs)))) z C).bind fun E=>(bq 24 m E).bind fun q=>on (q) fun t=>kL f (f.bV.l.drop (j+1)) (j+1) t) p=some r) ?_ ?_
    ·intro ax N;refine Y4 ?_;obtain⟨F,O,b⟩:=eB b;refine bx (tl [1,3,4,5]) (fun(z:Bool×Nat)=>[(6,.a (.d (.bool z.1))),(7,vi z.2)]) (fun z=>(tS H g 2 m)) (fun z=>j-z.2) (fun z=>Option.bind (nW f k (j-z.2) z.2 z.1) F=some r) (false,0) b wA ?_;rintro ⟨u,v⟩ b az P;try dsimp only at b
     refine ar fun aA Q=>Y5 ?_;refine ag.I8 (fun l=>Option.bind (nW f k l v u) F=some r) b rfl (fun R w b=>?_) (fun w b=>?_)
     ·rw [nW] at b;try dsimp only at w
      have aB:=oD w;refine sk Q (ar fun aC U=>Y5 ?_);refine Gk 28 ?_;refine Y1 ?_;obtain⟨W,X,b⟩:=fG b;refine fc 29 30 rfl rfl (fun hC=>ix bC.c v (X hC)) ?_;refine Gk 31 ?_;refine Gk 32 ?_;refine Y1 ?_;refine G2 33 34 rfl rfl BS ?_;refine Y3 ?_;refine U _ ?_;refine Y5 ?_;exact P _ ((u||((W.aa==k.aa))),(v+1)) wA b (dn R)
     rw [nW] at b;have b:=ku O b;refine ag.exit ?_;obtain⟨aD,Y,b⟩:=gB b;exact N _ u wA (ku Y b:)
    rintro aE b;try dsimp only at b
    refine Y7 ?_;refine Gk 42 ?_;refine Y3 ?_;refine Gk 46 ?_;refine Y4 ?_;obtain⟨B,Z,b⟩:=aQ b;refine S (eN Z) (Y1 ?_);obtain⟨C,ab,b⟩:=aQ b;refine S (eN ab) ?_;obtain⟨E,ad,b⟩:=aQ b;refine Sc rfl rfl (Eg ad) ?_;obtain⟨q,ae,b⟩:=aQ b;refine SH (am Z9.c (TK rfl) rfl (TK rfl) (TK rfl) ae) ?_;refine hq (tS H g 2 q) (Y2 ?_);obtain⟨aF,af,b⟩:=gB b
    exact L _ q wA (ku af b:)
   rintro t b;try dsimp only at b
   refine Y5 ?_;exact J _ (t,(j+1)) wA b (dl y)
  rw [kL] at b;have b:=ku I b;refine ag.exit ?_;obtain⟨aG,ai,b⟩:=b8 b;exact G _ m wA (ku ai b:)
 rintro aJ b;try dsimp only at b
 refine Y4 ?_;refine ag.eG 2 rfl ?_;refine ry ?_;obtain rfl:=oJ b;refine bR.cK H rfl ⟨rfl,rfl⟩ ?_;exact sy
def mG (g:an):List ay->Nat->(Sl Z9)->Option ((Sl Z9))
 | [],j,k=>some k
 | l::m,j,k=>on (l) fun b=>(Eh g ((j:Nat):Int)).bind fun p=>(bq 24 k p).bind fun f=>on (bif (decide (b.aj=(1:Int))) then((decide (b.aj=(1:Int)))) else((decide (b.aj=(2:Int))))) fun q=>Option.bind (bif q then((xK g b).bind fun r=>(bq 24 f r).bind fun s=>some s) else(bif (decide (b.aj=(4:Int))) then((xL b).bind fun t=>(bq 24 f t).bind fun u=>some u) else(bif (decide (b.aj=(5:Int))) then((cC b.aa ([46]:Bs)).bind fun v=>(pZ g b.bG v ([]:Bs)).bind fun w=>(bq 24 f w).bind fun y=>some y) else(some f)))) fun z=>mG g (m) (j+1) z
def xM (b:an) (g:Bool):Option (Sl Z9):=Option.bind (mG b b.aA.l 0 (Sl.nil:Sl Z9)) fun j=>on (j) fun f=>on (fH b ([81,117,101,114,121]:Bs)) fun k=>Option.bind (bif (g&&(!k.2)) then((bq 24 f (⟨false,[(Z9.mk 30 [81,117,101,114,121])]⟩:Sl Z9)).bind fun m=>some m) else(some f)) fun p=>some p
theorem QG {g:an}{q:Bool}{r:Sl Z9}(b:xM g q=some r) (H:ah){f:Nat}(aC:H f=some (.tok 2 0)):At 11 [.agg (an.c g),.d (.bool q)] H (RT (.a (.d (Sl.d 2 Z9.c (some f) r))) (H.set f (some (.tok 2 r.l.length)))):=by
 unfold xM at b;refine AC.oW 69 [.tmp 4] Tryz.call11 Tryz.func11 ?_;refine hz (H.set f (some (.tok 2 0))) (Y7 ?_);refine ag.gv 5 2 f rfl au ?_
 refine aN (tl [1,2]) (fun(z:(Sl Z9))=>[(5,.a (.d (Sl.d 2 Z9.c (some f) z)))]) (fun z=>(tS H f 2 z)) (fun z=>(on (fH g ([81,117,101,114,121]:Bs)) fun v=>Option.bind (bif (q&&(!v.2)) then((bq 24 z (⟨false,[(Z9.mk 30 [81,117,101,114,121])]⟩:Sl Z9)).bind fun k=>some k) else(some z)) fun w=>some w)=some r) ?_ ?_
 ·intro aD K;refine Y4 ?_;obtain⟨s,L,b⟩:=b5 b;refine bx (tl [1,2]) (fun(z:(Sl Z9)×Nat)=>[(5,.a (.d (Sl.d 2 Z9.c (some f) z.1))),(6,vi z.2)]) (fun z=>(tS H f 2 z.1)) (fun z=>g.aA.l.length-z.2) (fun z=>Option.bind (mG g (g.aA.l.drop z.2) z.2 z.1) s=some r) ((Sl.nil:Sl Z9),0) b wA ?_;rintro ⟨y,j⟩ b aE M;try dsimp only at b
  refine ar fun aF N=>Y4 ?_;refine aV ay.c g.aA fun aG=>Y2 ?_;refine ag.bW (fun l=>Option.bind (mG g l j y) s=some r) b rfl (fun aJ B t b=>?_) (fun t b=>?_)
  ·rw [mG] at b;try dsimp only at t
   have aK:=oD t;refine sk N (aN (tl [1,2,6]) (fun(z:(Sl Z9))=>[(5,.a (.d (Sl.d 2 Z9.c (some f) z)))]) (fun z=>(tS H f 2 z)) (fun z=>Option.bind (mG g (g.aA.l.drop (j+1)) (j+1) z) s=some r) ?_ ?_)
   ·intro aL m;refine Y5 ?_;obtain⟨C,O,b⟩:=vO B b;refine S (ix ay.c j O) (Y4 ?_);refine bl 7 _ rfl (kl [1,2,5,6]) ?_;refine Y4 ?_;obtain⟨aM,P,b⟩:=aQ b;refine Sc rfl rfl (QB P) ?_;obtain⟨u,Q,b⟩:=aQ b;refine SH (am Z9.c (TK rfl) rfl (TK rfl) (TK rfl) Q) ?_;refine hq (tS H f 2 u) (Y7 ?_);obtain⟨R,U,b⟩:=gB b
    refine aN (tl [1,2,5,6,7,28]) (fun(z:Bool)=>[(29,.a (.d (.bool z)))]) (fun z=>(tS H f 2 u)) (fun z=>R z=some r) ?_ ?_
    ·intro aO E;refine Y4 ?_;refine cP b (fun W b=>?_) (fun W b=>?_)
     ·refine ag.skip ?_;exact E _ (decide (C.aj=(1:Int))) wA b
     refine Y4 ?_;exact E _ (decide (C.aj=(2:Int))) wA b
    rintro aP b;try dsimp only at b
    have b:=ku U b;obtain⟨aR,p,b⟩:=eB b;refine cO b (fun X b=>?_) (fun X b=>?_)
    ·refine Y4 ?_;obtain⟨aS,Y,b⟩:=aQ b;refine Sc rfl rfl (QD Y) ?_;obtain⟨F,Z,b⟩:=aQ b;refine SH (am Z9.c (TK rfl) rfl (TK rfl) (TK rfl) Z) ?_;refine hq (tS H f 2 F) (Y2 ?_);exact m _ F wA (ku p b:)
    refine Y4 ?_;refine cO b (fun aa b=>?_) (fun aa b=>?_)
    ·refine Y3 ?_;obtain⟨aT,ab,b⟩:=aQ b;refine Sc rfl rfl (QE ab) ?_;obtain⟨G,ad,b⟩:=aQ b;refine SH (am Z9.c (TK rfl) rfl (TK rfl) (TK rfl) ad) ?_;refine hq (tS H f 2 G) (Y2 ?_);exact m _ G wA (ku p b:)
    refine Y4 ?_;refine cO b (fun ae b=>?_) (fun ae b=>?_)
    ·refine Y7 ?_;obtain⟨aU,af,b⟩:=aQ b;refine S (eN af) ?_;obtain⟨aW,ai,b⟩:=aQ b;refine Sc rfl rfl (Jq ai) ?_;obtain⟨I,ak,b⟩:=aQ b;refine SH (am Z9.c (TK rfl) rfl (TK rfl) (TK rfl) ak) ?_;refine hq (tS H f 2 I) (Y2 ?_);exact m _ I wA (ku p b:)
    refine ag.skip ?_;exact m _ u wA (ku p b:)
   rintro al b;try dsimp only at b
   refine Y5 ?_;exact M _ (al,(j+1)) wA b (dl B)
  rw [mG] at b;have b:=ku L b;refine ag.exit ?_;obtain⟨aX,ao,b⟩:=b8 b;exact K _ y wA (ku ao b:)
 rintro ap b;try dsimp only at b
 refine Y2 ?_;obtain⟨v,av,b⟩:=dD b;refine Sc rfl rfl (kK av) (Y7 ?_);refine bl 8 _ rfl (kl [1,5,9]) ?_;obtain⟨aw,ax,b⟩:=b5 b;refine aN kN (fun(z:(Sl Z9))=>[(5,.a (.d (Sl.d 2 Z9.c (some f) z)))]) (fun z=>(tS H f 2 z)) (fun z=>aw z=some r) ?_ ?_
 ·intro aY J;refine Y4 ?_;refine Gk 61 ?_;refine Y2 ?_;refine cO b (fun az b=>?_) (fun az b=>?_)
  ·refine Y4 ?_;obtain⟨k,aB,b⟩:=aQ b;refine SH (am Z9.c (TK rfl) rfl (TK rfl) (TK rfl) aB) ?_;refine hq (tS H f 2 k) (Y2 ?_);exact J _ k wA b
  refine ag.skip ?_;exact J _ ap wA b
 rintro w b;try dsimp only at b
 have b:=ku ax b;refine Y4 ?_;exact rt b
def uJ (j:an) (f:Bs) (k:Int):Int:=on (fH j f) fun b=>on (bif (!b.2) then fu f else false) fun g=>bif ((!b.2)&&(!g)) then((8:Int)) else(bif (!decide (b.1.aj=k)) then((9:Int)) else((0:Int)))
theorem Js {g f j r}(b:some (uJ g f j)=some r) (H:ah) :At 65 [.agg (an.c g),.d (.str f),.d (.int .i64 j)] H (RT (.a (.d (.int .i64 r))) H):=by
 unfold uJ at b;refine AC.oW 26 [.tmp 6] Tryz.call65 Tryz.func65 ?_;refine Y7 ?_;obtain⟨t,k,b⟩:=eL b;refine Sc rfl rfl (kK k) (Y7 ?_);refine bl 7 _ rfl (kl [1,2,8]) ?_;refine ar fun u l=>Y5 ?_;obtain⟨v,m,b⟩:=lz (fun _=>rfl) b;refine dx 18 rfl rfl rfl rfl rfl (fun hC=>uy (m hC)) ?_;refine Gk 19 ?_;refine Y2 ?_;refine cP b (fun p b=>?_) (fun p b=>?_)
 ·refine Y3 ?_;exact rt b
 refine sk l (ar fun w q=>Y6 ?_);refine cP b (fun s b=>?_) (fun s b=>?_)
 ·refine Y3 ?_;exact rt b
 refine sk q (Y3 ?_);exact rt b
def nX (b:Bs):List Bs->Unit ⊕ Bool
 | []=>Sum.inl ()
 | f::g=>on (f) fun j=>bif ((j==b)) then(Sum.inr true) else(nX b (g) )
def nY (j:(Sl Bs)) (b:Bs):Bool:=on (nX b j.l ) fun f=>match f with|Sum.inl _=>(on (()) fun _=>false)|Sum.inr g=>(g)
theorem Ek {f g w0 r}(b:some (nY f g)=some r) (H:ah) :At 66 [.d (Sl.d 1 aW w0 f),.d (.str g)] H (RT (.a (.d (.bool r))) H):=by
 unfold nY at b;refine AC.oW 18 [.tmp 4] Tryz.call66 Tryz.func66 ?_;refine Y3 ?_;refine aN kN (fun(z:Unit)=>[]) (fun z=>H) (fun z=>some (false)=some r) ?_ ?_
 ·intro C s;refine Y4 ?_;obtain⟨k,m,b⟩:=eH b;refine bx (tl [0,1]) (fun(z:Nat)=>[(5,vi z)]) (fun z=>H) (fun z=>f.l.length-z) (fun z=>k (nX g (f.l.drop z) )=some r) 0 b wA ?_;rintro p b E t;try dsimp only at b
  refine ar fun F u=>Y3 ?_;refine aV aW f fun G=>Y2 ?_;refine ag.bW (fun l=>k (nX g l )=some r) b rfl (fun I q j b=>?_) (fun j b=>?_)
  ·rw [nX] at b;try dsimp only at j
   have J:=oD j;refine sk u (ar fun K v=>Y4 ?_);obtain⟨L,w,b⟩:=vP q b;refine S (ix aW p w) (Y4 ?_);refine cP b (fun y b=>?_) (fun y b=>?_)
   ·refine Y3 ?_;exact rs (ku m b:)
   refine sk v (Y5 ?_);exact t _ (p+1) wA b (dl q)
  rw [nX] at b;have b:=ku m b;try dsimp only at b
  refine ag.exit ?_;obtain⟨M,B,b⟩:=eH b;exact s _ () wA (ku B b:)
 rintro _ b;try dsimp only at b
 refine Y3 ?_;exact rt b
def iD (b:ax):Bool:=on (bif (decide ((0:Int)<((b.av.l.length:Nat):Int))) then((b.av.l)[0]?.getD (0:Int)) else(0:Int)) fun f=>((decide ((0:Int)<((b.av.l.length:Nat):Int)))&&(decide (f=(1:Int))))
theorem rX {f r}(b:some (iD f)=some r) (H:ah) :At 117 [.agg (ax.c f)] H (RT (.a (.d (.bool r))) H):=by
 unfold iD at b;refine AC.oW 14 [.tmp 2] Tryz.call117 Tryz.func117 ?_;refine Y7 ?_;refine aV (bM .i64) f.av fun j=>Y3 ?_;refine Gk 8 ?_;obtain⟨k,g,b⟩:=lz (fun hc=>Q.getD_some (by simp at hc; omega)) b;refine bE 9 rfl (fun hC=>ix (bM .i64) 0 (g hC)) ?_;refine Gk 10 ?_;refine Gk 11 ?_;refine Y3 ?_;exact rt b
def p8 (b:ax):Option ax:=(js b.av (some (1:Int)) none).bind fun f=>(bq 8 (⟨false,[]⟩:Sl Int) f).bind fun g=>some (ax.mk b.aa g)
theorem Jt {g r}(b:p8 g=some r) (H:ah) :At 192 [.agg (ax.c g)] H (RT (.a (.agg (ax.c r))) H):=by
 unfold p8 at b;refine AC.oW 11 [.cell 2 56] Tryz.call192 Tryz.func192 ?_;refine Y7 ?_;refine aH.s0 (pS (TK rfl) rfl (TK rfl) rfl rfl rfl rfl rfl rfl) rfl ?_;refine Y2 ?_;obtain⟨m,j,b⟩:=bz b;refine aH.s0 (jg (f:=(bM .i64)) (l:=(some (1:Int))) (r:=none) (TK rfl) rfl (TK rfl) rfl rfl rfl trivial j) rfl ?_;obtain⟨p,k,b⟩:=bz b
 refine aH.s0 (um (f:=(bM .i64)) (TK rfl) rfl (TK rfl) (TK rfl) ⟨_,rfl⟩ rfl rfl (by decide) rfl rfl rfl (by intro q h; cases h<;>decide) rfl rfl k) rfl ?_;refine Y3 ?_;exact rt b
def lI (b:ax):Option ax:=on (iD b) fun f=>bif f then((p8 b).bind fun g=>some g) else((bq 8 (⟨false,[]⟩:Sl Int) b.av).bind fun j=>some (ax.mk b.aa j))
theorem xN {g r}(b:lI g=some r) (H:ah) :At 159 [.agg (ax.c g)] H (RT (.a (.agg (ax.c r))) H):=by
 unfold lI at b;refine AC.oW 14 [.cell 2 56] Tryz.call159 Tryz.func159 ?_;refine Y4 ?_;refine ar fun s j=>Y2 ?_;obtain⟨t,k,b⟩:=dD b;refine Sc rfl rfl (rX k) (Y1 ?_);refine cE b (fun l b=>?_) (fun l b=>?_)
 ·refine Y2 ?_;obtain⟨u,m,b⟩:=bz b;refine Sc rfl rfl (Jt m) (Y2 ?_);exact rt b
 refine sk j (Y3 ?_);refine aH.s0 (pS (TK rfl) rfl (TK rfl) rfl rfl rfl rfl rfl rfl) rfl ?_;refine Y2 ?_;obtain⟨v,p,b⟩:=bz b;refine aH.s0 (um (f:=(bM .i64)) (TK rfl) rfl (TK rfl) (TK rfl) ⟨_,rfl⟩ rfl rfl (by decide) rfl rfl rfl (by intro q h; cases h<;>decide) rfl rfl p) rfl ?_;refine Y3 ?_;exact rt b
def uK (g:ax):Option Bool:=(lI g).bind fun b=>on (bif (decide ((0:Int)<((b.av.l.length:Nat):Int))) then((b.av.l)[0]?.getD (0:Int)) else(0:Int)) fun f=>some ((decide ((0:Int)<((b.av.l.length:Nat):Int)))&&(decide (f=(2:Int))))
theorem QH {f r}(b:uK f=some r) (H:ah) :At 193 [.agg (ax.c f)] H (RT (.a (.d (.bool r))) H):=by
 unfold uK at b;refine AC.oW 17 [.tmp 2] Tryz.call193 Tryz.func193 ?_;refine Y6 ?_;obtain⟨g,j,b⟩:=bz b;refine Sc rfl rfl (xN j) (Y3 ?_);refine bl 3 _ rfl dR.nil ?_;refine Y3 ?_;refine aV (bM .i64) g.av fun l=>Y3 ?_;refine Gk 11 ?_;obtain⟨m,k,b⟩:=jv (fun hc=>Q.getD_some (by simp at hc; omega)) b;refine bE 12 rfl (fun hC=>ix (bM .i64) 0 (k hC)) ?_;refine Gk 13 ?_
 refine Gk 14 ?_;refine Y3 ?_;exact rt b
end Go.Proofs
